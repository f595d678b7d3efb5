import PyProof.Rows.All
import HandS.ForMost
import HandS.Walk
import HandS.IsInst
import HandS.TupLe
import HandS.SortRule
import HandS.SortInts
import HandS.Zip
import HandS.Conv
import HandS.Style
import HandS.Defaults
import KE.KDictKeyed
import KE.KDictPairs
import KE.KDictCopyH
import KE.SortData
import KE.KDictSum
import KE.GoesEnumKw
import HandS.Exc
import HandS.NoneIn
import HandS.HeadHook2
import KE.KStateDown
import Lean
import HandS.Head0
import HandS.Head1
import HandS.Head2
import HandS.HeadEnd
import HandS.HeadHook1
import PySem.Challenge.RW_webtimes_k48_whole_taken_away_and_put_ba
set_option Elab.async false
set_option linter.all false
set_option autoImplicit false
set_option maxRecDepth 100000
set_option maxHeartbeats 0
/-! A typed layer over HandS: values of Lean types as they stand in a heap, slots by what they hold. -/
namespace Ty
open PySem PySem.Spec PyProof.Rows L2
abbrev Sg := L2.St

/-! ### Paired -/
theorem pr_mono {α β : Type} {F G : α → β → Prop} (h : ∀ a b, F a b → G a b) : ∀ {xs : List α} {ys : List β}, Paired F xs ys → Paired G xs ys
  | _, _, .nil => .nil
  | _, _, .cons r t => .cons (h _ _ r) (pr_mono h t)
theorem pr_len {α β : Type} {F : α → β → Prop} : ∀ {xs : List α} {ys : List β}, Paired F xs ys → xs.length = ys.length
  | _, _, .nil => rfl
  | _, _, .cons _ t => congrArg Nat.succ (pr_len t)
theorem pr_app {α β : Type} {F : α → β → Prop} : ∀ {xs xs' : List α} {ys ys' : List β}, Paired F xs ys → Paired F xs' ys' → Paired F (xs ++ xs') (ys ++ ys')
  | _, _, _, _, .nil, s => s
  | _, _, _, _, .cons r t, s => .cons r (pr_app t s)
theorem pr_get {α β : Type} {F : α → β → Prop} : ∀ {xs : List α} {ys : List β} {i : Nat} {y : β}, Paired F xs ys → ys[i]? = some y → ∃ x, xs[i]? = some x ∧ F x y
  | _, _, _, _, .nil, e => by simp at e
  | x :: _, _, 0, y, .cons r _, e => by
    have e2 := Option.some.inj e
    subst e2
    exact ⟨x, rfl, r⟩
  | _ :: _, _ :: _, i + 1, y, .cons _ t, e => pr_get (i := i) t e
theorem pr_get' {α β : Type} {F : α → β → Prop} : ∀ {xs : List α} {ys : List β} {i : Nat} {x : α}, Paired F xs ys → xs[i]? = some x → ∃ y, ys[i]? = some y ∧ F x y
  | _, _, _, _, .nil, e => by simp at e
  | x :: _, y :: _, 0, _, .cons r _, e => by
    have e2 := Option.some.inj e
    subst e2
    exact ⟨y, rfl, r⟩
  | _ :: _, _ :: _, i + 1, y, .cons _ t, e => pr_get' (i := i) t e
theorem pr_set {α β : Type} {F : α → β → Prop} {x : α} {y : β} (r : F x y) : ∀ {xs : List α} {ys : List β} (i : Nat), Paired F xs ys → Paired F (xs.set i x) (ys.set i y)
  | _, _, _, .nil => .nil
  | _, _, 0, .cons _ t => .cons r t
  | _, _, i + 1, .cons q t => .cons q (pr_set r i t)
theorem pr_take {α β : Type} {F : α → β → Prop} : ∀ {xs : List α} {ys : List β} (n : Nat), Paired F xs ys → Paired F (xs.take n) (ys.take n)
  | _, _, 0, _ => .nil
  | _, _, _ + 1, .nil => .nil
  | _, _, n + 1, .cons r t => .cons r (pr_take n t)
theorem pr_drop {α β : Type} {F : α → β → Prop} : ∀ {xs : List α} {ys : List β} (n : Nat), Paired F xs ys → Paired F (xs.drop n) (ys.drop n)
  | _, _, 0, r => r
  | _, _, _ + 1, .nil => .nil
  | _, _, n + 1, .cons _ t => pr_drop n t
theorem pr_rev {α β : Type} {F : α → β → Prop} : ∀ {xs : List α} {ys : List β}, Paired F xs ys → Paired F xs.reverse ys.reverse
  | _, _, .nil => .nil
  | x :: xs, y :: ys, .cons r t => by
    rw [List.reverse_cons, List.reverse_cons]
    exact pr_app (pr_rev t) (.cons r .nil)
theorem pr_erase {α β : Type} {F : α → β → Prop} : ∀ {xs : List α} {ys : List β} (n : Nat), Paired F xs ys → Paired F (xs.eraseIdx n) (ys.eraseIdx n)
  | _, _, _, .nil => .nil
  | _, _, 0, .cons _ t => t
  | _, _, n + 1, .cons r t => .cons r (pr_erase n t)
theorem pr_rep {α β : Type} {F : α → β → Prop} {x : α} {y : β} (r : F x y) : ∀ n : Nat, Paired F (List.replicate n x) (List.replicate n y)
  | 0 => .nil
  | n + 1 => .cons r (pr_rep r n)
theorem pr_map {α β γ δ : Type} {F : α → β → Prop} {G : γ → δ → Prop} {f : α → γ} {g : β → δ} (h : ∀ a b, F a b → G (f a) (g b)) : ∀ {xs : List α} {ys : List β}, Paired F xs ys → Paired G (xs.map f) (ys.map g)
  | _, _, .nil => .nil
  | _, _, .cons r t => .cons (h _ _ r) (pr_map h t)
theorem pr_of {α β : Type} {F : α → β → Prop} : ∀ {xs : List α} {ys : List β}, xs.length = ys.length → (∀ (i : Nat) x y, xs[i]? = some x → ys[i]? = some y → F x y) → Paired F xs ys
  | [], [], _, _ => .nil
  | [], _ :: _, e, _ => by simp at e
  | _ :: _, [], e, _ => by simp at e
  | x :: xs, y :: ys, e, h => .cons (h 0 x y rfl rfl) (pr_of (by simpa using e) fun i a b p q => h (i + 1) a b p q)

/-! ### data in a heap -/
class Enc (α : Type) where
  rep : Hp → V → α → Prop
  mono : ∀ {H H' : Hp} {v : V} {x : α}, Same H H' → rep H v x → rep H' v x
open Enc (rep mono)
/-- one thing for each, in order -/
abbrev reps {α : Type} [Enc α] (H : Hp) (vs : List V) (xs : List α) : Prop := Paired (rep H) vs xs
instance : Enc Int := ⟨fun _ v i => v = .int i, fun _ h => h⟩
instance : Enc Nat := ⟨fun _ v n => v = .int (n : Int), fun _ h => h⟩
instance : Enc Bool := ⟨fun _ v b => v = .bl b, fun _ h => h⟩
instance : Enc Unit := ⟨fun _ v _ => v = .non, fun _ h => h⟩
instance : Enc Str := ⟨fun _ v z => v = .str z, fun _ h => h⟩
/-- None, or a thing -/
instance {α : Type} [Enc α] : Enc (Option α) := ⟨fun H v o => match o with
  | none => v = .non
  | some x => rep H v x, fun {H H' v o} s h => by
    cases o with
    | none => exact h
    | some x => exact mono s h⟩
instance {α : Type} [Enc α] : Enc (List α) := ⟨fun H v xs => ∃ a vs, v = .ref a ∧ H a = some (.lst vs) ∧ reps H vs xs,
  fun s h => by
    obtain ⟨a, vs, e, h1, h2⟩ := h
    exact ⟨a, vs, e, s _ _ h1, pr_mono (fun _ _ r => mono s r) h2⟩⟩
instance {α β : Type} [Enc α] [Enc β] : Enc (α × β) := ⟨fun H v p => ∃ a x y, v = .ref a ∧ H a = some (.tup [x, y]) ∧ rep H x p.1 ∧ rep H y p.2,
  fun s h => by
    obtain ⟨a, x, y, e, h1, h2, h3⟩ := h
    exact ⟨a, x, y, e, s _ _ h1, mono s h2, mono s h3⟩⟩
/-- a tuple of three -/
structure T3 (α β γ : Type) where
  a : α
  b : β
  c : γ
instance {α β γ : Type} [Enc α] [Enc β] [Enc γ] : Enc (T3 α β γ) := ⟨fun H v p => ∃ a x y z, v = .ref a ∧ H a = some (.tup [x, y, z]) ∧ rep H x p.a ∧ rep H y p.b ∧ rep H z p.c,
  fun s h => by
    obtain ⟨a, x, y, z, e, h1, h2, h3, h4⟩ := h
    exact ⟨a, x, y, z, e, s _ _ h1, mono s h2, mono s h3, mono s h4⟩⟩
/-- a tuple of things of one kind, of any length -/
structure Tp (α : Type) where
  l : List α
instance {α : Type} [Enc α] : Enc (Tp α) := ⟨fun H v p => ∃ a vs, v = .ref a ∧ H a = some (.tup vs) ∧ reps H vs p.l,
  fun s h => by
    obtain ⟨a, vs, e, h1, h2⟩ := h
    exact ⟨a, vs, e, s _ _ h1, pr_mono (fun _ _ r => mono s r) h2⟩⟩
/-- keys of dicts that are tuples of ints -/
class KeyT (κ : Type) where
  key : κ → List Key
  inj : ∀ {a b : κ}, key a = key b → a = b
instance : KeyT (Nat × Nat) := ⟨fun p => [.inl (p.1 : Int), .inl (p.2 : Int)], fun {a b} h => by
  have h1 : ((a.1 : Int)) = b.1 := Sum.inl.inj (List.cons.inj h).1
  have h2 : ((a.2 : Int)) = b.2 := Sum.inl.inj (List.cons.inj (List.cons.inj h).2).1
  exact Prod.ext (by omega) (by omega)⟩
theorem nat_keys_inj : ∀ {a b : List Nat}, a.map (fun (n : Nat) => (Sum.inl (n : Int) : Key)) = b.map (fun (n : Nat) => (Sum.inl (n : Int) : Key)) → a = b
  | [], [], _ => rfl
  | [], _ :: _, h => by simp at h
  | _ :: _, [], h => by simp at h
  | x :: a, y :: b, h => by
    have h1 : ((x : Int)) = y := Sum.inl.inj (List.cons.inj h).1
    have h2 := nat_keys_inj (List.cons.inj h).2
    rw [h2, show x = y by omega]
instance : KeyT (Tp Nat) := ⟨fun p => p.l.map fun (n : Nat) => (Sum.inl (n : Int) : Key), fun {a b} h => by
  obtain ⟨a⟩ := a
  obtain ⟨b⟩ := b
  exact congrArg Tp.mk (nat_keys_inj h)⟩
/-- a dict whose keys are tuples; one whose keys are ints -/
structure DT (κ β : Type) where
  l : List (κ × β)
structure DI (β : Type) where
  l : List (Nat × β)
def repDT {κ β : Type} [KeyT κ] [Enc β] (H : Hp) (kvs : List (List Key × V)) (l : List (κ × β)) : Prop := Paired (fun (p : List Key × V) (q : κ × β) => p.1 = KeyT.key q.1 ∧ rep H p.2 q.2) kvs l
def repDI {β : Type} [Enc β] (H : Hp) (kvs : List (Key × V)) (l : List (Nat × β)) : Prop := Paired (fun (p : Key × V) (q : Nat × β) => p.1 = Sum.inl (q.1 : Int) ∧ rep H p.2 q.2) kvs l
instance {κ β : Type} [KeyT κ] [Enc β] : Enc (DT κ β) := ⟨fun H v d => ∃ a kvs, v = .ref a ∧ H a = some (.dT kvs) ∧ repDT H kvs d.l,
  fun s h => by
    obtain ⟨a, vs, e, h1, h2⟩ := h
    exact ⟨a, vs, e, s _ _ h1, pr_mono (fun _ _ r => ⟨r.1, mono s r.2⟩) h2⟩⟩
instance {β : Type} [Enc β] : Enc (DI β) := ⟨fun H v d => ∃ a kvs, v = .ref a ∧ H a = some (.dK kvs) ∧ repDI H kvs d.l,
  fun s h => by
    obtain ⟨a, vs, e, h1, h2⟩ := h
    exact ⟨a, vs, e, s _ _ h1, pr_mono (fun _ _ r => ⟨r.1, mono s r.2⟩) h2⟩⟩
/-- a datum of any kind -/
structure Dyn : Type 1 where
  {α : Type}
  [i : Enc α]
  x : α
def Dyn.rep (d : Dyn) (H : Hp) (v : V) : Prop := @Enc.rep d.α d.i H v d.x
theorem Dyn.rep.mono {d : Dyn} {H H' : Hp} {v : V} (h : d.rep H v) (s : Same H H') : d.rep H' v := @Enc.mono d.α d.i H H' v d.x s h

/-! ### things of one's own: they may be changed -/
/-- told at: what is frozen, the heap, the value, the addresses that are one's own -/
class OEnc (β : Type) where
  orep : Hp → Hp → V → List Addr → β → Prop
  ocong : ∀ {G G' H H' : Hp} {v : V} {ps : List Addr} {y : β}, Same G G' → (∀ p ∈ ps, H' p = H p) → orep G H v ps y → orep G' H' v ps y
/-- a list of one's own -/
structure Ol (α : Type) where
  l : List α
instance {α : Type} [Enc α] : OEnc (Ol α) := ⟨fun G H v ps y => ∃ p vs, v = .ref p ∧ ps = [p] ∧ H p = some (.lst vs) ∧ reps G vs y.l,
  fun {G G' H H' v ps y} s k h => by
    obtain ⟨p, vs, e1, e2, h1, h2⟩ := h
    subst e1 e2
    exact ⟨p, vs, rfl, rfl, (k p (List.mem_cons_self ..)).trans h1, pr_mono (fun _ _ r => mono s r) h2⟩⟩
/-- a dict of one's own, with tuple keys -/
structure Od (κ β : Type) where
  l : List (κ × β)
instance {κ β : Type} [KeyT κ] [Enc β] : OEnc (Od κ β) := ⟨fun G H v ps y => ∃ p kvs, v = .ref p ∧ ps = [p] ∧ H p = some (.dT kvs) ∧ repDT G kvs y.l,
  fun {G G' H H' v ps y} s k h => by
    obtain ⟨p, vs, e1, e2, h1, h2⟩ := h
    subst e1 e2
    exact ⟨p, vs, rfl, rfl, (k p (List.mem_cons_self ..)).trans h1, pr_mono (fun _ _ r => ⟨r.1, mono s r.2⟩) h2⟩⟩
/-- a list of one's own lists -/
structure Oll (α : Type) where
  l : List (List α)
instance {α : Type} [Enc α] : OEnc (Oll α) := ⟨fun G H v ps y => ∃ p qs, v = .ref p ∧ ps = p :: qs ∧ H p = some (.lst (qs.map V.ref)) ∧ Paired (fun q xs => ∃ vs, H q = some (.lst vs) ∧ reps G vs xs) qs y.l,
  fun {G G' H H' v ps y} s k h => by
    obtain ⟨p, qs, e1, e2, h1, h2⟩ := h
    subst e1 e2
    refine ⟨p, qs, rfl, rfl, (k p (List.mem_cons_self ..)).trans h1, pr_of (pr_len h2) fun i q xs hq hx => ?_⟩
    obtain ⟨q', e, vs, h3, h4⟩ := pr_get h2 hx
    rw [hq] at e
    have e2 := Option.some.inj e
    subst e2
    exact ⟨vs, (k q (List.mem_cons_of_mem _ (List.mem_of_getElem? hq))).trans h3, pr_mono (fun _ _ r => mono s r) h4⟩⟩

structure ODyn : Type 1 where
  {β : Type}
  [i : OEnc β]
  y : β
def ODyn.orep (d : ODyn) (G H : Hp) (v : V) (ps : List Addr) : Prop := @OEnc.orep d.β d.i G H v ps d.y
theorem ODyn.orep.cong {d : ODyn} {G G' H H' : Hp} {v : V} {ps : List Addr} (h : d.orep G H v ps) (s : Same G G') (k : ∀ p ∈ ps, H' p = H p) : d.orep G' H' v ps := @OEnc.ocong d.β d.i G G' H H' v ps d.y s k h

/-! ### slots -/
inductive Sl : Type 1 where
  | non
  | fro (d : Dyn)
  | own (ps : List Addr) (y : ODyn)
def Sl.ads : Sl → List Addr
  | .own ps _ => ps
  | _ => []
/-- nothing is there, or a tuple (which never changes) -/
def Fr0 (o : Option HO) : Prop := o = none ∨ ∃ xs, o = some (.tup xs)
/-- no tuple -/
def Nt (o : HO) : Prop := ∀ xs, o ≠ .tup xs
theorem nt_lst {xs : List V} : Nt (.lst xs) := fun _ h => by cases h
theorem nt_dT {kvs : List (List Key × V)} : Nt (.dT kvs) := fun _ h => by cases h
theorem Fr0.no {H : Hp} {a : Addr} {o : HO} (h : Fr0 (H a)) (e : H a = some o) (n : Nt o) : False := by
  rcases h with h | ⟨xs, h⟩
  · rw [e] at h
    cases h
  · rw [e] at h
    exact n xs (Option.some.inj h)
theorem Fr0.back {H H' : Hp} {a : Addr} (s : Same H H') (h : Fr0 (H' a)) : Fr0 (H a) := by
  cases e : H a with
  | none => exact .inl rfl
  | some o =>
    have e2 := s a o e
    rcases h with h | ⟨xs, h⟩
    · rw [e2] at h
      cases h
    · rw [e2] at h
      exact .inr ⟨xs, h⟩
def SlOk (G H : Hp) (o : Option (Option V)) : Sl → Prop
  | .non => True
  | .fro d => ∃ v, o = some (some v) ∧ d.rep G v
  | .own ps y => ∃ v, o = some (some v) ∧ ps.Nodup ∧ (∀ p ∈ ps, G p = none ∧ ∃ ob, H p = some ob ∧ Nt ob) ∧ y.orep G H v ps
abbrev Env' := List Sl
/-- the addresses that the i-th slot owns -/
def ads (Γ : Env') (i : Nat) : List Addr := (Γ[i]?.map Sl.ads).getD []
/-- B: the frozen part and the frame as they stood at the start -/
structure Fits (B : Hp × Hp) (Γ : Env') (σ : Sg) (G H : Hp) : Prop where
  len : σ.length = Γ.length
  sub : Same G H
  ok : ∀ (i : Nat) s, Γ[i]? = some s → SlOk G H σ[i]? s
  apart : ∀ (i j : Nat) p, p ∈ ads Γ i → p ∈ ads Γ j → i = j
  bg : Same B.1 G
  bh : Same B.2 H
  fresh : ∀ a, B.1 a = none → G a ≠ none → Fr0 (B.2 a)
  ob : ∀ (i : Nat) p, p ∈ ads Γ i → B.2 p = none
/-- more is frozen, what stood stands -/
structure Step (G H G' H' : Hp) : Prop where
  g : Same G G'
  h : Same H H'
  s : Same G' H'
  n : ∀ a, G a = none → G' a ≠ none → Fr0 (H a)
theorem Step.refl {G H : Hp} (s : Same G H) : Step G H G H := ⟨Same.refl _, Same.refl _, s, fun a h h' => absurd h h'⟩
theorem none_of {H H' : Hp} {a : Addr} (s : Same H H') (h : H' a = none) : H a = none := s.free h
theorem Step.trans {G H G1 H1 G2 H2 : Hp} (a : Step G H G1 H1) (b : Step G1 H1 G2 H2) : Step G H G2 H2 :=
  ⟨a.g.trans b.g, a.h.trans b.h, b.s, fun x h h' => by
    by_cases e : G1 x = none
    · exact (b.n x e h').back a.h
    · exact a.n x h e⟩
theorem same_new {H : Hp} {p : Addr} {o : HO} (h : H p = none) : Same H (upd H p o) := fun b x e => by
  rw [upd_ne (ne_of_none e h)]
  exact e
theorem same_both {G H : Hp} {p : Addr} {o : HO} (s : Same G H) : Same (upd G p o) (upd H p o) := fun b x e => by
  by_cases hb : b = p
  · subst hb
    rw [upd_same] at e ⊢
    exact e
  · rw [upd_ne hb] at e ⊢
    exact s b x e
/-- a new thing, frozen at once -/
theorem Step.new {G H : Hp} {p : Addr} {o : HO} (s : Same G H) (h : H p = none) : Step G H (upd G p o) (upd H p o) :=
  ⟨same_new (none_of s h), same_new h, same_both s, fun a e e' => by
    by_cases hb : a = p
    · subst hb
      exact .inl h
    · rw [upd_ne hb] at e'
      exact absurd e e'⟩
theorem Fits.step {B : Hp × Hp} {Γ : Env'} {σ : Sg} {G H G' H' : Hp} (f : Fits B Γ σ G H) (t : Step G H G' H') : Fits B Γ σ G' H' where
  len := f.len
  sub := t.s
  ok := fun i s e => by
    have h := f.ok i s e
    cases s with
    | non => trivial
    | fro d =>
      obtain ⟨v, e1, r⟩ := h
      exact ⟨v, e1, r.mono t.g⟩
    | own ps y =>
      obtain ⟨v, e1, nd, h1, r⟩ := h
      refine ⟨v, e1, nd, fun p hp => ?_, r.cong t.g (fun p hp => ?_)⟩
      · obtain ⟨g, ob, hob, nt⟩ := h1 p hp
        refine ⟨?_, ob, t.h _ _ hob, nt⟩
        cases e2 : G' p with
        | none => rfl
        | some o => exact ((t.n p g (by rw [e2]; exact fun z => nomatch z)).no hob nt).elim
      · obtain ⟨g, ob, hob, nt⟩ := h1 p hp
        rw [hob]
        exact t.h _ _ hob
  apart := f.apart
  bg := f.bg.trans t.g
  bh := f.bh.trans t.h
  fresh := fun a h h' => by
    by_cases e : G a = none
    · exact (t.n a e h').back f.bh
    · exact f.fresh a h e
  ob := f.ob

/-! ### the slots change -/
theorem ads_set {Γ : Env'} {i j : Nat} {s : Sl} : ads (Γ.set i s) j = if i = j ∧ j < Γ.length then s.ads else ads Γ j := by
  unfold ads
  by_cases h : i = j
  · subst h
    by_cases hl : i < Γ.length
    · rw [List.getElem?_set_self hl, if_pos ⟨rfl, hl⟩] <;> rfl
    · rw [if_neg (fun z => hl z.2), List.getElem?_eq_none (by rw [List.length_set]; omega), List.getElem?_eq_none (by omega)]
  · rw [List.getElem?_set_ne h, if_neg (fun z => h z.1)]
theorem own_at {B : Hp × Hp} {Γ : Env'} {σ : Sg} {G H : Hp} (f : Fits B Γ σ G H) {i : Nat} {p : Addr} (h : p ∈ ads Γ i) : G p = none ∧ (∃ ob, H p = some ob ∧ Nt ob) ∧ ∃ ps y, Γ[i]? = some (.own ps y) ∧ p ∈ ps := by
  unfold ads at h
  cases e : Γ[i]? with
  | none =>
    rw [e] at h
    cases h
  | some s =>
    rw [e] at h
    cases s with
    | non => cases h
    | fro d => cases h
    | own ps y =>
      obtain ⟨v, e1, nd, h1, r⟩ := f.ok i _ e
      have hp : p ∈ ps := h
      exact ⟨(h1 p hp).1, (h1 p hp).2, ps, y, rfl, hp⟩
/-- a slot gets something that owns nothing -/
theorem Fits.put {B : Hp × Hp} {Γ : Env'} {σ : Sg} {G H : Hp} (f : Fits B Γ σ G H) (i : Nat) {d : Dyn} {v : V} (r : d.rep G v) : Fits B (Γ.set i (.fro d)) (σ.set i (some v)) G H where
  len := by rw [List.length_set, List.length_set, f.len]
  sub := f.sub
  ok := fun j s e => by
    by_cases h : i = j
    · subst h
      by_cases hl : i < Γ.length
      · rw [List.getElem?_set_self hl] at e
        have e2 := Option.some.inj e
        subst e2
        exact ⟨v, by rw [List.getElem?_set_self (by rw [f.len]; exact hl)], r⟩
      · rw [List.getElem?_eq_none (by rw [List.length_set]; omega)] at e
        cases e
    · rw [List.getElem?_set_ne h] at e ⊢
      exact f.ok j s e
  apart := fun j k p h1 h2 => by
    rw [ads_set] at h1 h2
    split at h1
    · cases h1
    · split at h2
      · cases h2
      · exact f.apart j k p h1 h2
  bg := f.bg
  bh := f.bh
  fresh := f.fresh
  ob := fun j p h => by
    rw [ads_set] at h
    split at h
    · cases h
    · exact f.ob j p h
/-- a slot is forgotten; the slot's value may be any -/
theorem Fits.drop {B : Hp × Hp} {Γ : Env'} {σ : Sg} {G H : Hp} (f : Fits B Γ σ G H) (i : Nat) (o : Option V) : Fits B (Γ.set i .non) (σ.set i o) G H where
  len := by rw [List.length_set, List.length_set, f.len]
  sub := f.sub
  ok := fun j s e => by
    by_cases h : i = j
    · subst h
      by_cases hl : i < Γ.length
      · rw [List.getElem?_set_self hl] at e
        have e2 := Option.some.inj e
        subst e2
        trivial
      · rw [List.getElem?_eq_none (by rw [List.length_set]; omega)] at e
        cases e
    · rw [List.getElem?_set_ne h] at e ⊢
      exact f.ok j s e
  apart := fun j k p h1 h2 => by
    rw [ads_set] at h1 h2
    split at h1
    · cases h1
    · split at h2
      · cases h2
      · exact f.apart j k p h1 h2
  bg := f.bg
  bh := f.bh
  fresh := f.fresh
  ob := fun j p h => by
    rw [ads_set] at h
    split at h
    · cases h
    · exact f.ob j p h
/-- a slot gets a new thing of one's own: H' holds it at ps, where H had nothing -/
theorem Fits.putN {B : Hp × Hp} {Γ : Env'} {σ : Sg} {G H H' : Hp} (f : Fits B Γ σ G H) (i : Nat) {y : ODyn} {v : V} {ps : List Addr} (s : Same H H') (nd : ps.Nodup) (n : ∀ p ∈ ps, H p = none ∧ ∃ ob, H' p = some ob ∧ Nt ob) (r : y.orep G H' v ps) :
    Fits B (Γ.set i (.own ps y)) (σ.set i (some v)) G H' where
  len := by rw [List.length_set, List.length_set, f.len]
  sub := f.sub.trans s
  ok := fun j t e => by
    by_cases h : i = j
    · subst h
      by_cases hl : i < Γ.length
      · rw [List.getElem?_set_self hl] at e
        have e2 := Option.some.inj e
        subst e2
        exact ⟨v, by rw [List.getElem?_set_self (by rw [f.len]; exact hl)], nd, fun p hp => ⟨none_of f.sub (n p hp).1, (n p hp).2⟩, r⟩
      · rw [List.getElem?_eq_none (by rw [List.length_set]; omega)] at e
        cases e
    · rw [List.getElem?_set_ne h] at e ⊢
      have q := f.ok j t e
      cases t with
      | non => trivial
      | fro d => exact q
      | own qs z =>
        obtain ⟨w, e1, nd1, h1, r1⟩ := q
        refine ⟨w, e1, nd1, fun p hp => ?_, r1.cong (Same.refl _) fun p hp => ?_⟩
        · obtain ⟨g, ob, hob, nt⟩ := h1 p hp
          exact ⟨g, ob, s _ _ hob, nt⟩
        · obtain ⟨g, ob, hob, nt⟩ := h1 p hp
          rw [hob]
          exact s _ _ hob
  apart := fun j k p h1 h2 => by
    rw [ads_set] at h1 h2
    split at h1
    · rename_i c1
      split at h2
      · rename_i c2
        exact c1.1.symm.trans c2.1
      · have q := own_at f h2
        obtain ⟨_, ⟨ob, e, _⟩, _⟩ := q
        rw [(n p h1).1] at e
        cases e
    · split at h2
      · have q := own_at f h1
        obtain ⟨_, ⟨ob, e, _⟩, _⟩ := q
        rw [(n p h2).1] at e
        cases e
      · exact f.apart j k p h1 h2
  bg := f.bg
  bh := f.bh.trans s
  fresh := f.fresh
  ob := fun j p h => by
    rw [ads_set] at h
    split at h
    · exact none_of f.bh (n p h).1
    · exact f.ob j p h
/-- a thing of one's own changes: only at its own addresses (and at new ones, that it owns from then on) -/
theorem Fits.mut {B : Hp × Hp} {Γ : Env'} {σ : Sg} {G H H' : Hp} (f : Fits B Γ σ G H) {i : Nat} {y y' : ODyn} {v : V} {ps ps' : List Addr} (e : Γ[i]? = some (.own ps y)) (ev : σ[i]? = some (some v))
    (k : ∀ a, a ∉ ps → a ∉ ps' → H' a = H a) (nd : ps'.Nodup) (n : ∀ p ∈ ps', (p ∈ ps ∨ H p = none) ∧ ∃ ob, H' p = some ob ∧ Nt ob) (r : y'.orep G H' v ps') : Fits B (Γ.set i (.own ps' y')) σ G H' := by
  have hl : i < Γ.length := (List.getElem?_eq_some_iff.mp e).1
  obtain ⟨v0, e0, nd0, h0, r0⟩ := f.ok i _ e
  have ai : ads Γ i = ps := by
    unfold ads
    rw [e]
    rfl
  have gn : ∀ p ∈ ps', G p = none := fun p hp => by
    rcases (n p hp).1 with z | z
    · exact (h0 p z).1
    · exact none_of f.sub z
  have keep : ∀ a o, H a = some o → a ∉ ps → H' a = some o := fun a o ha hn => by
    by_cases hp : a ∈ ps'
    · rcases (n a hp).1 with z | z
      · exact absurd z hn
      · rw [z] at ha
        cases ha
    · rw [k a hn hp]
      exact ha
  refine ⟨by rw [List.length_set, f.len], fun a o ha => ?_, fun j t q => ?_, fun j l p h1 h2 => ?_, f.bg, fun a o ha => ?_, f.fresh, fun j p h => ?_⟩
  · refine keep a o (f.sub a o ha) fun z => ?_
    rw [(h0 a z).1] at ha
    cases ha
  · by_cases h : i = j
    · subst h
      rw [List.getElem?_set_self hl] at q
      have e2 := Option.some.inj q
      subst e2
      exact ⟨v, ev, nd, fun p hp => ⟨gn p hp, (n p hp).2⟩, r⟩
    · rw [List.getElem?_set_ne h] at q
      have z := f.ok j t q
      cases t with
      | non => trivial
      | fro d => exact z
      | own qs w =>
        obtain ⟨u, e1, nd1, h1, r1⟩ := z
        have ap : ∀ p ∈ qs, p ∉ ps := fun p hp hp2 => by
          refine h (f.apart i j p (by rw [ai]; exact hp2) ?_)
          unfold ads
          rw [q]
          exact hp
        refine ⟨u, e1, nd1, fun p hp => ?_, r1.cong (Same.refl _) fun p hp => ?_⟩
        · obtain ⟨g, ob, hob, nt⟩ := h1 p hp
          exact ⟨g, ob, keep p ob hob (ap p hp), nt⟩
        · obtain ⟨g, ob, hob, nt⟩ := h1 p hp
          rw [hob]
          exact keep p ob hob (ap p hp)
  · rw [ads_set] at h1 h2
    split at h1
    · rename_i c1
      split at h2
      · rename_i c2
        exact c1.1.symm.trans c2.1
      · rcases (n p h1).1 with z | z
        · rw [← c1.1]
          exact f.apart i l p (by rw [ai]; exact z) h2
        · obtain ⟨_, ⟨ob, e3, _⟩, _⟩ := own_at f h2
          rw [z] at e3
          cases e3
    · split at h2
      · rename_i c2
        rcases (n p h2).1 with z | z
        · rw [← c2.1]
          exact (f.apart i j p (by rw [ai]; exact z) h1).symm
        · obtain ⟨_, ⟨ob, e3, _⟩, _⟩ := own_at f h1
          rw [z] at e3
          cases e3
      · exact f.apart j l p h1 h2
  · refine keep a o (f.bh a o ha) fun z => ?_
    rw [f.ob i a (by rw [ai]; exact z)] at ha
    cases ha
  · rw [ads_set] at h
    split at h
    · rcases (n p h).1 with z | z
      · exact f.ob i p (by rw [ai]; exact z)
      · exact none_of f.bh z
    · exact f.ob j p h

/-! ### what is known less -/
/-- the second knows less: each slot is as in the first, or forgotten -/
inductive Wk : Env' → Env' → Prop
  | nil : Wk [] []
  | same {s : Sl} {Γ Γ' : Env'} : Wk Γ Γ' → Wk (s :: Γ) (s :: Γ')
  | drop {s : Sl} {Γ Γ' : Env'} : Wk Γ Γ' → Wk (s :: Γ) (.non :: Γ')
theorem Wk.refl : ∀ Γ : Env', Wk Γ Γ
  | [] => .nil
  | _ :: Γ => .same (Wk.refl Γ)
theorem Wk.len : ∀ {Γ Γ' : Env'}, Wk Γ Γ' → Γ.length = Γ'.length
  | _, _, .nil => rfl
  | _, _, .same h => congrArg Nat.succ h.len
  | _, _, .drop h => congrArg Nat.succ h.len
theorem Wk.at : ∀ {Γ Γ' : Env'} {i : Nat} {s : Sl}, Wk Γ Γ' → Γ'[i]? = some s → s = .non ∨ Γ[i]? = some s
  | _, _, _, _, .nil, e => by simp at e
  | _, _, 0, s, .same h, e => .inr e
  | _, _, 0, s, .drop h, e => .inl (Option.some.inj e).symm
  | _ :: _, _ :: _, i + 1, s, .same h, e => h.at (i := i) e
  | _ :: _, _ :: _, i + 1, s, .drop h, e => h.at (i := i) e
theorem Wk.ads {Γ Γ' : Env'} (h : Wk Γ Γ') {i : Nat} {p : Addr} (hp : p ∈ ads Γ' i) : p ∈ ads Γ i := by
  unfold Ty.ads at hp ⊢
  cases e : Γ'[i]? with
  | none =>
    rw [e] at hp
    cases hp
  | some s =>
    rcases h.at e with z | z
    · subst z
      rw [e] at hp
      cases hp
    · rw [e] at hp
      rw [z]
      exact hp
theorem Fits.weak {B : Hp × Hp} {Γ Γ' : Env'} {σ : Sg} {G H : Hp} (f : Fits B Γ σ G H) (h : Wk Γ Γ') : Fits B Γ' σ G H where
  len := f.len.trans h.len
  sub := f.sub
  ok := fun i s e => by
    rcases h.at e with z | z
    · subst z
      trivial
    · exact f.ok i s z
  apart := fun i j p h1 h2 => f.apart i j p (h.ads h1) (h.ads h2)
  bg := f.bg
  bh := f.bh
  fresh := f.fresh
  ob := fun i p hp => f.ob i p (h.ads hp)

/-! ### frames -/
open Classical in
/-- all that no slot owns -/
noncomputable def noOwn (Γ : Env') (H : Hp) : Hp := fun a => if ∃ i, a ∈ ads Γ i then none else H a
theorem noOwn_some {Γ : Env'} {H : Hp} {a : Addr} {o : HO} : noOwn Γ H a = some o ↔ (¬ ∃ i, a ∈ ads Γ i) ∧ H a = some o := by
  unfold noOwn
  split
  · rename_i h
    exact ⟨(fun z => by cases z), fun z => absurd h z.1⟩
  · rename_i h
    exact ⟨fun z => ⟨h, z⟩, fun z => z.2⟩
theorem Fits.frame {B : Hp × Hp} {Γ : Env'} {σ : Sg} {G H : Hp} (f : Fits B Γ σ G H) : Fits (G, noOwn Γ H) Γ σ G H where
  len := f.len
  sub := f.sub
  ok := f.ok
  apart := f.apart
  bg := Same.refl _
  bh := fun a o h => (noOwn_some.mp h).2
  fresh := fun a h h' => absurd h h'
  ob := fun i p h => by
    cases e : noOwn Γ H p with
    | none => exact e
    | some o => exact absurd ⟨i, h⟩ (noOwn_some.mp e).1
theorem Fits.unframe {B : Hp × Hp} {Γ Γ' : Env'} {σ σ' : Sg} {G H G' H' : Hp} (f : Fits B Γ σ G H) (f' : Fits (G, noOwn Γ H) Γ' σ' G' H') : Fits B Γ' σ' G' H' := by
  have bF : Same B.2 (noOwn Γ H) := fun a o h => noOwn_some.mpr ⟨(fun ⟨i, hi⟩ => by
    rw [f.ob i a hi] at h
    cases h), f.bh a o h⟩
  refine ⟨f'.len, f'.sub, f'.ok, f'.apart, f.bg.trans f'.bg, bF.trans f'.bh, fun a h h' => ?_, fun i p h => none_of bF (f'.ob i p h)⟩
  by_cases e : G a = none
  · exact (f'.fresh a e h').back bF
  · exact f.fresh a h e
/-- from the frozen part as it stands at some point -/
theorem Fits.from {B : Hp × Hp} {Γ : Env'} {σ : Sg} {G H : Hp} (f : Fits B Γ σ G H) : Fits (G, B.2) Γ σ G H :=
  ⟨f.len, f.sub, f.ok, f.apart, Same.refl _, f.bh, fun a h h' => absurd h h', f.ob⟩
theorem Fits.unfrom {B : Hp × Hp} {Γ Γ' : Env'} {σ σ' : Sg} {G H G' H' : Hp} (f : Fits B Γ σ G H) (f' : Fits (G, B.2) Γ' σ' G' H') : Fits B Γ' σ' G' H' :=
  ⟨f'.len, f'.sub, f'.ok, f'.apart, f.bg.trans f'.bg, f'.bh, fun a h h' => by
    by_cases e : G a = none
    · exact f'.fresh a e h'
    · exact f.fresh a h e, f'.ob⟩
/-- no slot owns anything that the frame knows: a thing of the frame stands -/
theorem Fits.stands {B : Hp × Hp} {Γ : Env'} {σ : Sg} {G H : Hp} (f : Fits B Γ σ G H) {a : Addr} {o : HO} (h : B.2 a = some o) : H a = some o := f.bh a o h
end Ty

namespace Ty
open PySem PySem.Spec PyProof.Rows L2 Ty.Enc

/-! ### readings, whichever they are -/
def tE (X : Cx) (e : Expr) : TE := fun σ H Q => ∃ t, PE X e t ∧ t σ H Q
def tT (X : Cx) (e : Expr) : TT := fun σ H Q => ∃ t, PT X e t ∧ t σ H Q
def tW (X : Cx) (e : Expr) : TT := fun σ H Q => ∃ t, PW X e t ∧ t σ H Q
def tA (X : Cx) (es : List Expr) : TA := fun σ H Q => ∃ t, PA X es t ∧ t σ H Q
def tS (X : Cx) (st : Stmt) : TS := fun D σ H => ∃ t, PS X st t ∧ t D σ H
def tSs (X : Cx) (st : List Stmt) : TS := fun D σ H => ∃ t, PSs X st t ∧ t D σ H
section
variable {X : Cx} {e : Expr} {es : List Expr} {st : Stmt} {sts : List Stmt}
theorem pe_tE : PE X e (tE X e) := ⟨fun pins s σ H Q I h => by
  obtain ⟨t, p, q⟩ := h
  exact p.run pins s σ H Q I q⟩
theorem pt_tT : PT X e (tT X e) := ⟨fun pins s σ H Q I h => by
  obtain ⟨t, p, q⟩ := h
  exact p.run pins s σ H Q I q⟩
theorem pw_tW : PW X e (tW X e) := ⟨fun wh pins s σ H Q I h => by
  obtain ⟨t, p, q⟩ := h
  exact p.run wh pins s σ H Q I q⟩
theorem pa_tA : PA X es (tA X es) := ⟨fun pos pins s σ H Q I h => by
  obtain ⟨t, p, q⟩ := h
  exact p.run pos pins s σ H Q I q⟩
theorem ps_tS : PS X st (tS X st) := ⟨fun pins s σ H Q I h => by
  obtain ⟨t, p, q⟩ := h
  exact p.run pins s σ H Q I q⟩
theorem pss_tSs : PSs X sts (tSs X sts) := ⟨fun pins s σ H Q I h => by
  obtain ⟨t, p, q⟩ := h
  exact p.run pins s σ H Q I q⟩
end

/-! ### judgements: what comes of it, from slots to slots -/
def EvE (te : TE) (Γ Γ' : Env') (d : Dyn) : Prop := ∀ B σ G H, Fits B Γ σ G H → ∀ Q : VK, (∀ v G' H', Fits B Γ' σ G' H' → Same G G' → d.rep G' v → Q v H') → te σ H Q
def EvB (t : TT) (Γ Γ' : Env') (b : Bool) : Prop := ∀ B σ G H, Fits B Γ σ G H → ∀ Q : Bool → Hp → Prop, (∀ G' H', Fits B Γ' σ G' H' → Same G G' → Q b H') → t σ H Q
/-- values for data -/
def repD (H : Hp) : List V → List Dyn → Prop
  | [], [] => True
  | v :: vs, d :: ds => d.rep H v ∧ repD H vs ds
  | _, _ => False
theorem repD_mono {H H' : Hp} (s : Same H H') : ∀ {vs : List V} {ds : List Dyn}, repD H vs ds → repD H' vs ds
  | [], [], _ => trivial
  | [], _ :: _, h => h.elim
  | _ :: _, [], h => h.elim
  | _ :: _, _ :: _, h => ⟨h.1.mono s, repD_mono s h.2⟩
def EvA (t : TA) (Γ Γ' : Env') (ds : List Dyn) : Prop := ∀ B σ G H, Fits B Γ σ G H → ∀ Q : List V → Hp → Prop, (∀ vs G' H', Fits B Γ' σ G' H' → Same G G' → repD G' vs ds → Q vs H') → t σ H Q
/-- a new thing of one's own -/
def EvN (te : TE) (Γ Γ' : Env') (y : ODyn) : Prop := ∀ B σ G H, Fits B Γ σ G H → ∀ Q : VK,
  (∀ v ps G' H1 H', Fits B Γ' σ G' H1 → Same G G' → ps.Nodup → (∀ p ∈ ps, H1 p = none ∧ ∃ ob, H' p = some ob ∧ Nt ob) → Same H1 H' → y.orep G' H' v ps → Q v H') → te σ H Q
structure TD : Type 1 where
  nx : Env' → Prop
  rt : Env' → Dyn → Prop
  rn : Env' → ODyn → Prop
def EvS (ts : TS) (Γ : Env') (D : TD) : Prop := ∀ B σ G H, Fits B Γ σ G H → ∀ E : Ends, (∀ σ' G' H' Γ', Fits B Γ' σ' G' H' → D.nx Γ' → E.nx σ' H') →
  (∀ v σ' G' H' Γ' d, Fits B Γ' σ' G' H' → d.rep G' v → D.rt Γ' d → E.rt v H') →
  (∀ v ps σ' G' H1 H' Γ' y, Fits B Γ' σ' G' H1 → ps.Nodup → (∀ p ∈ ps, H1 p = none ∧ ∃ ob, H' p = some ob ∧ Nt ob) → Same H1 H' → y.orep G' H' v ps → D.rn Γ' y → E.rt v H') → ts E σ H
def EJ (X : Cx) (e : Expr) (Γ Γ' : Env') (d : Dyn) : Prop := EvE (tE X e) Γ Γ' d
def TJ (X : Cx) (e : Expr) (Γ Γ' : Env') (b : Bool) : Prop := EvB (tT X e) Γ Γ' b
def WJ (X : Cx) (e : Expr) (Γ Γ' : Env') (b : Bool) : Prop := EvB (tW X e) Γ Γ' b
def AJ (X : Cx) (es : List Expr) (Γ Γ' : Env') (ds : List Dyn) : Prop := EvA (tA X es) Γ Γ' ds
def NJ (X : Cx) (e : Expr) (Γ Γ' : Env') (y : ODyn) : Prop := EvN (tE X e) Γ Γ' y
def SJ (X : Cx) (st : Stmt) (Γ : Env') (D : TD) : Prop := EvS (tS X st) Γ D
def SsJ (X : Cx) (st : List Stmt) (Γ : Env') (D : TD) : Prop := EvS (tSs X st) Γ D
/-- by values: an operation, a call -/
def R2T (r : R2) (d1 d2 d : Dyn) : Prop := ∀ G H v w, Same G H → d1.rep G v → d2.rep G w → ∀ Q : VK, (∀ u G' H', Step G H G' H' → d.rep G' u → Q u H') → r v w H Q
def RCT (r : List V → Hp → VK → Prop) (ds : List Dyn) (d : Dyn) : Prop := ∀ G H vs, Same G H → repD G vs ds → ∀ Q : VK, (∀ u G' H', Step G H G' H' → d.rep G' u → Q u H') → r vs H Q
/-- .. with a new thing of one's own -/
def R2N (r : R2) (d1 d2 : Dyn) (y : ODyn) : Prop := ∀ G H v w, Same G H → d1.rep G v → d2.rep G w → ∀ Q : VK,
  (∀ u ps H', ps.Nodup → (∀ p ∈ ps, H p = none ∧ ∃ ob, H' p = some ob ∧ Nt ob) → Same H H' → y.orep G H' u ps → Q u H') → r v w H Q
def RCN (r : List V → Hp → VK → Prop) (ds : List Dyn) (y : ODyn) : Prop := ∀ G H vs, Same G H → repD G vs ds → ∀ Q : VK,
  (∀ u ps H', ps.Nodup → (∀ p ∈ ps, H p = none ∧ ∃ ob, H' p = some ob ∧ Nt ob) → Same H H' → y.orep G H' u ps → Q u H') → r vs H Q
section
variable {X : Cx} {e a b c : Expr} {es : List Expr} {st : Stmt} {sts : List Stmt} {Γ Γ1 Γ2 Γ3 Γ' : Env'} {d d1 d2 d3 : Dyn} {te ta tb : TE} {pos : Pos} {k : Bool} {r : R2} {D : TD}
theorem EJ.of (p : PE X e te) (h : EvE te Γ Γ' d) : EJ X e Γ Γ' d := fun B σ G H f Q q => ⟨te, p, h B σ G H f Q q⟩
theorem TJ.of {t : TT} (p : PT X e t) (h : EvB t Γ Γ' k) : TJ X e Γ Γ' k := fun B σ G H f Q q => ⟨t, p, h B σ G H f Q q⟩
theorem WJ.of {t : TT} (p : PW X e t) (h : EvB t Γ Γ' k) : WJ X e Γ Γ' k := fun B σ G H f Q q => ⟨t, p, h B σ G H f Q q⟩
theorem AJ.of {t : TA} {ds : List Dyn} (p : PA X es t) (h : EvA t Γ Γ' ds) : AJ X es Γ Γ' ds := fun B σ G H f Q q => ⟨t, p, h B σ G H f Q q⟩
theorem NJ.of {y : ODyn} (p : PE X e te) (h : EvN te Γ Γ' y) : NJ X e Γ Γ' y := fun B σ G H f Q q => ⟨te, p, h B σ G H f Q q⟩
theorem SJ.of {ts : TS} (p : PS X st ts) (h : EvS ts Γ D) : SJ X st Γ D := fun B σ G H f E q1 q2 q3 => ⟨ts, p, h B σ G H f E q1 q2 q3⟩
theorem SsJ.of {ts : TS} (p : PSs X sts ts) (h : EvS ts Γ D) : SsJ X sts Γ D := fun B σ G H f E q1 q2 q3 => ⟨ts, p, h B σ G H f E q1 q2 q3⟩
/-- the same thing, said otherwise -/
theorem EJ.as (h : EJ X e Γ Γ' d) (e1 : d = d1) : EJ X e Γ Γ' d1 := by
  rw [← e1]
  exact h
theorem TJ.as {j : Bool} (h : TJ X e Γ Γ' k) (e1 : k = j) : TJ X e Γ Γ' j := by
  rw [← e1]
  exact h

/-! ### names, constants -/
theorem e_v (i : Nat) {x : Str} (hΓ : Γ[i]? = some (.fro d) := by rfl) (hN : X.N[i]? = some x := by rfl) (hv : Vis X.env.scope x := by first | exact Or.inl rfl | exact Or.inr (Or.inl rfl) | exact Or.inr (Or.inr rfl)) (hd : (x == ("__debug__" : Str)) = false := by decide)
    (hcd : (x == ("__classdict__" : Str)) = false := by decide) : EJ X (.Name x pos) Γ Γ d :=
  .of (pe_var hN hv hd hcd) fun B σ G H f Q q => by
    obtain ⟨v, e1, r⟩ := f.ok i _ hΓ
    exact ⟨v, e1, q v G H f (Same.refl _) r⟩
theorem e_i (i : Int) {j : Nat} : EJ X (.Constant (.int i) j pos) Γ Γ ⟨i⟩ := .of pe_int fun B σ G H f Q q => q _ G H f (Same.refl _) rfl
theorem e_n (n : Nat) {i : Int} {j : Nat} (h : i = (n : Int) := by rfl) : EJ X (.Constant (.int i) j pos) Γ Γ ⟨n⟩ := .of pe_int fun B σ G H f Q q => q _ G H f (Same.refl _) (by
  show V.int i = V.int (n : Int)
  rw [h])
theorem e_s {z : Str} {j : Nat} : EJ X (.Constant (.str z) j pos) Γ Γ ⟨z⟩ := .of pe_str fun B σ G H f Q q => q _ G H f (Same.refl _) rfl
theorem e_b {z : Bool} {j : Nat} : EJ X (.Constant (.bool z) j pos) Γ Γ ⟨z⟩ := .of pe_bl fun B σ G H f Q q => q _ G H f (Same.refl _) rfl
theorem e_none {α : Type} [Enc α] {j : Nat} : EJ X (.Constant .none j pos) Γ Γ ⟨(none : Option α)⟩ := .of pe_non fun B σ G H f Q q => q _ G H f (Same.refl _) rfl
theorem e_unit {j : Nat} : EJ X (.Constant .none j pos) Γ Γ ⟨()⟩ := .of pe_non fun B σ G H f Q q => q _ G H f (Same.refl _) rfl
/-- a constant of the module -/
theorem e_gn {x : Str} {n : Nat} (hm : ∃ t, X.mg x = some (.int (n : Int) t)) (hg : Gl X x := by rfl) (hd : (x == ("__debug__" : Str)) = false := by decide) : EJ X (.Name x pos) Γ Γ ⟨n⟩ := by
  obtain ⟨t, hm⟩ := hm
  exact .of (pe_glob (v := .int (n : Int)) hg hm ⟨t, rfl⟩ hd) fun B σ G H f Q q => q _ G H f (Same.refl _) rfl
/-- an int that is not negative, as a natural number; a natural number as an int; a thing that is there -/
theorem EJ.nat {i : Int} {n : Nat} (h : EJ X e Γ Γ' ⟨i⟩) (e1 : i = (n : Int)) : EJ X e Γ Γ' ⟨n⟩ := fun B σ G H f Q q => h B σ G H f Q fun v G' H' f' s r => q v G' H' f' s (by
  have r2 : v = V.int i := r
  show v = V.int (n : Int)
  rw [r2, e1])
theorem EJ.int {n : Nat} (h : EJ X e Γ Γ' ⟨n⟩) : EJ X e Γ Γ' ⟨(n : Int)⟩ := h
theorem EJ.some {α : Type} [Enc α] {x : α} (h : EJ X e Γ Γ' ⟨x⟩) : EJ X e Γ Γ' ⟨some x⟩ := h
theorem EJ.got {α : Type} [Enc α] {o : Option α} {x : α} (h : EJ X e Γ Γ' ⟨o⟩) (e1 : o = Option.some x) : EJ X e Γ Γ' ⟨x⟩ := by
  subst e1
  exact h

/-! ### operations -/
theorem ev_bin (ha : EvE ta Γ Γ1 d1) (hb : EvE tb Γ1 Γ2 d2) (hr : R2T r d1 d2 d) : EvE (tOp r ta tb) Γ Γ2 d := fun B σ G H f Q q =>
  ha B σ G H f _ fun v G1 H1 f1 s1 r1 => hb B σ G1 H1 f1 _ fun w G2 H2 f2 s2 r2 => hr G2 H2 v w f2.sub (r1.mono s2) r2 Q fun u G3 H3 st r3 => q u G3 H3 (f2.step st) ((s1.trans s2).trans st.g) r3
theorem e_bin {op : Operator} (ho : OpR X (binaryOp op) r) (ha : EJ X a Γ Γ1 d1) (hb : EJ X b Γ1 Γ2 d2) (hr : R2T r d1 d2 d) : EJ X (.BinOp a op b pos) Γ Γ2 d := .of (pe_op ho pe_tE pe_tE) (ev_bin ha hb hr)
theorem e_cmp {op : CmpOp} (ho : OpR X (compareOp op) r) (ha : EJ X a Γ Γ1 d1) (hb : EJ X b Γ1 Γ2 d2) (hr : R2T r d1 d2 ⟨k⟩) (hm : behindInMarks op b = false) : EJ X (.Compare a [op] [b] pos) Γ Γ2 ⟨k⟩ := .of (pe_cmpR ho pe_tE pe_tE hm) (ev_bin ha hb hr)
theorem t_cmp {op : CmpOp} (ho : OpR X (compareOp op) r) (ha : EJ X a Γ Γ1 d1) (hb : EJ X b Γ1 Γ2 d2) (hr : R2T r d1 d2 ⟨k⟩) (hm : behindInMarks op b = false) : TJ X (.Compare a [op] [b] pos) Γ Γ2 k :=
  .of (pt_cmpR ho pe_tE pe_tE hm) fun B σ G H f Q q => ev_bin ha hb hr B σ G H f _ fun v G' H' f' s rv => by
    have r2 : v = V.bl k := rv
    exact ⟨k, r2, q G' H' f' s⟩
theorem r2_of {g : Int → Int → V} {i j : Int} {u : V} (h1 : ∀ G v, d1.rep G v → v = .int i) (h2 : ∀ G v, d2.rep G v → v = .int j) (hu : g i j = u) (h3 : ∀ G, d.rep G u) : R2T (rI0 g) d1 d2 d := fun G H v w s r1 r2 Q q =>
  ⟨i, j, h1 G v r1, h2 G w r2, by
    rw [hu]
    exact q _ G H (Step.refl s) (h3 G)⟩
theorem r2_ofC {C : Int → Int → Prop} {g : Int → Int → V} {i j : Int} {u : V} (h1 : ∀ G v, d1.rep G v → v = .int i) (h2 : ∀ G v, d2.rep G v → v = .int j) (hc : C i j) (hu : g i j = u) (h3 : ∀ G, d.rep G u) : R2T (rI C g) d1 d2 d := fun G H v w s r1 r2 Q q =>
  ⟨i, j, h1 G v r1, h2 G w r2, hc, by
    rw [hu]
    exact q _ G H (Step.refl s) (h3 G)⟩
section
variable {m n : Nat} {i j : Int}
theorem e_addN (ha : EJ X a Γ Γ1 ⟨m⟩) (hb : EJ X b Γ1 Γ2 ⟨n⟩) : EJ X (.BinOp a .Add b pos) Γ Γ2 ⟨m + n⟩ := e_bin op_add ha hb (r2_of (fun _ _ h => h) (fun _ _ h => h) (by rw [← Int.natCast_add]) fun _ => rfl)
theorem e_addI (ha : EJ X a Γ Γ1 ⟨i⟩) (hb : EJ X b Γ1 Γ2 ⟨j⟩) : EJ X (.BinOp a .Add b pos) Γ Γ2 ⟨i + j⟩ := e_bin op_add ha hb (r2_of (fun _ _ h => h) (fun _ _ h => h) rfl fun _ => rfl)
theorem e_subI (ha : EJ X a Γ Γ1 ⟨i⟩) (hb : EJ X b Γ1 Γ2 ⟨j⟩) : EJ X (.BinOp a .Sub b pos) Γ Γ2 ⟨i - j⟩ := e_bin op_sub ha hb (r2_of (fun _ _ h => h) (fun _ _ h => h) rfl fun _ => rfl)
/-- m - n where n is not greater -/
theorem e_subN (ha : EJ X a Γ Γ1 ⟨m⟩) (hb : EJ X b Γ1 Γ2 ⟨n⟩) (h : n ≤ m) : EJ X (.BinOp a .Sub b pos) Γ Γ2 ⟨m - n⟩ := e_bin op_sub ha hb (r2_of (fun _ _ h => h) (fun _ _ h => h) (by rw [← Int.natCast_sub h]) fun _ => rfl)
theorem e_mulN (ha : EJ X a Γ Γ1 ⟨m⟩) (hb : EJ X b Γ1 Γ2 ⟨n⟩) (h : m < 2 ^ 64) : EJ X (.BinOp a .Mult b pos) Γ Γ2 ⟨m * n⟩ :=
  e_bin op_mul ha hb (r2_ofC (i := (m : Int)) (j := (n : Int)) (fun _ _ h => h) (fun _ _ h => h) (.inl ⟨by omega, by omega⟩) (by rw [← Int.natCast_mul]) fun _ => rfl)
theorem e_mulI (ha : EJ X a Γ Γ1 ⟨i⟩) (hb : EJ X b Γ1 Γ2 ⟨j⟩) (h : (-(2 ^ 64) < i ∧ i < 2 ^ 64) ∨ (-(2 ^ 64) < j ∧ j < 2 ^ 64)) : EJ X (.BinOp a .Mult b pos) Γ Γ2 ⟨i * j⟩ :=
  e_bin op_mul ha hb (r2_ofC (fun _ _ h => h) (fun _ _ h => h) h rfl fun _ => rfl)
theorem e_modN (ha : EJ X a Γ Γ1 ⟨m⟩) (hb : EJ X b Γ1 Γ2 ⟨n⟩) (h : 0 < n) : EJ X (.BinOp a .Mod b pos) Γ Γ2 ⟨m % n⟩ :=
  e_bin op_mod ha hb (r2_ofC (i := (m : Int)) (j := (n : Int)) (fun _ _ h => h) (fun _ _ h => h) (show (0 : Int) < (n : Int) by omega) (by rw [← Int.natCast_emod]) fun _ => rfl)
theorem e_modI (ha : EJ X a Γ Γ1 ⟨i⟩) (hb : EJ X b Γ1 Γ2 ⟨j⟩) (h : 0 < j) : EJ X (.BinOp a .Mod b pos) Γ Γ2 ⟨i % j⟩ :=
  e_bin op_mod ha hb (r2_ofC (fun _ _ h => h) (fun _ _ h => h) h rfl fun _ => rfl)
theorem e_divN (ha : EJ X a Γ Γ1 ⟨m⟩) (hb : EJ X b Γ1 Γ2 ⟨n⟩) (h : 0 < n) (h2 : n < 1073741824) : EJ X (.BinOp a .FloorDiv b pos) Γ Γ2 ⟨m / n⟩ :=
  e_bin op_fdiv ha hb (r2_ofC (i := (m : Int)) (j := (n : Int)) (fun _ _ h => h) (fun _ _ h => h) ⟨by omega, by omega⟩ (by rw [← Int.natCast_ediv]) fun _ => rfl)
theorem e_divI (ha : EJ X a Γ Γ1 ⟨i⟩) (hb : EJ X b Γ1 Γ2 ⟨j⟩) (h : 0 < j) (h2 : j < 1073741824) : EJ X (.BinOp a .FloorDiv b pos) Γ Γ2 ⟨i / j⟩ :=
  e_bin op_fdiv ha hb (r2_ofC (fun _ _ h => h) (fun _ _ h => h) ⟨h, h2⟩ rfl fun _ => rfl)
theorem e_powI (ha : EJ X a Γ Γ1 ⟨i⟩) (hb : EJ X b Γ1 Γ2 ⟨n⟩) (h : n ≤ 1000000) (h2 : i.natAbs < 2 ^ 64) : EJ X (.BinOp a .Pow b pos) Γ Γ2 ⟨i ^ n⟩ :=
  e_bin op_pow ha hb (r2_ofC (i := i) (j := (n : Int)) (fun _ _ h => h) (fun _ _ h => h) ⟨by omega, by omega, h2⟩ (by rw [Int.toNat_natCast]) fun _ => rfl)
theorem e_negI (ha : EJ X a Γ Γ1 ⟨i⟩) : EJ X (.UnaryOp .USub a pos) Γ Γ1 ⟨-i⟩ := .of (pe_un un_neg pe_tE) fun B σ G H f Q q => ha B σ G H f _ fun v G1 H1 f1 s1 r1 => ⟨i, r1, q _ G1 H1 f1 s1 rfl⟩
/-- comparisons of ints: by their ints -/
theorem rc_of {g : Int → Int → Bool} {i j : Int} {b : Bool} (h1 : ∀ G v, d1.rep G v → v = .int i) (h2 : ∀ G v, d2.rep G v → v = .int j) (hu : g i j = b) : R2T (rI0 fun i j => .bl (g i j)) d1 d2 ⟨b⟩ :=
  r2_of h1 h2 (by show V.bl (g i j) = V.bl b; rw [hu]) fun _ => rfl
theorem t_ltN (ha : EJ X a Γ Γ1 ⟨m⟩) (hb : EJ X b Γ1 Γ2 ⟨n⟩) : TJ X (.Compare a [.Lt] [b] pos) Γ Γ2 (decide (m < n)) := t_cmp op_lt ha hb (rc_of (fun _ _ h => h) (fun _ _ h => h) (by simp)) (nomark _)
theorem t_leN (ha : EJ X a Γ Γ1 ⟨m⟩) (hb : EJ X b Γ1 Γ2 ⟨n⟩) : TJ X (.Compare a [.LtE] [b] pos) Γ Γ2 (decide (m ≤ n)) := t_cmp op_le ha hb (rc_of (fun _ _ h => h) (fun _ _ h => h) (by simp)) (nomark _)
theorem t_gtN (ha : EJ X a Γ Γ1 ⟨m⟩) (hb : EJ X b Γ1 Γ2 ⟨n⟩) : TJ X (.Compare a [.Gt] [b] pos) Γ Γ2 (decide (n < m)) := t_cmp op_gt ha hb (rc_of (fun _ _ h => h) (fun _ _ h => h) (by simp)) (nomark _)
theorem t_geN (ha : EJ X a Γ Γ1 ⟨m⟩) (hb : EJ X b Γ1 Γ2 ⟨n⟩) : TJ X (.Compare a [.GtE] [b] pos) Γ Γ2 (decide (n ≤ m)) := t_cmp op_ge ha hb (rc_of (fun _ _ h => h) (fun _ _ h => h) (by simp)) (nomark _)
theorem t_gtI (ha : EJ X a Γ Γ1 ⟨i⟩) (hb : EJ X b Γ1 Γ2 ⟨j⟩) : TJ X (.Compare a [.Gt] [b] pos) Γ Γ2 (decide (j < i)) := t_cmp op_gt ha hb (rc_of (fun _ _ h => h) (fun _ _ h => h) rfl) (nomark _)
theorem t_geI (ha : EJ X a Γ Γ1 ⟨i⟩) (hb : EJ X b Γ1 Γ2 ⟨j⟩) : TJ X (.Compare a [.GtE] [b] pos) Γ Γ2 (decide (j ≤ i)) := t_cmp op_ge ha hb (rc_of (fun _ _ h => h) (fun _ _ h => h) rfl) (nomark _)
theorem e_ltN (ha : EJ X a Γ Γ1 ⟨m⟩) (hb : EJ X b Γ1 Γ2 ⟨n⟩) : EJ X (.Compare a [.Lt] [b] pos) Γ Γ2 ⟨decide (m < n)⟩ := e_cmp op_lt ha hb (rc_of (fun _ _ h => h) (fun _ _ h => h) (by simp)) (nomark _)
theorem e_leN (ha : EJ X a Γ Γ1 ⟨m⟩) (hb : EJ X b Γ1 Γ2 ⟨n⟩) : EJ X (.Compare a [.LtE] [b] pos) Γ Γ2 ⟨decide (m ≤ n)⟩ := e_cmp op_le ha hb (rc_of (fun _ _ h => h) (fun _ _ h => h) (by simp)) (nomark _)
theorem r_eqN : R2T rEq ⟨m⟩ ⟨n⟩ ⟨decide (m = n)⟩ := fun G H v w s r1 r2 Q q => by
  have e1 : v = V.int (m : Int) := r1
  have e2 : w = V.int (n : Int) := r2
  subst e1 e2
  refine ⟨rfl, q _ G H (Step.refl s) ?_⟩
  show V.bl (decide (V.int (m : Int) = V.int (n : Int))) = V.bl (decide (m = n))
  by_cases h : m = n
  · rw [decide_eq_true h, decide_eq_true (by rw [h])]
  · rw [decide_eq_false h, decide_eq_false (fun z => h (by
      have z2 := V.int.inj z
      omega))]
theorem r_neN : R2T rNe ⟨m⟩ ⟨n⟩ ⟨!decide (m = n)⟩ := fun G H v w s r1 r2 Q q => by
  have e1 : v = V.int (m : Int) := r1
  have e2 : w = V.int (n : Int) := r2
  subst e1 e2
  refine ⟨rfl, q _ G H (Step.refl s) ?_⟩
  show V.bl (!decide (V.int (m : Int) = V.int (n : Int))) = V.bl (!decide (m = n))
  by_cases h : m = n
  · rw [decide_eq_true h, decide_eq_true (by rw [h])]
  · rw [decide_eq_false h, decide_eq_false (fun z => h (by
      have z2 := V.int.inj z
      omega))]
theorem t_eqN (ha : EJ X a Γ Γ1 ⟨m⟩) (hb : EJ X b Γ1 Γ2 ⟨n⟩) : TJ X (.Compare a [.Eq] [b] pos) Γ Γ2 (decide (m = n)) := t_cmp op_eq ha hb r_eqN (nomark _)
theorem t_neN (ha : EJ X a Γ Γ1 ⟨m⟩) (hb : EJ X b Γ1 Γ2 ⟨n⟩) : TJ X (.Compare a [.NotEq] [b] pos) Γ Γ2 (!decide (m = n)) := t_cmp op_ne ha hb r_neN (nomark _)
theorem e_eqN (ha : EJ X a Γ Γ1 ⟨m⟩) (hb : EJ X b Γ1 Γ2 ⟨n⟩) : EJ X (.Compare a [.Eq] [b] pos) Γ Γ2 ⟨decide (m = n)⟩ := e_cmp op_eq ha hb r_eqN (nomark _)
theorem e_neN (ha : EJ X a Γ Γ1 ⟨m⟩) (hb : EJ X b Γ1 Γ2 ⟨n⟩) : EJ X (.Compare a [.NotEq] [b] pos) Γ Γ2 ⟨!decide (m = n)⟩ := e_cmp op_ne ha hb r_neN (nomark _)
end
/-! ### None -/
theorem isnon_iff {α : Type} [Enc α] (hn : ∀ G v (x : α), rep G v x → v ≠ V.non) {o : Option α} {G : Hp} {v : V} (r : rep G v o) : decide (v = V.non) = o.isNone := by
  cases o with
  | none =>
    have e1 : v = V.non := r
    rw [e1]
    rfl
  | some x =>
    have e1 : v ≠ V.non := hn G v x r
    rw [decide_eq_false e1]
    rfl
theorem nn_nat : ∀ (G : Hp) (v : V) (x : Nat), rep G v x → v ≠ V.non := fun _ _ _ h z => by
  rw [show _ = V.int _ from h] at z
  cases z
theorem nn_str : ∀ (G : Hp) (v : V) (x : Str), rep G v x → v ≠ V.non := fun _ _ _ h z => by
  rw [show _ = V.str _ from h] at z
  cases z
theorem nn_list {α : Type} [Enc α] : ∀ (G : Hp) (v : V) (x : List α), rep G v x → v ≠ V.non := fun _ _ _ h z => by
  obtain ⟨_, _, e1, _⟩ := h
  rw [e1] at z
  cases z
theorem t_isN {α : Type} [Enc α] {o : Option α} {j : Nat} {p2 : Pos} (hn : ∀ G v (x : α), rep G v x → v ≠ V.non) (ha : EJ X a Γ Γ1 ⟨o⟩) : TJ X (.Compare a [.Is] [.Constant .none j p2] pos) Γ Γ1 o.isNone :=
  .of (pt_cmp (pc_isN pe_tE)) fun B σ G H f Q q => ha B σ G H f _ fun v G1 H1 f1 s1 r1 => ⟨_, rfl, by
    rw [isnon_iff hn r1]
    exact q G1 H1 f1 s1⟩
theorem t_notN {α : Type} [Enc α] {o : Option α} {j : Nat} {p2 : Pos} (hn : ∀ G v (x : α), rep G v x → v ≠ V.non) (ha : EJ X a Γ Γ1 ⟨o⟩) : TJ X (.Compare a [.IsNot] [.Constant .none j p2] pos) Γ Γ1 o.isSome :=
  .of (pt_cmp (pc_notN pe_tE)) fun B σ G H f Q q => ha B σ G H f _ fun v G1 H1 f1 s1 r1 => ⟨_, rfl, by
    rw [isnon_iff hn r1]
    have z := q G1 H1 f1 s1
    cases o with
    | none => exact z
    | some x => exact z⟩

/-! ### tests -/
theorem TJ.val (h : EJ X e Γ Γ' ⟨k⟩) (he : ∀ whole, isTrue e X.env whole = (do let v ← whole; standAt e.pos; holding [v] (truthy v)) := by intro _; rfl) : TJ X e Γ Γ' k :=
  .of (pt_val pe_tE he) fun B σ G H f Q q => h B σ G H f _ fun v G1 H1 f1 s1 r1 => ⟨k, r1, q G1 H1 f1 s1⟩
theorem t_not (h : TJ X a Γ Γ' k) : TJ X (.UnaryOp .Not a pos) Γ Γ' (!k) := .of (pt_not pt_tT) fun B σ G H f Q q => h B σ G H f _ fun G1 H1 f1 s1 => q G1 H1 f1 s1
theorem WJ.t (h : WJ X e Γ Γ' k) : TJ X e Γ Γ' k := .of pw_tW.pt h
section
variable {j : Bool} {rest : List Expr}
theorem w_and1 (h : TJ X a Γ Γ' k) : WJ X (.BoolOp .And [a] pos) Γ Γ' k := .of (pw_and1 pt_tT) h
theorem w_or1 (h : TJ X a Γ Γ' k) : WJ X (.BoolOp .Or [a] pos) Γ Γ' k := .of (pw_or1 pt_tT) h
/-- the slots behind both ways are the same -/
theorem w_and (ha : TJ X a Γ Γ k) (hb : k = true → WJ X (.BoolOp .And (b :: rest) pos) Γ Γ j) : WJ X (.BoolOp .And (a :: b :: rest) pos) Γ Γ (k && j) := .of (pw_and pt_tT pw_tW) fun B σ G H f Q q => ha B σ G H f _ fun G1 H1 f1 s1 => by
  cases k with
  | true => exact hb rfl B σ G1 H1 f1 Q fun G2 H2 f2 s2 => q G2 H2 f2 (s1.trans s2)
  | false => exact q G1 H1 f1 s1
theorem w_or (ha : TJ X a Γ Γ k) (hb : k = false → WJ X (.BoolOp .Or (b :: rest) pos) Γ Γ j) : WJ X (.BoolOp .Or (a :: b :: rest) pos) Γ Γ (k || j) := .of (pw_or pt_tT pw_tW) fun B σ G H f Q q => ha B σ G H f _ fun G1 H1 f1 s1 => by
  cases k with
  | true => exact q G1 H1 f1 s1
  | false => exact hb rfl B σ G1 H1 f1 Q fun G2 H2 f2 s2 => q G2 H2 f2 (s1.trans s2)
theorem t_and2 (ha : TJ X a Γ Γ k) (hb : k = true → TJ X b Γ Γ j) : TJ X (.BoolOp .And [a, b] pos) Γ Γ (k && j) := (w_and ha fun z => w_and1 (hb z)).t
theorem t_or2 (ha : TJ X a Γ Γ k) (hb : k = false → TJ X b Γ Γ j) : TJ X (.BoolOp .Or [a, b] pos) Γ Γ (k || j) := (w_or ha fun z => w_or1 (hb z)).t
theorem t_or3 {l : Bool} (ha : TJ X a Γ Γ k) (hb : k = false → TJ X b Γ Γ j) (hc : k = false → j = false → TJ X c Γ Γ l) : TJ X (.BoolOp .Or [a, b, c] pos) Γ Γ (k || (j || l)) := (w_or ha fun z => w_or (hb z) fun z' => w_or1 (hc z z')).t
/-- .. as values -/
theorem e_and2 (ha : EJ X a Γ Γ ⟨k⟩) (hb : k = true → EJ X b Γ Γ ⟨j⟩) : EJ X (.BoolOp .And [a, b] pos) Γ Γ ⟨k && j⟩ := .of (pe_and pe_tE (pe_one pe_tE)) fun B σ G H f Q q => ha B σ G H f _ fun v G1 H1 f1 s1 r1 => ⟨k, r1, by
  cases k with
  | true => exact hb rfl B σ G1 H1 f1 Q fun v2 G2 H2 f2 s2 r2 => q v2 G2 H2 f2 (s1.trans s2) r2
  | false => exact q _ G1 H1 f1 s1 rfl⟩
theorem e_not (ha : EJ X a Γ Γ1 ⟨k⟩) : EJ X (.UnaryOp .Not a pos) Γ Γ1 ⟨!k⟩ := .of (pe_not pe_tE) fun B σ G H f Q q => ha B σ G H f _ fun v G1 H1 f1 s1 r1 => ⟨k, r1, q _ G1 H1 f1 s1 rfl⟩
/-- least <= x <= most, of ints -/
theorem e_within {i l m : Int} (ha : EJ X a Γ Γ ⟨l⟩) (hb : EJ X b Γ Γ ⟨i⟩) (hc : EJ X c Γ Γ ⟨m⟩) (hm : lastMarks [CmpOp.LtE, CmpOp.LtE] [b, c] = false := by with_unfolding_all rfl) : EJ X (.Compare a [.LtE, .LtE] [b, c] pos) Γ Γ ⟨decide (l ≤ i) && decide (i ≤ m)⟩ :=
  .of (pe_chain op_le op_le pe_tE pe_tE pe_tE hm) fun B σ G H f Q q => ha B σ G H f _ fun v G1 H1 f1 s1 r1 => hb B σ G1 H1 f1 _ fun w G2 H2 f2 s2 r2 => ⟨l, i, r1, r2, decide (l ≤ i), rfl, by
    cases e1 : decide (l ≤ i) with
    | true =>
      refine hc B σ G2 H2 f2 _ fun u G3 H3 f3 s3 r3 => ⟨i, m, r2, r3, ?_⟩
      exact q _ G3 H3 f3 ((s1.trans s2).trans s3) (by show V.bl _ = V.bl _; rw [e1] <;> rfl)
    | false => exact q _ G2 H2 f2 (s1.trans s2) (by show V.bl _ = V.bl _; rw [e1] <;> rfl)⟩
end

/-! ### arguments, displays -/
theorem a_nil : AJ X [] Γ Γ [] := .of pa_nil fun B σ G H f Q q => q [] G H f (Same.refl _) trivial
theorem a_cons {ds : List Dyn} (ha : EJ X e Γ Γ1 d) (hr : AJ X es Γ1 Γ2 ds) (hs : starEach (e :: es) X.env = (false, eval e X.env) :: starEach es X.env := by rfl) : AJ X (e :: es) Γ Γ2 (d :: ds) :=
  .of (pa_cons pe_tE pa_tA hs) fun B σ G H f Q q => ha B σ G H f _ fun v G1 H1 f1 s1 r1 => hr B σ G1 H1 f1 _ fun vs G2 H2 f2 s2 r2 => q _ G2 H2 f2 (s1.trans s2) ⟨r1.mono s2, r2⟩
theorem a_1 (ha : EJ X a Γ Γ1 d) (hs : starEach [a] X.env = [(false, eval a X.env)] := by rfl) : AJ X [a] Γ Γ1 [d] := a_cons ha a_nil hs
theorem a_2 (ha : EJ X a Γ Γ1 d) (hb : EJ X b Γ1 Γ2 d2) (hs : starEach [a, b] X.env = [(false, eval a X.env), (false, eval b X.env)] := by rfl) (hs2 : starEach [b] X.env = [(false, eval b X.env)] := by rfl) : AJ X [a, b] Γ Γ2 [d, d2] := a_cons ha (a_1 hb hs2) (by rw [hs, hs2])
theorem e_tup2 {α β : Type} [Enc α] [Enc β] {x : α} {y : β} {x1 : Nat} (ha : EJ X a Γ Γ1 ⟨x⟩) (hb : EJ X b Γ1 Γ2 ⟨y⟩) (hs : starEach [a, b] X.env = [(false, eval a X.env), (false, eval b X.env)] := by rfl) (hs2 : starEach [b] X.env = [(false, eval b X.env)] := by rfl) :
    EJ X (.Tuple [a, b] x1 pos) Γ Γ2 ⟨(x, y)⟩ := .of (pe_tup pa_tA) fun B σ G H f Q q => a_2 ha hb hs hs2 B σ G H f _ fun vs G1 H1 f1 s1 r1 => by
  match vs, r1 with
  | [v, w], ⟨r1, r2, _⟩ =>
    refine ⟨by show 2 ≤ sizeLine; decide, fun p hp => ?_⟩
    have st := Step.new (o := .tup [v, w]) f1.sub hp
    exact q _ _ _ (f1.step st) (s1.trans st.g) ⟨p, v, w, rfl, upd_same, mono st.g r1, mono st.g r2⟩
theorem e_tup3 {α β γ : Type} [Enc α] [Enc β] [Enc γ] {x : α} {y : β} {z : γ} {x1 : Nat} (ha : EJ X a Γ Γ1 ⟨x⟩) (hb : EJ X b Γ1 Γ2 ⟨y⟩) (hc : EJ X c Γ2 Γ3 ⟨z⟩)
    (hs : starEach [a, b, c] X.env = (false, eval a X.env) :: starEach [b, c] X.env := by rfl) (hs2 : starEach [b, c] X.env = [(false, eval b X.env), (false, eval c X.env)] := by rfl) (hs3 : starEach [c] X.env = [(false, eval c X.env)] := by rfl) :
    EJ X (.Tuple [a, b, c] x1 pos) Γ Γ3 ⟨(⟨x, y, z⟩ : T3 α β γ)⟩ := .of (pe_tup pa_tA) fun B σ G H f Q q => a_cons ha (a_2 hb hc hs2 hs3) hs B σ G H f _ fun vs G1 H1 f1 s1 r1 => by
  match vs, r1 with
  | [v, w, u], ⟨r1, r2, r3, _⟩ =>
    refine ⟨by show 3 ≤ sizeLine; decide, fun p hp => ?_⟩
    have st := Step.new (o := .tup [v, w, u]) f1.sub hp
    exact q _ _ _ (f1.step st) (s1.trans st.g) ⟨p, v, w, u, rfl, upd_same, mono st.g r1, mono st.g r2, mono st.g r3⟩
/-- a list's items -/
def LJ {α : Type} [Enc α] (X : Cx) (es : List Expr) (Γ Γ' : Env') (xs : List α) : Prop := AJ X es Γ Γ' (xs.map Dyn.mk)
theorem repD_reps {α : Type} [Enc α] {H : Hp} : ∀ {vs : List V} {xs : List α}, repD H vs (xs.map Dyn.mk) → reps H vs xs
  | [], [], _ => .nil
  | [], _ :: _, h => h.elim
  | _ :: _, [], h => h.elim
  | _ :: _, _ :: _, h => .cons h.1 (repD_reps h.2)
theorem n_lst {α : Type} [Enc α] {xs : List α} (h : LJ X es Γ Γ' xs) (hl : xs.length ≤ 1000) : NJ X (.List es pos) Γ Γ' ⟨(⟨xs⟩ : Ol α)⟩ := .of (pe_lst pa_tA) fun B σ G H f Q q => h B σ G H f _ fun vs G1 H1 f1 s1 r1 => by
  have r2 := repD_reps r1
  refine ⟨by rw [pr_len r2]; exact Nat.le_of_lt (small1000 hl), fun p hp => ?_⟩
  exact q _ [p] G1 H1 _ f1 s1 (by simp) (fun a ha => by
    have e1 : a = p := by simpa using ha
    subst e1
    exact ⟨hp, _, upd_same, nt_lst⟩) (same_new hp) ⟨p, vs, rfl, rfl, upd_same, r2⟩
theorem l_nil {α : Type} [Enc α] : LJ X [] Γ Γ ([] : List α) := a_nil
theorem l_cons {α : Type} [Enc α] {x : α} {xs : List α} (ha : EJ X e Γ Γ1 ⟨x⟩) (hr : LJ X es Γ1 Γ2 xs) (hs : starEach (e :: es) X.env = (false, eval e X.env) :: starEach es X.env := by rfl) : LJ X (e :: es) Γ Γ2 (x :: xs) := a_cons ha hr hs
/-- a new list of one's own is let stand from now on -/
theorem NJ.fz {α : Type} [Enc α] {xs : List α} (h : NJ X e Γ Γ' ⟨(⟨xs⟩ : Ol α)⟩) : EJ X e Γ Γ' ⟨xs⟩ := fun B σ G H f Q q => h B σ G H f Q fun v ps G' H1 H' f1 s nd n sm r => by
  obtain ⟨p, vs, rfl, rfl, hp, rs⟩ := r
  have h1 := (n p (by simp)).1
  have st : Step G' H1 (upd G' p (.lst vs)) H' := ⟨same_new (none_of f1.sub h1), sm, fun a o e1 => by
    by_cases ha : a = p
    · subst ha
      rw [upd_same] at e1
      rw [hp]
      exact e1
    · rw [upd_ne ha] at e1
      exact sm _ _ (f1.sub _ _ e1), fun a e1 e2 => by
    by_cases ha : a = p
    · subst ha
      exact .inl h1
    · rw [upd_ne ha] at e2
      exact absurd e1 e2⟩
  exact q _ _ _ (f1.step st) (s.trans st.g) ⟨p, vs, rfl, upd_same, pr_mono (fun _ _ r => mono st.g r) rs⟩
end
end Ty

namespace Ty
open PySem PySem.Spec PyProof.Rows L2 Ty.Enc

section
variable {X : Cx} {e a b c o : Expr} {es : List Expr} {st : Stmt} {sts rest : List Stmt} {Γ Γ1 Γ2 Γ3 Γ' : Env'} {d d1 d2 d3 : Dyn} {te ta tb : TE} {pos pos' p2 p3 : Pos} {k : Bool} {r : R2} {D : TD}
/-! ### statements -/
theorem ss_nil (h : D.nx Γ) : SsJ X [] Γ D := .of pss_nil fun B σ G H f E q1 q2 q3 => q1 σ G H Γ f h
theorem ss_cons (h : SJ X st Γ ⟨fun Γ' => SsJ X rest Γ' D, D.rt, D.rn⟩) : SsJ X (st :: rest) Γ D := .of (pss_cons ps_tS pss_tSs) fun B σ G H f E q1 q2 q3 =>
  h B σ G H f _ (fun σ' G' H' Γ' f' n => n B σ' G' H' f' E q1 q2 q3) q2 q3
theorem ss_one (h : SJ X st Γ D) : SsJ X [st] Γ D := .of (pss_one ps_tS) h
theorem SJ.weak (h : SJ X st Γ' D) (w : Wk Γ Γ') : SJ X st Γ D := fun B σ G H f => h B σ G H (f.weak w)
theorem SsJ.weak (h : SsJ X sts Γ' D) (w : Wk Γ Γ') : SsJ X sts Γ D := fun B σ G H f => h B σ G H (f.weak w)
theorem SsJ.mono {D' : TD} (h : SsJ X sts Γ D) (h1 : ∀ Γ', D.nx Γ' → D'.nx Γ') (h2 : ∀ Γ' d, D.rt Γ' d → D'.rt Γ' d) (h3 : ∀ Γ' d, D.rn Γ' d → D'.rn Γ' d) : SsJ X sts Γ D' := fun B σ G H f E q1 q2 q3 =>
  h B σ G H f E (fun σ' G' H' Γ' f' n => q1 σ' G' H' Γ' f' (h1 _ n)) (fun v σ' G' H' Γ' d f' r n => q2 v σ' G' H' Γ' d f' r (h2 _ _ n)) fun v ps σ' G' H1 H' Γ' y f' nd k sm r n => q3 v ps σ' G' H1 H' Γ' y f' nd k sm r (h3 _ _ n)
theorem s_pass (h : D.nx Γ) : SJ X (.Pass pos) Γ D := .of ps_pass fun B σ G H f E q1 q2 q3 => q1 σ G H Γ f h
theorem s_ret (h : EJ X e Γ Γ' d) (k : D.rt Γ' d) : SJ X (.Return (some e) pos) Γ D := .of (ps_ret pe_tE) fun B σ G H f E q1 q2 q3 => h B σ G H f _ fun v G' H' f' s r => q2 v σ G' H' Γ' d f' r k
/-- return of a new thing of one's own -/
theorem s_retN {y : ODyn} (h : NJ X e Γ Γ' y) (k : D.rn Γ' y) : SJ X (.Return (some e) pos) Γ D := .of (ps_ret pe_tE) fun B σ G H f E q1 q2 q3 => h B σ G H f _ fun v ps G' H1 H' f' s nd n sm r => q3 v ps σ G' H1 H' Γ' y f' nd n sm r k
theorem s_expr (h : EJ X e Γ Γ' d) (k : D.nx Γ') (hs : swapsWith e none pos.line X.env = pure false := by rfl) : SJ X (.Expr e pos) Γ D := .of (ps_expr pe_tE hs) fun B σ G H f E q1 q2 q3 => h B σ G H f _ fun v G' H' f' s r => q1 σ G' H' Γ' f' k
theorem s_if {sa sb : List Stmt} (h : TJ X c Γ Γ' k) (h1 : k = true → SsJ X sa Γ' D) (h2 : k = false → SsJ X sb Γ' D) : SJ X (.If c sa sb pos) Γ D := .of (ps_if pt_tT pss_tSs pss_tSs) fun B σ G H f E q1 q2 q3 =>
  h B σ G H f _ fun G' H' f' s => by
    cases k with
    | true => exact h1 rfl B σ G' H' f' E q1 q2 q3
    | false => exact h2 rfl B σ G' H' f' E q1 q2 q3
/-- an if that is never taken: its suite is not read -/
theorem s_ifNo {sa : List Stmt} (h : TJ X c Γ Γ' false) (k : D.nx Γ') : SJ X (.If c sa [] pos) Γ D := s_if h (fun z => nomatch z) fun _ => ss_nil k
theorem s_set (nd : X.N.Nodup) (i : Nat) {x : Str} (h : EJ X e Γ Γ1 d) (k : D.nx (Γ1.set i (.fro d))) (hi : X.N[i]? = some x := by rfl) (hx : Loc X.env.scope x := by first | exact Or.inl rfl | exact Or.inr rfl)
    (hs : swapsWith e (some (.Name x pos')) pos.line X.env = pure false := by rfl) (hf : X.fn x = true ∨ X.env.scope.names.lookup x = some .local := by first | exact .inl rfl | exact .inr rfl) : SJ X (.Assign [.Name x pos'] e pos) Γ D :=
  .of (ps_set nd hi hx pe_tE hs hf) fun B σ G H f E q1 q2 q3 => h B σ G H f _ fun v G' H' f' s r => q1 _ G' H' _ (f'.put i r) k
/-- a new thing of one's own gets a name -/
theorem s_new (nd : X.N.Nodup) (i : Nat) {x : Str} {y : ODyn} (h : NJ X e Γ Γ1 y) (k : ∀ ps, D.nx (Γ1.set i (.own ps y))) (hi : X.N[i]? = some x := by rfl) (hx : Loc X.env.scope x := by first | exact Or.inl rfl | exact Or.inr rfl)
    (hs : swapsWith e (some (.Name x pos')) pos.line X.env = pure false := by rfl) (hf : X.fn x = true ∨ X.env.scope.names.lookup x = some .local := by first | exact .inl rfl | exact .inr rfl) : SJ X (.Assign [.Name x pos'] e pos) Γ D :=
  .of (ps_set nd hi hx pe_tE hs hf) fun B σ G H f E q1 q2 q3 => h B σ G H f _ fun v ps G' H1 H' f' s nd' n sm r => q1 _ G' H' _ (f'.putN i sm nd' n r) (k ps)

/-! ### targets -/
def sets (σ : Sg) : List (Nat × V) → Sg
  | [] => σ
  | p :: ps => sets (σ.set p.1 (some p.2)) ps
/-- a target of a for, an unpacking, a comprehension: the slots that it stores, how the slots stand then -/
def GJ {α : Type} [Enc α] (X : Cx) (tg : Expr) (is : List Nat) (F : α → Env' → Env') : Prop :=
  ∃ g, PG X tg g ∧ ∀ B Γ σ G H v x, Fits B Γ σ G H → rep G v x → ∀ Q : Sg → Hp → Prop, (∀ ws : List (Nat × V), ws.map (·.1) = is → Fits B (F x Γ) (sets σ ws) G H → Q (sets σ ws) H) → g v σ H Q
theorem g_name (nd : X.N.Nodup) (i : Nat) {α : Type} [Enc α] {x : Str} (hi : X.N[i]? = some x := by rfl) (hx : Loc X.env.scope x := by first | exact Or.inl rfl | exact Or.inr rfl)
    (hf : X.fn x = true ∨ X.env.scope.names.lookup x = some .local := by first | exact .inl rfl | exact .inr rfl) : GJ (α := α) X (.Name x pos) [i] (fun y Γ => Γ.set i (.fro ⟨y⟩)) :=
  ⟨gName i, pg_name nd hi hx hf, fun B Γ σ G H v y f r Q q => q [(i, v)] rfl (f.put i r)⟩
theorem g_pair (nd : X.N.Nodup) (i j : Nat) {α β : Type} [Enc α] [Enc β] {x y : Str} {py : Pos} {kk : Nat} (hi : X.N[i]? = some x := by rfl) (hj : X.N[j]? = some y := by rfl) (hx : Loc X.env.scope x := by first | exact Or.inl rfl | exact Or.inr rfl) (hy : Loc X.env.scope y := by first | exact Or.inl rfl | exact Or.inr rfl)
    (hc : X.calm = true := by rfl) (hf : X.fn x = true ∨ X.env.scope.names.lookup x = some .local := by first | exact .inl rfl | exact .inr rfl) (hf2 : X.fn y = true ∨ X.env.scope.names.lookup y = some .local := by first | exact .inl rfl | exact .inr rfl) :
    GJ (α := α × β) X (.Tuple [.Name x pos, .Name y py] kk p2) [i, j] (fun z Γ => (Γ.set i (.fro ⟨z.1⟩)).set j (.fro ⟨z.2⟩)) :=
  ⟨_, pg_tup hc (pgs_cons (pg_name nd hi hx hf) (pgs_cons (pg_name nd hj hy hf2) pgs_nil)), fun B Γ σ G H v z f r Q q => by
    obtain ⟨a, u, w, e1, h1, r1, r2⟩ := r
    exact ⟨a, [u, w], e1, .inl (.inl (f.sub _ _ h1)), rfl, u, [w], rfl, w, [], rfl, rfl, q [(i, u), (j, w)] rfl ((f.put (d := ⟨z.1⟩) i r1).put (d := ⟨z.2⟩) j r2)⟩⟩
theorem g_trip (nd : X.N.Nodup) (i j l : Nat) {α β γ : Type} [Enc α] [Enc β] [Enc γ] {x y z : Str} {py pz : Pos} {kk : Nat} (hi : X.N[i]? = some x := by rfl) (hj : X.N[j]? = some y := by rfl) (hl : X.N[l]? = some z := by rfl)
    (hx : Loc X.env.scope x := by first | exact Or.inl rfl | exact Or.inr rfl) (hy : Loc X.env.scope y := by first | exact Or.inl rfl | exact Or.inr rfl) (hz : Loc X.env.scope z := by first | exact Or.inl rfl | exact Or.inr rfl)
    (hc : X.calm = true := by rfl) (hf : X.fn x = true ∨ X.env.scope.names.lookup x = some .local := by first | exact .inl rfl | exact .inr rfl) (hf2 : X.fn y = true ∨ X.env.scope.names.lookup y = some .local := by first | exact .inl rfl | exact .inr rfl)
    (hf3 : X.fn z = true ∨ X.env.scope.names.lookup z = some .local := by first | exact .inl rfl | exact .inr rfl) :
    GJ (α := T3 α β γ) X (.Tuple [.Name x pos, .Name y py, .Name z pz] kk p2) [i, j, l] (fun t Γ => ((Γ.set i (.fro ⟨t.a⟩)).set j (.fro ⟨t.b⟩)).set l (.fro ⟨t.c⟩)) :=
  ⟨_, pg_tup hc (pgs_cons (pg_name nd hi hx hf) (pgs_cons (pg_name nd hj hy hf2) (pgs_cons (pg_name nd hl hz hf3) pgs_nil))), fun B Γ σ G H v t f r Q q => by
    obtain ⟨a, u, w, s, e1, h1, r1, r2, r3⟩ := r
    exact ⟨a, [u, w, s], e1, .inl (.inl (f.sub _ _ h1)), rfl, u, [w, s], rfl, w, [s], rfl, s, [], rfl, rfl, q [(i, u), (j, w), (l, s)] rfl (((f.put (d := ⟨t.a⟩) i r1).put (d := ⟨t.b⟩) j r2).put (d := ⟨t.c⟩) l r3)⟩⟩
/-- (a, b) = e -/
theorem s_asg {α : Type} [Enc α] {tg : Expr} {is : List Nat} {F : α → Env' → Env'} {x : α} (h : EJ X e Γ Γ1 ⟨x⟩) (hg : GJ X tg is F) (k : D.nx (F x Γ1)) (hs : swapsWithSole [tg] e pos.line X.env = pure false := by rfl) (hw : swappedStores [tg] e X.env = pure none := by rfl)
    (h1 : (assignEach [tg] X.env).map (·.2) = [assign tg X.env] := by rfl) : SJ X (.Assign [tg] e pos) Γ D := by
  obtain ⟨g, pg, hgv⟩ := hg
  exact .of (ps_asg pe_tE pg hs hw h1) fun B σ G H f E q1 q2 q3 => h B σ G H f _ fun v G' H' f' s r => hgv B Γ1 σ G' H' v x f' r _ fun ws _ f2 => q1 _ G' H' _ f2 k

/-! ### what is walked -/
structure IvT {α : Type} [Enc α] (J : It) (xs : List α) (G : Hp) : Prop where
  goes : ∀ i H, i < xs.length → Same G H → J.go i H
  stops : ∀ H, Same G H → J.stop xs.length H
  yields : ∀ (i : Nat) x H v H', xs[i]? = some x → Same G H → J.yld i H v H' → ∀ G1, Same G G1 → Same G1 H → ∃ G2, Step G1 H G2 H' ∧ rep G2 v x
def tI (X : Cx) (tg iter : Expr) : TI := fun σ H R => ∃ wi, PI X tg iter wi ∧ wi σ H R
theorem pi_tI {tg iter : Expr} : PI X tg iter (tI X tg iter) := ⟨fun pins s σ H R I h => by
  obtain ⟨t, p, q⟩ := h
  exact p.run pins s σ H R I q⟩
def EvI {α : Type} [Enc α] (wi : TI) (Γ Γ' : Env') (xs : List α) : Prop := ∀ B σ G H, Fits B Γ σ G H → ∀ R : It → Hp → Prop, (∀ J G' H', Fits B Γ' σ G' H' → Same G G' → IvT J xs G' → R J H') → wi σ H R
def IJ {α : Type} [Enc α] (X : Cx) (tg iter : Expr) (Γ Γ' : Env') (xs : List α) : Prop := EvI (tI X tg iter) Γ Γ' xs
theorem IJ.of {α : Type} [Enc α] {tg iter : Expr} {wi : TI} {xs : List α} (p : PI X tg iter wi) (h : EvI wi Γ Γ' xs) : IJ X tg iter Γ Γ' xs := fun B σ G H f Q q => ⟨wi, p, h B σ G H f Q q⟩
theorem iv_list {α : Type} [Enc α] {K : PySem.W.Frag} {a : Addr} {vs : List V} {xs : List α} {G : Hp} (h : G a = some (.lst vs)) (r : reps G vs xs) : IvT (Itl K a) xs G where
  goes := fun i H hi s => by
    have hl : i < vs.length := by
      rw [pr_len r]
      exact hi
    exact ⟨vs, vs[i], .inl (.inl (s _ _ h)), List.getElem?_eq_getElem hl⟩
  stops := fun H s => ⟨vs, .inl (.inl (s _ _ h)), by rw [pr_len r]; exact Nat.le_refl _⟩
  yields := fun i x H v H' e s y G1 s1 s2 => by
    obtain ⟨rfl, y⟩ := y
    obtain ⟨v', e', r'⟩ := pr_get r e
    have e2 := (y vs (.inl (.inl (s _ _ h)))).symm.trans e'
    have e3 := Option.some.inj e2
    subst e3
    exact ⟨G1, Step.refl s2, mono s1 r'⟩
theorem iv_tup {α : Type} [Enc α] {K : PySem.W.Frag} {a : Addr} {vs : List V} {xs : List α} {G : Hp} (h : G a = some (.tup vs)) (r : reps G vs xs) : IvT (Itt K a) xs G where
  goes := fun i H hi s => by
    have hl : i < vs.length := by
      rw [pr_len r]
      exact hi
    exact ⟨vs, vs[i], .inl (.inl (s _ _ h)), List.getElem?_eq_getElem hl⟩
  stops := fun H s => ⟨vs, .inl (.inl (s _ _ h)), by rw [pr_len r]; exact Nat.le_refl _⟩
  yields := fun i x H v H' e s y G1 s1 s2 => by
    obtain ⟨rfl, y⟩ := y
    obtain ⟨v', e', r'⟩ := pr_get r e
    have e2 := (y vs (.inl (.inl (s _ _ h)))).symm.trans e'
    have e3 := Option.some.inj e2
    subst e3
    exact ⟨G1, Step.refl s2, mono s1 r'⟩
theorem i_list {α : Type} [Enc α] {tg : Expr} {xs : List α} (h : EJ X e Γ Γ' ⟨xs⟩) : IJ X tg e Γ Γ' xs := .of (pi_list pe_tE) fun B σ G H f R q => h B σ G H f _ fun v G' H' f' s r => by
  obtain ⟨a, vs, e1, h1, h2⟩ := r
  exact ⟨a, e1, ⟨vs, .inl (.inl (f'.sub _ _ h1))⟩, q _ G' H' f' s (iv_list h1 h2)⟩
theorem i_tup {α : Type} [Enc α] {tg : Expr} {xs : List α} (h : EJ X e Γ Γ' ⟨(⟨xs⟩ : Tp α)⟩) : IJ X tg e Γ Γ' xs := .of (pi_tup pe_tE) fun B σ G H f R q => h B σ G H f _ fun v G' H' f' s r => by
  obtain ⟨a, vs, e1, h1, h2⟩ := r
  exact ⟨a, e1, ⟨vs, .inl (.inl (f'.sub _ _ h1))⟩, q _ G' H' f' s (iv_tup h1 h2)⟩
/-- a pair is a tuple of two -/
theorem EJ.tp {α : Type} [Enc α] {p : α × α} (h : EJ X e Γ Γ' ⟨p⟩) : EJ X e Γ Γ' ⟨(⟨[p.1, p.2]⟩ : Tp α)⟩ := fun B σ G H f Q q => h B σ G H f Q fun v G' H' f' s r => q v G' H' f' s (by
  obtain ⟨a, x, y, e1, h1, h2, h3⟩ := r
  exact ⟨a, [x, y], e1, h1, .cons h2 (.cons h3 .nil)⟩)
theorem e_tupT {α : Type} [Enc α] {xs : List α} {kk : Nat} (h : LJ X es Γ Γ' xs) (hl : xs.length ≤ 1000) : EJ X (.Tuple es kk pos) Γ Γ' ⟨(⟨xs⟩ : Tp α)⟩ := .of (pe_tup pa_tA) fun B σ G H f Q q => h B σ G H f _ fun vs G1 H1 f1 s1 r1 => by
  have r2 := repD_reps r1
  refine ⟨by rw [pr_len r2]; exact Nat.le_of_lt (small1000 hl), fun p hp => ?_⟩
  have st := Step.new (o := .tup vs) f1.sub hp
  exact q _ _ _ (f1.step st) (s1.trans st.g) ⟨p, vs, rfl, upd_same, pr_mono (fun _ _ r => mono st.g r) r2⟩
theorem iv_range {lo : Int} {n : Nat} {xs : List Nat} {G : Hp} (hl : xs.length = n) (h : ∀ (i x : Nat), xs[i]? = some x → (x : Int) = lo + i) : IvT (Itr lo n) xs G where
  goes := fun i H hi s => by
    show i < n
    omega
  stops := fun H s => by
    show n ≤ xs.length
    omega
  yields := fun i x H v H' e s y G1 s1 s2 => by
    obtain ⟨rfl, rfl⟩ := y
    exact ⟨G1, Step.refl s2, by show V.int _ = V.int _; rw [h i x e]⟩
theorem i_range {tg : Expr} {n : Nat} (hm : X.mg "range" = none) (h : EJ X a Γ Γ' ⟨n⟩) (hn : n ≤ 1000000) (hg : Gl X "range" := by rfl) (hs : starEach [a] X.env = [(false, eval a X.env)] := by rfl) : IJ X tg (.Call (.Name "range" p2) [a] [] pos) Γ Γ' (List.range n) :=
  .of (pi_range1 hg hm pa_tA hs) fun B σ G H f R q => a_1 h hs B σ G H f _ fun vs G' H' f' s r => by
    match vs, r with
    | [v], ⟨r1, _⟩ =>
      have e1 : v = V.int (n : Int) := r1
      subst e1
      exact ⟨(n : Int), rfl, by omega, by omega, q _ G' H' f' s (by
        rw [Int.toNat_natCast]
        exact iv_range List.length_range fun i x e => by
          have z := (List.getElem?_eq_some_iff.mp e)
          obtain ⟨h1, h2⟩ := z
          rw [List.getElem_range] at h2
          omega)⟩
theorem i_range2 {tg : Expr} {m n : Nat} (hm : X.mg "range" = none) (ha : EJ X a Γ Γ1 ⟨m⟩) (hb : EJ X b Γ1 Γ' ⟨n⟩) (h1 : m ≤ 1000000) (h2 : n ≤ 1000000) (hg : Gl X "range" := by rfl) (hs : starEach [a, b] X.env = [(false, eval a X.env), (false, eval b X.env)] := by rfl)
    (hs2 : starEach [b] X.env = [(false, eval b X.env)] := by rfl) : IJ X tg (.Call (.Name "range" p2) [a, b] [] pos) Γ Γ' (List.range' m (n - m)) :=
  .of (pi_range2 hg hm pa_tA hs hs2) fun B σ G H f R q => a_2 ha hb hs hs2 B σ G H f _ fun vs G' H' f' s r => by
    match vs, r with
    | [v, w], ⟨r1, r2, _⟩ =>
      have e1 : v = V.int (m : Int) := r1
      have e2 : w = V.int (n : Int) := r2
      subst e1 e2
      exact ⟨(m : Int), (n : Int), rfl, ⟨by omega, by omega, by omega, by omega⟩, q _ G' H' f' s (iv_range (by rw [List.length_range']; omega) fun i x e => by
          obtain ⟨h1, h2⟩ := (List.getElem?_eq_some_iff.mp e)
          rw [List.getElem_range'] at h2
          omega)⟩
/-- for target in iter -/
theorem s_for {α : Type} [Enc α] {tg iter : Expr} {body : List Stmt} {xs : List α} {is : List Nat} {F : α → Env' → Env'} (hi : IJ X tg iter Γ Γ1 xs) (hg : GJ X tg is F) (Pv : Nat → Env' → Prop) (h0 : Pv 0 Γ1)
    (hs : ∀ (i : Nat) x Γ2, xs[i]? = some x → Pv i Γ2 → SsJ X body (F x Γ2) ⟨Pv (i + 1), D.rt, D.rn⟩) (hd : ∀ Γ2, Pv xs.length Γ2 → D.nx Γ2) (hp : PassesOwn (model X.prog X.w) X.A X.env X.xe := by exact PassesOwn.never) (hc : X.calm = true := by rfl) (hsx : ∀ x, foldedSetIterable iter X.env x = pure x := by intro _; rfl) :
    SJ X (.For tg iter body [] pos) Γ D := by
  obtain ⟨g, pg, hgv⟩ := hg
  refine .of (ps_for hp hc pi_tI pg pss_tSs hsx) fun B σ G H f E q1 q2 q3 => hi B σ G H f _ fun J G1 H1 f1 s1 iv => ?_
  refine ⟨fun i m σ H => m = xs.length - i ∧ i ≤ xs.length ∧ ∃ Γ2 G2, Fits (G1, B.2) Γ2 σ G2 H ∧ Pv i Γ2, ⟨xs.length, rfl, Nat.zero_le _, Γ1, G1, f1.from, h0⟩, fun i m σ2 H2 w => ?_⟩
  obtain ⟨rfl, hi', Γ2, G2, f2, p⟩ := w
  by_cases hlt : i < xs.length
  · refine .inr ⟨iv.goes i H2 hlt (f2.bg.trans f2.sub), fun σ' H' => ∃ Γ3 G3, Fits (G1, B.2) Γ3 σ' G3 H' ∧ Pv (i + 1) Γ3, fun σ' H' z => ⟨xs.length - (i + 1), by omega, rfl, hlt, z⟩, fun v H' y => ?_⟩
    have e1 : xs[i]? = some xs[i] := List.getElem?_eq_getElem hlt
    obtain ⟨G3, st, r⟩ := iv.yields i _ H2 v H' e1 (f2.bg.trans f2.sub) y G2 f2.bg f2.sub
    refine hgv _ Γ2 σ2 G3 H' v _ (f2.step st) r _ fun ws _ f3 => ?_
    refine hs i _ Γ2 e1 p (G1, B.2) _ G3 H' f3 _ (fun σ' G' H4 Γ' f4 n => ⟨Γ', G', f4, n⟩) (fun v' σ' G' H4 Γ' d f4 r' n => q2 v' σ' G' H4 Γ' d (f1.unfrom f4) r' n) fun v' ps σ' G' H3 H4 Γ' y f4 nd k sm r' n => ?_
    exact q3 v' ps σ' G' H3 H4 Γ' y (f1.unfrom f4) nd k sm r' n
  · have e1 : i = xs.length := by omega
    subst e1
    exact .inl ⟨iv.stops H2 (f2.bg.trans f2.sub), q1 σ2 G2 H2 Γ2 (f1.unfrom f2) (hd Γ2 p)⟩
/-- while: Pv by a measure -/
theorem s_while {body : List Stmt} (Pv : Nat → Env' → Prop) (m0 : Nat) (h0 : Pv m0 Γ)
    (hs : ∀ m Γ2, Pv m Γ2 → ∃ k Γ3, TJ X c Γ2 Γ3 k ∧ (k = true → SsJ X body Γ3 ⟨fun Γ' => ∃ m', m' < m ∧ Pv m' Γ', D.rt, D.rn⟩) ∧ (k = false → D.nx Γ3)) (hp : PassesOwn (model X.prog X.w) X.A X.env X.xe := by exact PassesOwn.never) :
    SJ X (.While c body [] pos) Γ D := by
  refine .of (ps_while hp pt_tT pss_tSs) fun B σ G H f E q1 q2 q3 => ?_
  refine ⟨fun m σ H => ∃ Γ2 G2, Fits B Γ2 σ G2 H ∧ Pv m Γ2, ⟨m0, Γ, G, f, h0⟩, fun m σ2 H2 w => ?_⟩
  obtain ⟨Γ2, G2, f2, p⟩ := w
  obtain ⟨k, Γ3, ht, h1, h2⟩ := hs m Γ2 p
  refine ht B σ2 G2 H2 f2 _ fun G3 H3 f3 s3 => ?_
  cases k with
  | true =>
    refine ⟨fun σ' H' => ∃ m', m' < m ∧ ∃ Γ4 G4, Fits B Γ4 σ' G4 H' ∧ Pv m' Γ4, fun σ' H' z => z, ?_⟩
    refine h1 rfl B σ2 G3 H3 f3 _ (fun σ' G' H4 Γ' f4 n => ?_) q2 q3
    obtain ⟨m', hm, n⟩ := n
    exact ⟨m', hm, Γ', G', f4, n⟩
  | false => exact q1 σ2 G3 H3 Γ3 f3 (h2 rfl)
end

/-! ### comprehensions -/
/-- slots forgotten -/
def wipeE (Γ : Env') : List Nat → Env'
  | [] => Γ
  | v :: vs => (wipeE Γ vs).set v .non
theorem wipeE_len (Γ : Env') : ∀ vs, (wipeE Γ vs).length = Γ.length
  | [] => rfl
  | v :: vs => by
    unfold wipeE
    rw [List.length_set, wipeE_len Γ vs]
theorem wipeE_at {Γ : Env'} {i : Nat} {s : Sl} : ∀ {vs : List Nat}, (wipeE Γ vs)[i]? = some s → s = .non ∨ (i ∉ vs ∧ Γ[i]? = some s)
  | [], h => .inr ⟨by simp, h⟩
  | v :: vs, h => by
    unfold wipeE at h
    by_cases e : v = i
    · subst e
      by_cases hl : v < (wipeE Γ vs).length
      · rw [List.getElem?_set_self hl] at h
        exact .inl (Option.some.inj h).symm
      · rw [List.getElem?_eq_none (by rw [List.length_set]; omega)] at h
        cases h
    · rw [List.getElem?_set_ne e] at h
      rcases wipeE_at h with z | ⟨z1, z2⟩
      · exact .inl z
      · exact .inr ⟨by simp only [List.mem_cons, not_or]; exact ⟨fun q => e q.symm, z1⟩, z2⟩
theorem wipeE_ads {Γ : Env'} {i : Nat} {p : Addr} {vs : List Nat} (h : p ∈ ads (wipeE Γ vs) i) : p ∈ ads Γ i := by
  unfold ads at h ⊢
  cases e : (wipeE Γ vs)[i]? with
  | none =>
    rw [e] at h
    cases h
  | some s =>
    rcases wipeE_at e with z | ⟨_, z⟩
    · subst z
      rw [e] at h
      cases h
    · rw [e] at h
      rw [z]
      exact h
theorem wipe_get {σ : Sg} {i : Nat} : ∀ {vs : List Nat}, i ∉ vs → (wipe σ vs)[i]? = σ[i]?
  | [], _ => rfl
  | v :: vs, h => by
    unfold wipe
    rw [List.getElem?_set_ne (fun e => h (by rw [e]; exact List.mem_cons_self ..))]
    exact wipe_get fun z => h (List.mem_cons_of_mem _ z)
/-- other slots' values at the slots that are forgotten -/
theorem Fits.wiped {B : Hp × Hp} {Γ : Env'} {σ σ' : Sg} {G H : Hp} (f : Fits B Γ σ G H) (vs : List Nat) (e : wipe σ' vs = wipe σ vs) : Fits B (wipeE Γ vs) σ' G H where
  len := by
    have h := congrArg List.length e
    rw [wipe_length, wipe_length] at h
    rw [wipeE_len, h, f.len]
  sub := f.sub
  ok := fun i s h => by
    rcases wipeE_at h with z | ⟨z1, z2⟩
    · subst z
      trivial
    · have q := f.ok i s z2
      have e1 : σ'[i]? = σ[i]? := by rw [← wipe_get z1, e, wipe_get z1]
      rw [e1]
      exact q
  apart := fun i j p h1 h2 => f.apart i j p (wipeE_ads h1) (wipeE_ads h2)
  bg := f.bg
  bh := f.bh
  fresh := f.fresh
  ob := fun i p h => f.ob i p (wipeE_ads h)
theorem wipe_wipe (σ : Sg) (vs : List Nat) : wipe (wipe σ vs) vs = wipe σ vs := by
  apply List.ext_getElem?
  intro i
  by_cases h : i ∈ vs
  · have z : ∀ (σ : Sg) (us : List Nat), i ∈ us → i < σ.length → (wipe σ us)[i]? = some none := fun σ us => by
      induction us with
      | nil => intro h; simp at h
      | cons v us ih =>
        intro h hl
        unfold wipe
        by_cases e : v = i
        · subst e
          rw [List.getElem?_set_self (by rw [wipe_length]; exact hl)]
        · rw [List.getElem?_set_ne e]
          exact ih (by simpa [Ne.symm e] using h) hl
    by_cases hl : i < σ.length
    · rw [z _ _ h (by rw [wipe_length]; exact hl), z _ _ h hl]
    · rw [List.getElem?_eq_none (by rw [wipe_length, wipe_length]; omega), List.getElem?_eq_none (by rw [wipe_length]; omega)]
  · rw [wipe_get h]
theorem wipe_set {σ : Sg} {i : Nat} {o : Option V} {vs : List Nat} (h : i ∈ vs) : wipe (σ.set i o) vs = wipe σ vs := by
  apply List.ext_getElem?
  intro j
  have z : ∀ (σ : Sg) (us : List Nat), j ∈ us → j < σ.length → (wipe σ us)[j]? = some none := fun σ us => by
    induction us with
    | nil => intro h; simp at h
    | cons v us ih =>
      intro h hl
      unfold wipe
      by_cases e : v = j
      · subst e
        rw [List.getElem?_set_self (by rw [wipe_length]; exact hl)]
      · rw [List.getElem?_set_ne e]
        exact ih (by simpa [Ne.symm e] using h) hl
  by_cases hj : j ∈ vs
  · by_cases hl : j < σ.length
    · rw [z _ _ hj (by rw [List.length_set]; exact hl), z _ _ hj hl]
    · rw [List.getElem?_eq_none (by rw [wipe_length, List.length_set]; omega), List.getElem?_eq_none (by rw [wipe_length]; omega)]
  · rw [wipe_get hj, wipe_get hj, List.getElem?_set_ne (fun e => hj (by rw [← e]; exact h))]
theorem wipe_sets {vs : List Nat} : ∀ {σ : Sg} {ws : List (Nat × V)}, (∀ i ∈ ws.map (·.1), i ∈ vs) → wipe (sets σ ws) vs = wipe σ vs
  | σ, [], _ => rfl
  | σ, w :: ws, h => by
    show wipe (sets (σ.set w.1 (some w.2)) ws) vs = _
    rw [wipe_sets (ws := ws) fun i hi => h i (List.mem_cons_of_mem _ hi), wipe_set (h w.1 (List.mem_cons_self ..))]
/-- an address that nothing owns nor keeps may hold anything -/
theorem Fits.upd {B : Hp × Hp} {Γ : Env'} {σ : Sg} {G H : Hp} (f : Fits B Γ σ G H) {p : Addr} (o : HO) (hg : G p = none) (hb : B.2 p = none) (ha : ∀ i, p ∉ ads Γ i) : Fits B Γ σ G (upd H p o) where
  len := f.len
  sub := fun a u h => by
    rw [upd_ne (ne_of_none h hg)]
    exact f.sub a u h
  ok := fun i s e => by
    have q := f.ok i s e
    cases s with
    | non => trivial
    | fro d => exact q
    | own ps y =>
      obtain ⟨v, e1, nd, h1, r⟩ := q
      have ne : ∀ a ∈ ps, a ≠ p := fun a h z => ha i (by
        unfold ads
        rw [e, ← z]
        exact h)
      refine ⟨v, e1, nd, fun a h => ?_, r.cong (Same.refl _) fun a h => upd_ne (ne a h)⟩
      rw [upd_ne (ne a h)]
      exact h1 a h
  apart := f.apart
  bg := f.bg
  bh := fun a u h => by
    rw [upd_ne (ne_of_none h hb)]
    exact f.bh a u h
  fresh := f.fresh
  ob := f.ob
/-- .. or be left out -/
theorem Fits.minus {B : Hp × Hp} {Γ : Env'} {σ : Sg} {G H : Hp} (f : Fits B Γ σ G H) {p : Addr} (hg : G p = none) (hb : B.2 p = none) (ha : ∀ i, p ∉ ads Γ i) : Fits B Γ σ G (fun a => if a = p then none else H a) where
  len := f.len
  sub := fun a u h => by
    show (if a = p then none else H a) = some u
    rw [if_neg (ne_of_none h hg)]
    exact f.sub a u h
  ok := fun i s e => by
    have q := f.ok i s e
    cases s with
    | non => trivial
    | fro d => exact q
    | own ps y =>
      obtain ⟨v, e1, nd, h1, r⟩ := q
      have ne : ∀ a ∈ ps, a ≠ p := fun a h z => ha i (by
        unfold ads
        rw [e, ← z]
        exact h)
      refine ⟨v, e1, nd, fun a h => ?_, r.cong (Same.refl _) fun a h => if_neg (ne a h)⟩
      obtain ⟨z1, ob, z2, nt⟩ := h1 a h
      exact ⟨z1, ob, (if_neg (ne a h)).trans z2, nt⟩
  apart := f.apart
  bg := f.bg
  bh := fun a u h => by
    show (if a = p then none else H a) = some u
    rw [if_neg (ne_of_none h hb)]
    exact f.bh a u h
  fresh := f.fresh
  ob := f.ob
section
variable {X : Cx} {elt tg iter : Expr} {ifs : List Expr} {scope : Scope} {own : List (Str × Nat)} {Γ Γ1 Γ' : Env'} {pos spos py : Pos} {α β : Type} [Enc α] [Enc β] {xs : List α} {is : List Nat} {F : α → Env' → Env'}
/-- a context of the comprehension's block -/
abbrev Blk (X : Cx) (scope : Scope) (P : Cx → Prop) : Prop := ∀ (s : Shared) (H : Hp) (C : Addr) (cl : List (Str × Addr)) (fp : List Addr), P (X.blk s H scope (compEnvC scope cl C X.env) fp)
/-- the tests of a clause: none, or one -/
inductive TsJ (X : Cx) (Γ : Env') : List Expr → Env' → Bool → Prop
  | nil : TsJ X Γ [] Γ true
  | one {c : Expr} {Γ' : Env'} {k : Bool} : TJ X c Γ Γ' k → TsJ X Γ [c] Γ' k
theorem TsJ.ev {Γ' : Env'} {k : Bool} {ifs : List Expr} (h : TsJ X Γ ifs Γ' k) : ∀ B σ G H, Fits B Γ σ G H → ∀ Q : Bool → Hp → Prop, (∀ G' H', Fits B Γ' σ G' H' → Same G G' → Q k H') → ∃ t, PTs X ifs t ∧ t σ H Q := by
  intro B σ G H f Q q
  cases h with
  | nil => exact ⟨tYes, pts_nil, q G H f (Same.refl _)⟩
  | one h => exact ⟨_, pts_one pt_tT, h B σ G H f Q q⟩
/-- what a turn of a comprehension asks -/
def LcTurn (β : Type) [Enc β] (X : Cx) (scope : Scope) (elt : Expr) (ifs : List Expr) (vs : List Nat) (F : α → Env' → Env') (xs : List α) (Pv : Nat → Env' → List β → Prop) : Prop :=
  ∀ (i : Nat) x Γ2 ys, xs[i]? = some x → Pv i Γ2 ys → ∃ Γ3 k, (∀ (s : Shared) (H : Hp) (C : Addr) (cl : List (Str × Addr)) (fp : List Addr), TsJ (X.blk s H scope (compEnvC scope cl C X.env) fp) (F x (wipeE Γ2 vs)) ifs Γ3 k) ∧
    (k = true → ∃ Γ4 y, (∀ (s : Shared) (H : Hp) (C : Addr) (cl : List (Str × Addr)) (fp : List Addr), EJ (X.blk s H scope (compEnvC scope cl C X.env) fp) elt Γ3 Γ4 ⟨y⟩) ∧ Pv (i + 1) (wipeE Γ4 vs) (ys ++ [y])) ∧ (k = false → Pv (i + 1) (wipeE Γ3 vs) ys)
/-- a reading of a comprehension, and what comes of it -/
theorem lc_ev {g : TG} {vs : List Nat} (hi : IJ X tg iter Γ Γ1 xs) (hgv : ∀ B Γ σ G H v x, Fits B Γ σ G H → rep G v x → ∀ Q : Sg → Hp → Prop, (∀ ws : List (Nat × V), ws.map (·.1) = is → Fits B (F x Γ) (sets σ ws) G H → Q (sets σ ws) H) → g v σ H Q)
    (hv : ∀ i ∈ is, i ∈ vs) (hn : xs.length ≤ 100000) (Pv : Nat → Env' → List β → Prop) (h0 : Pv 0 (wipeE Γ1 vs) []) (hs : LcTurn β X scope elt ifs vs F xs Pv) {tt : TT} {te : TE}
    (htt : ∀ Γ2 Γ3 k, (∀ (s : Shared) (H : Hp) (C : Addr) (cl : List (Str × Addr)) (fp : List Addr), TsJ (X.blk s H scope (compEnvC scope cl C X.env) fp) Γ2 ifs Γ3 k) → EvB tt Γ2 Γ3 k)
    (hte : ∀ Γ2 Γ3 d, (∀ (s : Shared) (H : Hp) (C : Addr) (cl : List (Str × Addr)) (fp : List Addr), EJ (X.blk s H scope (compEnvC scope cl C X.env) fp) elt Γ2 Γ3 d) → EvE te Γ2 Γ3 d)
    {y : List β} (hd : ∀ Γ2 ys, Pv xs.length Γ2 ys → Γ2 = Γ' ∧ ys = y) : EvN (tLc (tI X tg iter) g tt te vs) Γ Γ' ⟨(⟨y⟩ : Ol β)⟩ := by
  intro B σ G H f Q q
  refine hi B σ G H f _ fun J G1 H1 f1 s1 iv => ?_
  intro Dl hD
  have hbD : B.2 Dl = none := none_of f1.bh hD
  have hgD : G1 Dl = none := none_of f1.sub hD
  have haD : ∀ i, Dl ∉ ads Γ1 i := fun i h => by
    obtain ⟨_, ⟨o, e, _⟩, _⟩ := own_at f1 h
    rw [hD] at e
    cases e
  refine ⟨fun i m H => m = xs.length - i ∧ i ≤ xs.length ∧ ∃ Γ2 G2 ys acc, Fits (G1, B.2) Γ2 σ G2 H ∧ G2 Dl = none ∧ H Dl = some (.lst acc) ∧ (∀ i, Dl ∉ ads Γ2 i) ∧ reps G2 acc ys ∧ ys.length ≤ i ∧ Pv i Γ2 ys,
    ⟨xs.length, rfl, Nat.zero_le _, wipeE Γ1 vs, G1, [], [], (f1.from.upd (.lst []) hgD hbD haD).wiped vs rfl, hgD, upd_same, fun i h => haD i (wipeE_ads h), .nil, Nat.le_refl _, h0⟩, fun i m H2 w => ?_⟩
  obtain ⟨rfl, hi', Γ2, G2, ys, acc, f2, g2, d2, a2, r2, l2, p2⟩ := w
  by_cases hlt : i < xs.length
  · refine .inr ⟨iv.goes i H2 hlt (f2.bg.trans f2.sub), fun H' => ∃ Γ2 G2 ys acc, Fits (G1, B.2) Γ2 σ G2 H' ∧ G2 Dl = none ∧ H' Dl = some (.lst acc) ∧ (∀ i, Dl ∉ ads Γ2 i) ∧ reps G2 acc ys ∧ ys.length ≤ i + 1 ∧ Pv (i + 1) Γ2 ys,
      fun H' z => ⟨xs.length - (i + 1), by omega, rfl, hlt, z⟩, fun v H' yl => ?_⟩
    have e1 : xs[i]? = some xs[i] := List.getElem?_eq_getElem hlt
    obtain ⟨G3, st, r⟩ := iv.yields i _ H2 v H' e1 (f2.bg.trans f2.sub) yl G2 f2.bg f2.sub
    have f3 := f2.step st
    have d3 : H' Dl = some (.lst acc) := st.h _ _ d2
    have g3 : G3 Dl = none := by
      cases e : G3 Dl with
      | none => rfl
      | some o => exact ((st.n Dl g2 (by rw [e]; exact fun z => nomatch z)).no d2 nt_lst).elim
    -- within the block
    have fw : Fits (G1, B.2) (wipeE Γ2 vs) (wipe σ vs) G3 H' := f3.wiped vs (wipe_wipe σ vs)
    have aw : ∀ i, Dl ∉ ads (wipeE Γ2 vs) i := fun i h => a2 i (wipeE_ads h)
    have dF : noOwn (wipeE Γ2 vs) H' Dl = some (.lst acc) := noOwn_some.mpr ⟨fun ⟨i, h⟩ => aw i h, d3⟩
    refine hgv _ (wipeE Γ2 vs) (wipe σ vs) G3 H' v _ fw.frame r _ fun ws ew f4 => ?_
    have ewv : wipe (sets (wipe σ vs) ws) vs = wipe σ vs := by
      rw [wipe_sets (fun i h => hv i (by rw [← ew]; exact h)), wipe_wipe]
    refine ⟨ewv, ?_⟩
    obtain ⟨Γ3, k, ht, hy, hno⟩ := hs i _ Γ2 ys e1 p2
    refine htt _ _ _ ht _ _ G3 H' f4 _ fun G5 H5 f5 s5 => ?_
    have g5 : G5 Dl = none := by
      cases e : G5 Dl with
      | none => rfl
      | some o => exact (Fr0.no (H := noOwn (wipeE Γ2 vs) H') (f5.fresh Dl g3 (by rw [e]; exact fun z => nomatch z)) dF nt_lst).elim
    cases k with
    | false =>
      have ad5 : ∀ i, Dl ∉ ads Γ3 i := fun i h => by
        have z : noOwn (wipeE Γ2 vs) H' Dl = none := f5.ob i Dl h
        rw [dF] at z
        cases z
      have u5 := fw.unframe f5
      exact ⟨wipeE Γ3 vs, G5, ys, acc, u5.wiped vs ewv.symm, g5, f5.bh Dl _ dF, fun i h => ad5 i (wipeE_ads h), pr_mono (fun _ _ r => mono (st.g.trans s5) r) r2, Nat.le_succ_of_le l2, hno rfl⟩
    | true =>
      obtain ⟨Γ4, y1, hel, hp⟩ := hy rfl
      show te _ H5 _
      refine hte _ _ _ hel _ _ G5 H5 f5 _ fun v6 G6 H6 f6 s6 r6 => ?_
      have g6 : G6 Dl = none := by
        cases e : G6 Dl with
        | none => rfl
        | some o => exact (Fr0.no (H := noOwn (wipeE Γ2 vs) H') (f6.fresh Dl g3 (by rw [e]; exact fun z => nomatch z)) dF nt_lst).elim
      have ad6 : ∀ i, Dl ∉ ads Γ4 i := fun i h => by
        have z : noOwn (wipeE Γ2 vs) H' Dl = none := f6.ob i Dl h
        rw [dF] at z
        cases z
      have u6 := fw.unframe f6
      have la : acc.length = ys.length := pr_len r2
      refine ⟨acc, f6.bh Dl _ dF, Nat.lt_of_lt_of_le (show acc.length < 100001 by omega) (by decide), wipeE Γ4 vs, G6, ys ++ [y1], acc ++ [v6], ?_, g6, upd_same, fun i h => ad6 i (wipeE_ads h), pr_app (pr_mono (fun _ _ r => mono ((st.g.trans s5).trans s6) r) r2) (.cons r6 .nil), by rw [List.length_append, List.length_singleton]; omega, hp⟩
      exact (u6.wiped vs ewv.symm).upd _ g6 hbD fun i h => ad6 i (wipeE_ads h)
  · have e1 : i = xs.length := by omega
    subst e1
    obtain ⟨e2, e3⟩ := hd Γ2 ys p2
    subst e2 e3
    have f4 : Fits B Γ2 σ G2 H2 := f1.unfrom f2
    refine .inl ⟨iv.stops H2 (f2.bg.trans f2.sub), q (.ref Dl) [Dl] G2 (fun a => if a = Dl then none else H2 a) H2 (f4.minus g2 hbD a2) (s1.trans f2.bg) (by simp) (fun p hp => ?_) (fun a o h => ?_) ⟨Dl, acc, rfl, rfl, d2, r2⟩⟩
    · have e4 : p = Dl := by simpa using hp
      subst e4
      exact ⟨if_pos rfl, _, d2, nt_lst⟩
    · have h' : (if a = Dl then none else H2 a) = some o := h
      by_cases e5 : a = Dl
      · rw [if_pos e5] at h'
        cases h'
      · rw [if_neg e5] at h'
        exact h'
/-- readings of a block's tests and its element, for every such block -/
def tTb (X : Cx) (scope : Scope) (ifs : List Expr) : TT := fun σ H Q => ∀ (s : Shared) (H' : Hp) (C : Addr) (cl : List (Str × Addr)) (fp : List Addr), ∃ t, PTs (X.blk s H' scope (compEnvC scope cl C X.env) fp) ifs t ∧ t σ H Q
def tEb (X : Cx) (scope : Scope) (elt : Expr) : TE := fun σ H Q => ∀ (s : Shared) (H' : Hp) (C : Addr) (cl : List (Str × Addr)) (fp : List Addr), ∃ t, PE (X.blk s H' scope (compEnvC scope cl C X.env) fp) elt t ∧ t σ H Q
theorem pts_tTb (s : Shared) (H : Hp) (C : Addr) (cl : List (Str × Addr)) (fp : List Addr) : PTs (X.blk s H scope (compEnvC scope cl C X.env) fp) ifs (tTb X scope ifs) := ⟨fun pins s' σ H' Q I h => by
  obtain ⟨t, p, q⟩ := h s H C cl fp
  exact p.run pins s' σ H' Q I q⟩
theorem pe_tEb (s : Shared) (H : Hp) (C : Addr) (cl : List (Str × Addr)) (fp : List Addr) : PE (X.blk s H scope (compEnvC scope cl C X.env) fp) elt (tEb X scope elt) := ⟨fun pins s' σ H' Q I h => by
  obtain ⟨t, p, q⟩ := h s H C cl fp
  exact p.run pins s' σ H' Q I q⟩
/-- a target within a block -/
def GJb {α : Type} [Enc α] (X : Cx) (scope : Scope) (tg : Expr) (is : List Nat) (F : α → Env' → Env') : Prop :=
  ∃ g, (∀ (s : Shared) (H : Hp) (C : Addr) (cl : List (Str × Addr)) (fp : List Addr), PG (X.blk s H scope (compEnvC scope cl C X.env) fp) tg g) ∧
    ∀ B Γ σ G H v x, Fits B Γ σ G H → rep G v x → ∀ Q : Sg → Hp → Prop, (∀ ws : List (Nat × V), ws.map (·.1) = is → Fits B (F x Γ) (sets σ ws) G H → Q (sets σ ws) H) → g v σ H Q
/-- the comprehension as a value, a new list of one's own -/
theorem n_lc (nd : X.N.Nodup) (own : List (Str × Nat)) (ok : BlkOk X.N X.env.scope scope own) (hi : IJ X tg iter Γ Γ1 xs) (hg : GJb X scope tg is F) (hn : xs.length ≤ 100000) (Pv : Nat → Env' → List β → Prop) (h0 : Pv 0 (wipeE Γ1 (own.map (·.2))) [])
    (hs : LcTurn β X scope elt ifs (own.map (·.2)) F xs Pv) {y : List β} (hd : ∀ Γ2 ys, Pv xs.length Γ2 ys → Γ2 = Γ' ∧ ys = y) (hv : ∀ i ∈ is, i ∈ own.map (·.2) := by decide) (hc : X.calm = true := by rfl) (hsx : ∀ x, foldedSetIterable iter X.env x = pure x := by intro _; rfl) :
    NJ X (.ListComp elt [⟨tg, iter, ifs, 0⟩] scope pos) Γ Γ' ⟨(⟨y⟩ : Ol β)⟩ := by
  obtain ⟨g, pg, hgv⟩ := hg
  refine .of (pe_lc hc nd pi_tI ok pg pts_tTb pe_tEb hsx) (lc_ev hi hgv hv hn Pv h0 hs (fun Γ2 Γ3 k h => ?_) (fun Γ2 Γ3 d h => ?_) hd)
  · exact fun B σ G H f Q q s H' C cl fp => (h s H' C cl fp).ev B σ G H f Q q
  · exact fun B σ G H f Q q s H' C cl fp => h s H' C cl fp B σ G H f Q q
/-- name = [..], as a thing of one's own -/
theorem s_lc (nd : X.N.Nodup) (i : Nat) {x : Str} {D : TD} (own : List (Str × Nat)) (ok : BlkOk X.N X.env.scope scope own) (hi : IJ X tg iter Γ Γ1 xs) (hg : GJb X scope tg is F) (hn : xs.length ≤ 100000) (Pv : Nat → Env' → List β → Prop) (h0 : Pv 0 (wipeE Γ1 (own.map (·.2))) [])
    (hs : LcTurn β X scope elt ifs (own.map (·.2)) F xs Pv) {y : List β} (hd : ∀ Γ2 ys, Pv xs.length Γ2 ys → Γ2 = Γ' ∧ ys = y) (k : ∀ ps, D.nx (Γ'.set i (.own ps ⟨(⟨y⟩ : Ol β)⟩))) (hv : ∀ i ∈ is, i ∈ own.map (·.2) := by decide) (hc : X.calm = true := by rfl)
    (hi1 : X.N[i]? = some x := by rfl) (hyl : X.env.scope.names.lookup x = some .local := by rfl) (hsw : swapsWith (.ListComp elt [⟨tg, iter, ifs, 0⟩] scope pos) (some (.Name x py)) spos.line X.env = pure true := by exact (sw_true rfl rfl rfl (by decide +kernel)))
    (hsx : ∀ x, foldedSetIterable iter X.env x = pure x := by intro _; rfl) :
    SJ X (.Assign [.Name x py] (.ListComp elt [⟨tg, iter, ifs, 0⟩] scope pos) spos) Γ D := by
  obtain ⟨g, pg, hgv⟩ := hg
  refine .of (ps_setLc (i := i) hc nd hi1 hyl hsw pi_tI ok pg pts_tTb pe_tEb hsx) fun B σ G H f E q1 q2 q3 => ?_
  refine lc_ev hi hgv hv hn Pv h0 hs (fun Γ2 Γ3 k h => ?_) (fun Γ2 Γ3 d h => ?_) hd B σ G H f _ fun v ps G' H1 H' f' s nd' n sm r => q1 _ G' H' _ (f'.putN i sm nd' n r) (k ps)
  · exact fun B σ G H f Q q s H' C cl fp => (h s H' C cl fp).ev B σ G H f Q q
  · exact fun B σ G H f Q q s H' C cl fp => h s H' C cl fp B σ G H f Q q
end
end Ty

namespace Ty
open PySem PySem.Spec PyProof.Rows L2 Ty.Enc

/-! ### defs and their promises -/
structure Wd where
  P : Program
  w : World
  K : PySem.W.Frag
  mg : Str → Option Value
  base : Heap
abbrev wd (X : Cx) : Wd := ⟨X.prog, X.w, X.K, X.mg, X.base⟩
/-- the module's name x stands for a def that keeps sp -/
def Kn (W : Wd) (k : Nat) (x : Str) (ps : List Str) (sp : Sp) : Prop := ∃ f fd, FnOk W.P W.w W.K W.mg W.base CX0 k f fd ps sp ∧ W.mg x = some (.ref f) ∧ PySem.W.keepIn W.K (.ref f) = true ∧ Binds W.K fd ps []
theorem Kn.mono {W : Wd} {j k : Nat} {x : Str} {ps : List Str} {sp : Sp} (h : Kn W j x ps sp) (l : j ≤ k) : Kn W k x ps sp := by
  obtain ⟨f, fd, h1, h2, h3, h4⟩ := h
  exact ⟨f, fd, h1.mono l, h2, h3, h4⟩
/-- a promise over data: called with ds i, where pre i holds, it answers res i; what stood stands -/
def spF {ι : Type} (ds : ι → List Dyn) (pre : ι → Prop) (res : ι → Dyn) : Sp := fun vs H Q _ => ∃ i G, Same G H ∧ repD G vs (ds i) ∧ pre i ∧ ∀ v G' H', Step G H G' H' → (res i).rep G' v → Q v H'
abbrev spF1 {α γ : Type} [Enc α] [Enc γ] (pre : α → Prop) (f : α → γ) : Sp := spF (fun a : α => [⟨a⟩]) pre fun a => ⟨f a⟩
abbrev spF2 {α β γ : Type} [Enc α] [Enc β] [Enc γ] (pre : α → β → Prop) (f : α → β → γ) : Sp := spF (fun p : α × β => [⟨p.1⟩, ⟨p.2⟩]) (fun p => pre p.1 p.2) fun p => ⟨f p.1 p.2⟩
abbrev spF3 {α β γ δ : Type} [Enc α] [Enc β] [Enc γ] [Enc δ] (pre : α → β → γ → Prop) (f : α → β → γ → δ) : Sp := spF (fun p : α × β × γ => [⟨p.1⟩, ⟨p.2.1⟩, ⟨p.2.2⟩]) (fun p => pre p.1 p.2.1 p.2.2) fun p => ⟨f p.1 p.2.1 p.2.2⟩
abbrev spF4 {α β γ δ ε : Type} [Enc α] [Enc β] [Enc γ] [Enc δ] [Enc ε] (pre : α → β → γ → δ → Prop) (f : α → β → γ → δ → ε) : Sp :=
  spF (fun p : α × β × γ × δ => [⟨p.1⟩, ⟨p.2.1⟩, ⟨p.2.2.1⟩, ⟨p.2.2.2⟩]) (fun p => pre p.1 p.2.1 p.2.2.1 p.2.2.2) fun p => ⟨f p.1 p.2.1 p.2.2.1 p.2.2.2⟩
section
variable {X : Cx} {e a b c o : Expr} {es : List Expr} {Γ Γ1 Γ2 Γ3 Γ4 Γ' : Env'} {d d1 d2 d3 d4 : Dyn} {te ta tb : TE} {p2 pos pos' : Pos} {k : Bool} {r : R2} {D : TD} {lv : Nat} {x : Str} {ps : List Str} {ds : List Dyn}
theorem e_callG {sp : Sp} (kn : Kn (wd X) lv x ps sp) (hr : Room lv X.A) (ha : AJ X (e :: es) Γ Γ' ds) (h : RCT (fun vs H Q => sp vs H Q E0) ds d) (hg : Gl X x := by rfl) (hdb : (x == ("__debug__" : Str)) = false := by decide)
    (he : starEach (e :: es) X.env = (false, eval e X.env) :: starEach es X.env := by rfl) (hpl : (backTo pos (starEach es X.env)).any (·.1) = false := by rfl) : EJ X (.Call (.Name x p2) (e :: es) [] pos) Γ Γ' d := by
  obtain ⟨f, fd, h1, h2, h3, h4⟩ := kn
  refine .of (pe_call h1 hr hg h2 h3 h4 .nil pass0 pa_tA hdb he hpl) fun B σ G H ft Q q => ha B σ G H ft _ fun vs G1 H1 f1 s1 r1 => ?_
  rw [List.append_nil]
  exact h G1 H1 vs f1.sub r1 Q fun u G2 H2 st r2 => q u G2 H2 (f1.step st) (s1.trans st.g) r2
theorem rct_F {ι : Type} {ds : ι → List Dyn} {pre : ι → Prop} {res : ι → Dyn} (i : ι) (h : pre i) : RCT (fun vs H Q => spF ds pre res vs H Q E0) (ds i) (res i) := fun G H vs s r Q q => ⟨i, G, s, r, h, q⟩
section
variable {α β γ δ ε : Type} [Enc α] [Enc β] [Enc γ] [Enc δ] [Enc ε]
theorem e_call1 {pre : α → Prop} {f : α → γ} {y : α} (kn : Kn (wd X) lv x ps (spF1 pre f)) (hr : Room lv X.A) (ha : EJ X a Γ Γ1 ⟨y⟩) (hp : pre y) (hg : Gl X x := by rfl) (hdb : (x == ("__debug__" : Str)) = false := by decide)
    (he : starEach [a] X.env = [(false, eval a X.env)] := by rfl) : EJ X (.Call (.Name x p2) [a] [] pos) Γ Γ1 ⟨f y⟩ := e_callG kn hr (a_1 ha he) (rct_F (ds := fun a : α => [⟨a⟩]) (res := fun a => ⟨f a⟩) y hp) hg hdb he rfl
theorem e_call2 {pre : α → β → Prop} {f : α → β → γ} {y : α} {z : β} (kn : Kn (wd X) lv x ps (spF2 pre f)) (hr : Room lv X.A) (ha : EJ X a Γ Γ1 ⟨y⟩) (hb : EJ X b Γ1 Γ2 ⟨z⟩) (hp : pre y z) (hg : Gl X x := by rfl) (hdb : (x == ("__debug__" : Str)) = false := by decide)
    (he : starEach [a, b] X.env = [(false, eval a X.env), (false, eval b X.env)] := by rfl) (he2 : starEach [b] X.env = [(false, eval b X.env)] := by rfl) (hpl : (backTo pos (starEach [b] X.env)).any (·.1) = false := by rfl) :
    EJ X (.Call (.Name x p2) [a, b] [] pos) Γ Γ2 ⟨f y z⟩ := e_callG kn hr (a_2 ha hb he he2) (rct_F (ds := fun p : α × β => [⟨p.1⟩, ⟨p.2⟩]) (pre := fun p => pre p.1 p.2) (res := fun p => ⟨f p.1 p.2⟩) (y, z) hp) hg hdb (by rw [he, he2]) hpl
theorem e_call3 {pre : α → β → γ → Prop} {f : α → β → γ → δ} {y : α} {z : β} {u : γ} (kn : Kn (wd X) lv x ps (spF3 pre f)) (hr : Room lv X.A) (ha : EJ X a Γ Γ1 ⟨y⟩) (hb : EJ X b Γ1 Γ2 ⟨z⟩) (hc : EJ X c Γ2 Γ3 ⟨u⟩) (hp : pre y z u) (hg : Gl X x := by rfl) (hdb : (x == ("__debug__" : Str)) = false := by decide)
    (he : starEach [a, b, c] X.env = (false, eval a X.env) :: starEach [b, c] X.env := by rfl) (he2 : starEach [b, c] X.env = [(false, eval b X.env), (false, eval c X.env)] := by rfl) (he3 : starEach [c] X.env = [(false, eval c X.env)] := by rfl) (hpl : (backTo pos (starEach [b, c] X.env)).any (·.1) = false := by rfl) :
    EJ X (.Call (.Name x p2) [a, b, c] [] pos) Γ Γ3 ⟨f y z u⟩ := e_callG kn hr (a_cons ha (a_2 hb hc he2 he3) he) (rct_F (ds := fun p : α × β × γ => [⟨p.1⟩, ⟨p.2.1⟩, ⟨p.2.2⟩]) (pre := fun p => pre p.1 p.2.1 p.2.2) (res := fun p => ⟨f p.1 p.2.1 p.2.2⟩) (y, z, u) hp) hg hdb he hpl
theorem e_call4 {o : Expr} {pre : α → β → γ → δ → Prop} {f : α → β → γ → δ → ε} {y : α} {z : β} {u : γ} {w : δ} (kn : Kn (wd X) lv x ps (spF4 pre f)) (hr : Room lv X.A) (ha : EJ X a Γ Γ1 ⟨y⟩) (hb : EJ X b Γ1 Γ2 ⟨z⟩) (hc : EJ X c Γ2 Γ3 ⟨u⟩) (ho : EJ X o Γ3 Γ4 ⟨w⟩) (hp : pre y z u w) (hg : Gl X x := by rfl) (hdb : (x == ("__debug__" : Str)) = false := by decide)
    (he : starEach [a, b, c, o] X.env = (false, eval a X.env) :: starEach [b, c, o] X.env := by rfl) (he1 : starEach [b, c, o] X.env = (false, eval b X.env) :: starEach [c, o] X.env := by rfl) (he2 : starEach [c, o] X.env = [(false, eval c X.env), (false, eval o X.env)] := by rfl)
    (he3 : starEach [o] X.env = [(false, eval o X.env)] := by rfl) (hpl : (backTo pos (starEach [b, c, o] X.env)).any (·.1) = false := by rfl) :
    EJ X (.Call (.Name x p2) [a, b, c, o] [] pos) Γ Γ4 ⟨f y z u w⟩ := e_callG kn hr (a_cons ha (a_cons hb (a_2 hc ho he2 he3) he1) he)
      (rct_F (ds := fun p : α × β × γ × δ => [⟨p.1⟩, ⟨p.2.1⟩, ⟨p.2.2.1⟩, ⟨p.2.2.2⟩]) (pre := fun p => pre p.1 p.2.1 p.2.2.1 p.2.2.2) (res := fun p => ⟨f p.1 p.2.1 p.2.2.1 p.2.2.2⟩) (y, z, u, w) hp) hg hdb he hpl
end
/-- the slots at the start of a def: the arguments, then nothing -/
def starts (ds : List Dyn) (n : Nat) : Env' := ds.map .fro ++ List.replicate n .non
theorem repD_len {H : Hp} : ∀ {vs : List V} {ds : List Dyn}, repD H vs ds → vs.length = ds.length
  | [], [], _ => rfl
  | [], _ :: _, h => h.elim
  | _ :: _, [], h => h.elim
  | _ :: _, _ :: _, h => congrArg Nat.succ (repD_len h.2)
theorem repD_at {H : Hp} : ∀ {vs : List V} {ds : List Dyn} {i : Nat} {d : Dyn}, repD H vs ds → ds[i]? = some d → ∃ v, vs[i]? = some v ∧ d.rep H v
  | [], [], _, _, _, e => by simp at e
  | [], _ :: _, _, _, h, _ => h.elim
  | _ :: _, [], _, _, h, _ => h.elim
  | v :: _, d :: _, 0, d', h, e => by
    have e2 := Option.some.inj e
    subst e2
    exact ⟨v, rfl, h.1⟩
  | _ :: _, _ :: _, i + 1, d', h, e => repD_at (i := i) h.2 e
theorem ads_starts {ds : List Dyn} {n i : Nat} : ads (starts ds n) i = [] := by
  unfold ads starts
  by_cases h : i < (ds.map Sl.fro).length
  · rw [List.getElem?_append_left h, List.getElem?_map]
    cases e : ds[i]? with
    | none => rfl
    | some d => rfl
  · rw [List.getElem?_append_right (by omega), List.getElem?_replicate]
    split <;> rfl
theorem fits_start {N : List Str} {vs : List V} {ds : List Dyn} {n : Nat} {G H : Hp} (s : Same G H) (r : repD G vs ds) (hn : N.length = vs.length + n) : Fits (G, H) (starts ds n) (L2.start N vs) G H where
  len := by
    unfold L2.start starts
    simp only [List.length_append, List.length_map, List.length_replicate, repD_len r] at *
    omega
  sub := s
  ok := fun i t e => by
    unfold starts at e
    by_cases h : i < (ds.map Sl.fro).length
    · rw [List.getElem?_append_left h, List.getElem?_map] at e
      cases e2 : ds[i]? with
      | none =>
        rw [e2] at e
        cases e
      | some d =>
        rw [e2] at e
        have e3 := Option.some.inj e
        subst e3
        obtain ⟨v, h1, h2⟩ := repD_at r e2
        refine ⟨v, ?_, h2⟩
        unfold L2.start
        have hl : i < vs.length := (List.getElem?_eq_some_iff.mp h1).1
        rw [List.getElem?_append_left (by rw [List.length_map]; exact hl), List.getElem?_map, h1]
        rfl
    · rw [List.getElem?_append_right (by omega), List.getElem?_replicate] at e
      split at e
      · have e3 := Option.some.inj e
        subst e3
        trivial
      · cases e
  apart := fun i j p h => by
    rw [ads_starts] at h
    cases h
  bg := Same.refl _
  bh := Same.refl _
  fresh := fun a h h' => absurd h h'
  ob := fun i p h => by
    rw [ads_starts] at h
    cases h
/-- THE RULE for a def: its body, from the slots at the start -/
theorem kn_of {W : Wd} {x : Str} {args : Arguments} {body : List Stmt} {scope : Scope} {ι : Type} {ds : ι → List Dyn} {pre : ι → Prop} {res : ι → Dyn} {N ps : List Str} {k n : Nat} (T : ∃ f fd, FunD W.K x x args body scope [] [] f fd ∧ W.mg x = some (.ref f)) (S : FnScope N ps scope) (hn : N.length = ps.length + n)
    (hl : ∀ i, (ds i).length = ps.length)
    (hb : ∀ (kV doc pm : Value) (an : Option Addr) (cdv ct : Value) (us : List Value), us.length = ps.length → bindArgs (PySem.W.fnOf x x args body scope .none kV doc pm an cdv ct) ⟨us, []⟩ = pure (ps.zip us))
    (hbody : ∀ (f : Addr) (cdv : Value) (A : Around) (outer : List Env) (s : Shared) (H : Hp) (E : XK), Room k (A.deeper (envOfC x scope s.heap.objs.size f cdv)) → ∀ i, pre i →
      SsJ (cxOf CX0 W.P W.w W.K W.mg W.base N x scope f cdv A outer s H E).nox body (starts (ds i) n) ⟨fun _ => res i = ⟨()⟩, fun _ d => d = res i, fun _ _ => False⟩) : Kn W (k + 1) x ps (spF ds pre res) := by
  obtain ⟨f, fd, F, gm⟩ := T
  refine ⟨f, fd, F.ok S (fun vs H Q E h => ?_) (fun cdv A outer s H vs Q E hr h => ?_), gm, F.kp, F.bindsN hb⟩
  · obtain ⟨i, G, _, h2, _⟩ := h
    rw [repD_len h2, hl i]
  · obtain ⟨i, G, h1, h2, h3, q⟩ := h
    refine ⟨_, PSs.nox pss_tSs, hbody f cdv A outer s H E hr i h3 (G, H) _ G H (fits_start h1 h2 (by rw [repD_len h2, hl i]; exact hn)) _ (fun σ' G' H' Γ' f' n => ?_) (fun v σ' G' H' Γ' d f' r n => ?_) fun v ps σ' G' H1 H' Γ' y f' nd k sm r n => n.elim⟩
    · refine q .non G' H' ⟨f'.bg, f'.bh, f'.sub, f'.fresh⟩ ?_
      rw [n]
      rfl
    · subst n
      exact q v G' H' ⟨f'.bg, f'.bh, f'.sub, f'.fresh⟩ r

/-! ### built-ins by name -/
theorem e_bi {id : String} {r : List V → Hp → VK → Prop} (hc : CallR X (.builtin id) r) (hm : X.mg x = none) (hv : bootBuiltins x = some (.builtin id)) (ha : AJ X (e :: es) Γ Γ' ds) (h : RCT r ds d) (hg : Gl X x := by rfl) (hn : x ≠ "__name__" := by decide) (hdb : (x == ("__debug__" : Str)) = false := by decide)
    (he : starEach (e :: es) X.env = (false, eval e X.env) :: starEach es X.env := by rfl) (hpl : (backTo pos (starEach es X.env)).any (·.1) = false := by rfl) : EJ X (.Call (.Name x p2) (e :: es) [] pos) Γ Γ' d :=
  .of (pe_callB hc hg hm hv pa_tA hn hdb he hpl) fun B σ G H f Q q => ha B σ G H f _ fun vs G1 H1 f1 s1 r1 => h G1 H1 vs f1.sub r1 Q fun u G2 H2 st r2 => q u G2 H2 (f1.step st) (s1.trans st.g) r2
theorem n_bi {id : String} {r : List V → Hp → VK → Prop} {y : ODyn} (hc : CallR X (.builtin id) r) (hm : X.mg x = none) (hv : bootBuiltins x = some (.builtin id)) (ha : AJ X (e :: es) Γ Γ' ds) (h : RCN r ds y) (hg : Gl X x := by rfl) (hn : x ≠ "__name__" := by decide) (hdb : (x == ("__debug__" : Str)) = false := by decide)
    (he : starEach (e :: es) X.env = (false, eval e X.env) :: starEach es X.env := by rfl) (hpl : (backTo pos (starEach es X.env)).any (·.1) = false := by rfl) : NJ X (.Call (.Name x p2) (e :: es) [] pos) Γ Γ' y :=
  .of (pe_callB hc hg hm hv pa_tA hn hdb he hpl) fun B σ G H f Q q => ha B σ G H f _ fun vs G1 H1 f1 s1 r1 => h G1 H1 vs f1.sub r1 Q fun u ps H2 nd n sm r2 => q u ps G1 H1 H2 f1 s1 nd n sm r2
theorem e_ty {T : String} {r : List V → Hp → VK → Prop} (hc : CallR X (.type T) r) (hm : X.mg x = none) (hv : bootBuiltins x = some (.type T)) (ha : AJ X (e :: es) Γ Γ' ds) (h : RCT r ds d) (hg : Gl X x := by rfl) (hn : x ≠ "__name__" := by decide) (hdb : (x == ("__debug__" : Str)) = false := by decide)
    (he : starEach (e :: es) X.env = (false, eval e X.env) :: starEach es X.env := by rfl) (hpl : (backTo pos (starEach es X.env)).any (·.1) = false := by rfl) : EJ X (.Call (.Name x p2) (e :: es) [] pos) Γ Γ' d :=
  .of (pe_callTy hc hg hm hv pa_tA hn hdb he hpl) fun B σ G H f Q q => ha B σ G H f _ fun vs G1 H1 f1 s1 r1 => h G1 H1 vs f1.sub r1 Q fun u G2 H2 st r2 => q u G2 H2 (f1.step st) (s1.trans st.g) r2
theorem n_ty {T : String} {r : List V → Hp → VK → Prop} {y : ODyn} (hc : CallR X (.type T) r) (hm : X.mg x = none) (hv : bootBuiltins x = some (.type T)) (ha : AJ X (e :: es) Γ Γ' ds) (h : RCN r ds y) (hg : Gl X x := by rfl) (hn : x ≠ "__name__" := by decide) (hdb : (x == ("__debug__" : Str)) = false := by decide)
    (he : starEach (e :: es) X.env = (false, eval e X.env) :: starEach es X.env := by rfl) (hpl : (backTo pos (starEach es X.env)).any (·.1) = false := by rfl) : NJ X (.Call (.Name x p2) (e :: es) [] pos) Γ Γ' y :=
  .of (pe_callTy hc hg hm hv pa_tA hn hdb he hpl) fun B σ G H f Q q => ha B σ G H f _ fun vs G1 H1 f1 s1 r1 => h G1 H1 vs f1.sub r1 Q fun u ps H2 nd n sm r2 => q u ps G1 H1 H2 f1 s1 nd n sm r2
/-- a built-in class as a value: only for isinstance -/
structure Tyn where
  n : String
instance : Enc Tyn := ⟨fun _ v t => v = .ty t.n, fun _ h => h⟩
theorem e_tyv {T : String} (hm : X.mg x = none) (hv : bootBuiltins x = some (.type T)) (hg : Gl X x := by rfl) (hn : x ≠ "__name__" := by decide) (hd : (x == ("__debug__" : Str)) = false := by decide) : EJ X (.Name x pos) Γ Γ ⟨(⟨T⟩ : Tyn)⟩ :=
  .of (pe_bltn (v := .ty T) hg hm hv rfl hn hd) fun B σ G H f Q q => q _ G H f (Same.refl _) rfl
/-- a kind of data whose Python type is known -/
structure TyIs (α : Type) [Enc α] (t : String) : Prop where
  is : ∀ {K : PySem.W.Frag} {G H : Hp} {v : V} {x : α}, Same G H → rep G v x → TyX K H v (.type t)
theorem ti_nat : TyIs Nat "int" := ⟨fun _ h => by
  have e : _ = V.int _ := h
  rw [e]
  exact .base (.int _)⟩
theorem ti_list {α : Type} [Enc α] : TyIs (List α) "list" := ⟨fun s h => by
  obtain ⟨a, vs, e, h1, _⟩ := h
  rw [e]
  exact .base (.lst (s _ _ h1))⟩
theorem ti_pair {α β : Type} [Enc α] [Enc β] : TyIs (α × β) "tuple" := ⟨fun s h => by
  obtain ⟨a, x, y, e, h1, _⟩ := h
  rw [e]
  exact .base (.tup (s _ _ h1))⟩
theorem e_isi {α : Type} [Enc α] {y : α} {t : String} (T : String) (k : Bool) (ti : TyIs α t) (hm : X.mg "isinstance" = none) (ha : EJ X a Γ Γ1 ⟨y⟩) (hb : EJ X b Γ1 Γ2 ⟨(⟨T⟩ : Tyn)⟩) (hk : kitB t T = some k := by decide +kernel) (hg : Gl X "isinstance" := by rfl)
    (he : starEach [a, b] X.env = [(false, eval a X.env), (false, eval b X.env)] := by rfl) (he2 : starEach [b] X.env = [(false, eval b X.env)] := by rfl) (hpl : (backTo pos (starEach [b] X.env)).any (·.1) = false := by rfl) : EJ X (.Call (.Name "isinstance" p2) [a, b] [] pos) Γ Γ2 ⟨k⟩ :=
  e_bi call_isi hm (by decide +kernel) (a_2 ha hb he he2) (fun G H vs s r Q q => by
    match vs, r with
    | [v, w], ⟨r1, r2, _⟩ =>
      have e2 : w = V.ty T := r2
      subst e2
      exact ⟨v, .ty T, .type t, .type T, k, rfl, .ty T, ti.is s r1, kit_ty hk, q _ G H (Step.refl s) rfl⟩) hg (by decide) (by decide) (by rw [he, he2]) hpl
section
variable {m n : Nat} {i j : Int}
theorem e_maxN (hm : X.mg "max" = none) (ha : EJ X a Γ Γ1 ⟨m⟩) (hb : EJ X b Γ1 Γ2 ⟨n⟩) (hg : Gl X "max" := by rfl) (he : starEach [a, b] X.env = [(false, eval a X.env), (false, eval b X.env)] := by rfl) (he2 : starEach [b] X.env = [(false, eval b X.env)] := by rfl) (hpl : (backTo pos (starEach [b] X.env)).any (·.1) = false := by rfl) (hc : X.calm = true := by rfl) :
    EJ X (.Call (.Name "max" p2) [a, b] [] pos) Γ Γ2 ⟨max m n⟩ := e_bi (call_max2 hc) hm (by decide +kernel) (a_2 ha hb he he2) (fun G H vs s r Q q => by
    match vs, r with
    | [v, w], ⟨r1, r2, _⟩ =>
      have e1 : v = V.int (m : Int) := r1
      have e2 : w = V.int (n : Int) := r2
      subst e1 e2
      refine ⟨(m : Int), (n : Int), rfl, q _ G H (Step.refl s) ?_⟩
      show V.int _ = V.int ((max m n : Nat) : Int)
      congr 1
      split <;> omega) hg (by decide) (by decide) (by rw [he, he2]) hpl
theorem e_minN (hm : X.mg "min" = none) (ha : EJ X a Γ Γ1 ⟨m⟩) (hb : EJ X b Γ1 Γ2 ⟨n⟩) (hg : Gl X "min" := by rfl) (he : starEach [a, b] X.env = [(false, eval a X.env), (false, eval b X.env)] := by rfl) (he2 : starEach [b] X.env = [(false, eval b X.env)] := by rfl) (hpl : (backTo pos (starEach [b] X.env)).any (·.1) = false := by rfl) (hc : X.calm = true := by rfl) :
    EJ X (.Call (.Name "min" p2) [a, b] [] pos) Γ Γ2 ⟨min m n⟩ := e_bi (call_min2 hc) hm (by decide +kernel) (a_2 ha hb he he2) (fun G H vs s r Q q => by
    match vs, r with
    | [v, w], ⟨r1, r2, _⟩ =>
      have e1 : v = V.int (m : Int) := r1
      have e2 : w = V.int (n : Int) := r2
      subst e1 e2
      refine ⟨(m : Int), (n : Int), rfl, q _ G H (Step.refl s) ?_⟩
      show V.int _ = V.int ((min m n : Nat) : Int)
      congr 1
      split <;> omega) hg (by decide) (by decide) (by rw [he, he2]) hpl
theorem e_maxI (hm : X.mg "max" = none) (ha : EJ X a Γ Γ1 ⟨i⟩) (hb : EJ X b Γ1 Γ2 ⟨j⟩) (hg : Gl X "max" := by rfl) (he : starEach [a, b] X.env = [(false, eval a X.env), (false, eval b X.env)] := by rfl) (he2 : starEach [b] X.env = [(false, eval b X.env)] := by rfl) (hpl : (backTo pos (starEach [b] X.env)).any (·.1) = false := by rfl) (hc : X.calm = true := by rfl) :
    EJ X (.Call (.Name "max" p2) [a, b] [] pos) Γ Γ2 ⟨max i j⟩ := e_bi (call_max2 hc) hm (by decide +kernel) (a_2 ha hb he he2) (fun G H vs s r Q q => by
    match vs, r with
    | [v, w], ⟨r1, r2, _⟩ =>
      have e1 : v = V.int i := r1
      have e2 : w = V.int j := r2
      subst e1 e2
      refine ⟨i, j, rfl, q _ G H (Step.refl s) ?_⟩
      show V.int _ = V.int (max i j)
      congr 1
      split <;> omega) hg (by decide) (by decide) (by rw [he, he2]) hpl
/-- int(a truth) -/
theorem e_intB (hm : X.mg "int" = none) (ha : EJ X a Γ Γ1 ⟨k⟩) (hg : Gl X "int" := by rfl) (he : starEach [a] X.env = [(false, eval a X.env)] := by rfl) : EJ X (.Call (.Name "int" p2) [a] [] pos) Γ Γ1 ⟨if k then (1 : Nat) else 0⟩ :=
  e_ty call_int1 hm (by decide +kernel) (a_1 ha he) (fun G H vs s r Q q => by
    match vs, r with
    | [v], ⟨r1, _⟩ =>
      have e1 : v = V.bl k := r1
      subst e1
      refine .inr ⟨k, rfl, q _ G H (Step.refl s) ?_⟩
      cases k <;> rfl) hg (by decide) (by decide) he rfl
end
/-! ### len -/
theorem e_lenC (hm : X.mg "len" = none) (ha : EJ X a Γ Γ1 d) {n : Nat} (h : ∀ G v, d.rep G v → ∃ p vs, v = .ref p ∧ (G p = some (.lst vs) ∨ G p = some (.tup vs)) ∧ vs.length = n) (hg : Gl X "len" := by rfl) (he : starEach [a] X.env = [(false, eval a X.env)] := by rfl) : EJ X (.Call (.Name "len" p2) [a] [] pos) Γ Γ1 ⟨n⟩ :=
  e_bi call_len_seq hm PySem.boot_len (a_1 ha he) (fun G H vs s r Q q => by
    match vs, r with
    | [v], ⟨r1, _⟩ =>
      obtain ⟨p, ws, rfl, h1, h2⟩ := h G v r1
      refine ⟨p, ws, rfl, ?_, q _ G H (Step.refl s) (by rw [h2]; rfl)⟩
      rcases h1 with h1 | h1
      · exact .inl (.inl (.inl (s _ _ h1)))
      · exact .inr (.inl (.inl (s _ _ h1)))) hg (by decide) (by decide) he rfl
theorem e_len {α : Type} [Enc α] {xs : List α} (hm : X.mg "len" = none) (ha : EJ X a Γ Γ1 ⟨xs⟩) (hg : Gl X "len" := by rfl) (he : starEach [a] X.env = [(false, eval a X.env)] := by rfl) : EJ X (.Call (.Name "len" p2) [a] [] pos) Γ Γ1 ⟨xs.length⟩ :=
  e_lenC hm ha (fun G v r => by
    obtain ⟨p, vs, e1, h1, h2⟩ := r
    exact ⟨p, vs, e1, .inl h1, pr_len h2⟩) hg he
theorem e_len2 {α β : Type} [Enc α] [Enc β] {y : α × β} (hm : X.mg "len" = none) (ha : EJ X a Γ Γ1 ⟨y⟩) (hg : Gl X "len" := by rfl) (he : starEach [a] X.env = [(false, eval a X.env)] := by rfl) : EJ X (.Call (.Name "len" p2) [a] [] pos) Γ Γ1 ⟨2⟩ :=
  e_lenC hm ha (fun G v r => by
    obtain ⟨p, u, w, e1, h1, _⟩ := r
    exact ⟨p, [u, w], e1, .inr h1, rfl⟩) hg he

/-! ### items -/
theorem e_ixG {r : R2} (ho : IxR X r) (ha : EJ X a Γ Γ1 d1) (hb : EJ X b Γ1 Γ2 d2) (h : R2T r d1 d2 d) (hs : PlainIx b := by intro _ _; rfl) : EJ X (.Subscript a b pos) Γ Γ2 d := .of (pe_ix ho pe_tE pe_tE hs) (ev_bin ha hb h)
theorem e_ix {α : Type} [Enc α] {xs : List α} {n : Nat} {y : α} (ha : EJ X a Γ Γ1 ⟨xs⟩) (hb : EJ X b Γ1 Γ2 ⟨n⟩) (hx : xs[n]? = some y) (hs : PlainIx b := by intro _ _; rfl) : EJ X (.Subscript a b pos) Γ Γ2 ⟨y⟩ :=
  e_ixG ix_list ha hb (fun G H v w s r1 r2 Q q => by
    obtain ⟨p, vs, rfl, h1, h2⟩ := r1
    have e2 : w = V.int (n : Int) := r2
    subst e2
    obtain ⟨u, hu, ru⟩ := pr_get h2 hx
    exact ⟨p, vs, (n : Int), u, rfl, rfl, .inl (.inl (s _ _ h1)), atI_nat hu, q u G H (Step.refl s) ru⟩) hs
theorem e_at0 {α β : Type} [Enc α] [Enc β] {y : α × β} {j : Nat} {q2 : Pos} (ha : EJ X a Γ Γ1 ⟨y⟩) : EJ X (.Subscript a (.Constant (.int 0) j q2) pos) Γ Γ1 ⟨y.1⟩ :=
  e_ixG ix_tup ha (e_i 0) (fun G H v w s r1 r2 Q q => by
    obtain ⟨p, u, z, rfl, h1, h2, h3⟩ := r1
    have e2 : w = V.int 0 := r2
    subst e2
    exact ⟨p, [u, z], 0, u, rfl, rfl, .inl (.inl (s _ _ h1)), rfl, q u G H (Step.refl s) h2⟩) (by intro _ _; rfl)
theorem e_at1 {α β : Type} [Enc α] [Enc β] {y : α × β} {j : Nat} {q2 : Pos} (ha : EJ X a Γ Γ1 ⟨y⟩) : EJ X (.Subscript a (.Constant (.int 1) j q2) pos) Γ Γ1 ⟨y.2⟩ :=
  e_ixG ix_tup ha (e_i 1) (fun G H v w s r1 r2 Q q => by
    obtain ⟨p, u, z, rfl, h1, h2, h3⟩ := r1
    have e2 : w = V.int 1 := r2
    subst e2
    exact ⟨p, [u, z], 1, z, rfl, rfl, .inl (.inl (s _ _ h1)), rfl, q z G H (Step.refl s) h3⟩) (by intro _ _; rfl)
theorem e_at30 {α β γ : Type} [Enc α] [Enc β] [Enc γ] {y : T3 α β γ} {j : Nat} {q2 : Pos} (ha : EJ X a Γ Γ1 ⟨y⟩) : EJ X (.Subscript a (.Constant (.int 0) j q2) pos) Γ Γ1 ⟨y.a⟩ :=
  e_ixG ix_tup ha (e_i 0) (fun G H v w s r1 r2 Q q => by
    obtain ⟨p, u, z, t, rfl, h1, h2, h3, h4⟩ := r1
    have e2 : w = V.int 0 := r2
    subst e2
    exact ⟨p, [u, z, t], 0, u, rfl, rfl, .inl (.inl (s _ _ h1)), rfl, q u G H (Step.refl s) h2⟩) (by intro _ _; rfl)
theorem e_at31 {α β γ : Type} [Enc α] [Enc β] [Enc γ] {y : T3 α β γ} {j : Nat} {q2 : Pos} (ha : EJ X a Γ Γ1 ⟨y⟩) : EJ X (.Subscript a (.Constant (.int 1) j q2) pos) Γ Γ1 ⟨y.b⟩ :=
  e_ixG ix_tup ha (e_i 1) (fun G H v w s r1 r2 Q q => by
    obtain ⟨p, u, z, t, rfl, h1, h2, h3, h4⟩ := r1
    have e2 : w = V.int 1 := r2
    subst e2
    exact ⟨p, [u, z, t], 1, z, rfl, rfl, .inl (.inl (s _ _ h1)), rfl, q z G H (Step.refl s) h3⟩) (by intro _ _; rfl)
end
end Ty

namespace Ty
open PySem PySem.Spec PyProof.Rows L2 Ty.Enc

theorem szl {n : Nat} (h : n ≤ 1000000) : n ≤ sizeLine := Nat.le_trans h (by decide)
theorem szlt {n : Nat} (h : n < 1000000) : n < sizeLine := Nat.lt_of_lt_of_le h (by decide)
section
variable {X : Cx} {e a b c o : Expr} {es : List Expr} {Γ Γ1 Γ2 Γ3 Γ4 Γ' : Env'} {d d1 d2 d3 d4 : Dyn} {te ta tb : TE} {p2 p3 apos pos pos' : Pos} {k : Bool} {r : R2} {D : TD} {x : Str} {ds : List Dyn} {α β : Type} [Enc α] [Enc β]
/-! ### things of one's own: a list -/
/-- what a name of a list of one's own reads -/
theorem own_l {B : Hp × Hp} {σ : Sg} {G H : Hp} {i : Nat} {ps : List Addr} {xs : List α} (f : Fits B Γ σ G H) (h : Γ[i]? = some (.own ps ⟨(⟨xs⟩ : Ol α)⟩)) :
    ∃ p vs, σ[i]? = some (some (.ref p)) ∧ ps = [p] ∧ G p = none ∧ H p = some (.lst vs) ∧ reps G vs xs := by
  obtain ⟨v, e1, nd, h1, p, vs, rfl, rfl, h2, h3⟩ := f.ok i _ h
  exact ⟨p, vs, e1, rfl, (h1 p (by simp)).1, h2, h3⟩
/-- the list stands as it is from now on -/
theorem e_fz (i : Nat) {ps : List Addr} {xs : List α} (h : Γ[i]? = some (.own ps ⟨(⟨xs⟩ : Ol α)⟩) := by rfl) (hN : X.N[i]? = some x := by rfl) (hv : Vis X.env.scope x := by first | exact Or.inl rfl | exact Or.inr (Or.inl rfl) | exact Or.inr (Or.inr rfl)) (hd : (x == ("__debug__" : Str)) = false := by decide)
    (hcd : (x == ("__classdict__" : Str)) = false := by decide) : EJ X (.Name x pos) Γ (Γ.set i (.fro ⟨xs⟩)) ⟨xs⟩ :=
  .of (pe_var hN hv hd hcd) fun B σ G H f Q q => by
    obtain ⟨p, vs, e1, rfl, g1, h1, h2⟩ := own_l f h
    refine ⟨_, e1, ?_⟩
    have hl : i < σ.length := (List.getElem?_eq_some_iff.mp e1).1
    have f1 := f.drop i (some (.ref p))
    have e2 : σ.set i (some (.ref p)) = σ := by
      apply List.ext_getElem?
      intro j
      by_cases hj : i = j
      · subst hj
        rw [List.getElem?_set_self hl, e1]
      · rw [List.getElem?_set_ne hj]
    rw [e2] at f1
    -- the heap with p frozen
    have sG : Same G (upd G p (.lst vs)) := same_new g1
    have sH : Same (upd G p (.lst vs)) H := fun a o e3 => by
      by_cases ha : a = p
      · subst ha
        rw [upd_same] at e3
        rw [h1]
        exact e3
      · rw [upd_ne ha] at e3
        exact f.sub a o e3
    have hb : B.2 p = none := f.ob i p (by
      unfold ads
      rw [h]
      exact List.mem_singleton.mpr rfl)
    have f2 : Fits B (Γ.set i .non) σ (upd G p (.lst vs)) H := by
      refine ⟨f1.len, sH, fun j s e3 => ?_, f1.apart, f1.bg.trans sG, f1.bh, fun a z1 z2 => ?_, f1.ob⟩
      · have z := f1.ok j s e3
        cases s with
        | non => trivial
        | fro d =>
          obtain ⟨v, e4, r4⟩ := z
          exact ⟨v, e4, r4.mono sG⟩
        | own qs y =>
          obtain ⟨v, e4, nd, h4, r4⟩ := z
          refine ⟨v, e4, nd, fun a ha => ?_, r4.cong sG fun a ha => rfl⟩
          have ap : a ≠ p := fun e5 => by
            subst e5
            by_cases hj : i = j
            · subst hj
              rw [List.getElem?_set_self (by rw [← f.len]; exact hl)] at e3
              cases e3
            · rw [List.getElem?_set_ne hj] at e3
              refine hj (f.apart i j a ?_ ?_)
              · unfold ads
                rw [h]
                exact List.mem_singleton.mpr rfl
              · unfold ads
                rw [e3]
                exact ha
          rw [upd_ne ap]
          exact h4 a ha
      · by_cases ha : a = p
        · subst ha
          exact .inl hb
        · rw [upd_ne ha] at z2
          exact f1.fresh a z1 z2
    have r1 : (⟨xs⟩ : Dyn).rep (upd G p (.lst vs)) (.ref p) := ⟨p, vs, rfl, upd_same, pr_mono (fun _ _ r => mono sG r) h2⟩
    have f3 := f2.put i r1
    rw [e2, List.set_set] at f3
    exact q _ _ H f3 sG r1
theorem e_lenO (i : Nat) {ps : List Addr} {xs : List α} (hm : X.mg "len" = none) (h : Γ[i]? = some (.own ps ⟨(⟨xs⟩ : Ol α)⟩) := by rfl) (hg : Gl X "len" := by rfl) (hN : X.N[i]? = some x := by rfl) (hv : Vis X.env.scope x := by first | exact Or.inl rfl | exact Or.inr (Or.inl rfl) | exact Or.inr (Or.inr rfl))
    (hd : (x == ("__debug__" : Str)) = false := by decide) (hcd : (x == ("__classdict__" : Str)) = false := by decide) (he : starEach [.Name x p2] X.env = [(false, eval (.Name x p2) X.env)] := by rfl) : EJ X (.Call (.Name "len" p3) [.Name x p2] [] pos) Γ Γ ⟨xs.length⟩ :=
  .of (pe_callB call_len_seq hg hm PySem.boot_len (pa_cons (pe_var hN hv hd hcd) pa_nil he) (by decide) (by decide) he rfl) fun B σ G H f Q q => by
    obtain ⟨p, vs, e1, rfl, g1, h1, h2⟩ := own_l f h
    refine ⟨_, e1, p, vs, rfl, .inl (.inl (.inl h1)), q _ G H f (Same.refl _) ?_⟩
    rw [pr_len h2]
    rfl
theorem e_ixO (i : Nat) {ps : List Addr} {xs : List α} {n : Nat} {y : α} (hb : EJ X b Γ Γ1 ⟨n⟩) (hx : xs[n]? = some y) (h : Γ[i]? = some (.own ps ⟨(⟨xs⟩ : Ol α)⟩) := by rfl) (h' : Γ1[i]? = some (.own ps ⟨(⟨xs⟩ : Ol α)⟩) := by rfl) (hs : PlainIx b := by intro _ _; rfl)
    (hN : X.N[i]? = some x := by rfl) (hv : Vis X.env.scope x := by first | exact Or.inl rfl | exact Or.inr (Or.inl rfl) | exact Or.inr (Or.inr rfl)) (hd : (x == ("__debug__" : Str)) = false := by decide) (hcd : (x == ("__classdict__" : Str)) = false := by decide) : EJ X (.Subscript (.Name x p2) b pos) Γ Γ1 ⟨y⟩ :=
  .of (pe_ix ix_list (pe_var hN hv hd hcd) pe_tE hs) fun B σ G H f Q q => by
    obtain ⟨p, vs, e1, rfl, g1, h1, h2⟩ := own_l f h
    refine ⟨_, e1, hb B σ G H f _ fun v G1 H1 f1 s1 r1 => ?_⟩
    obtain ⟨p', vs', e1', e2', g1', h1', h2'⟩ := own_l f1 h'
    have e3 : p = p' := by simpa using e2'
    subst e3
    have e4 : v = V.int (n : Int) := r1
    subst e4
    obtain ⟨u, hu, ru⟩ := pr_get h2' hx
    exact ⟨p, vs', (n : Int), u, rfl, rfl, .inl (.inl h1'), atI_nat hu, q u G1 H1 f1 s1 ru⟩
/-- the last item of a list of one's own, xs[-1] -/
theorem e_lastO (i : Nat) {ps : List Addr} {xs : List α} {y : α} {j : Nat} {q1 q2 : Pos} (hx : xs.getLast? = some y) (h : Γ[i]? = some (.own ps ⟨(⟨xs⟩ : Ol α)⟩) := by rfl)
    (hN : X.N[i]? = some x := by rfl) (hv : Vis X.env.scope x := by first | exact Or.inl rfl | exact Or.inr (Or.inl rfl) | exact Or.inr (Or.inr rfl)) (hd : (x == ("__debug__" : Str)) = false := by decide) (hcd : (x == ("__classdict__" : Str)) = false := by decide) : EJ X (.Subscript (.Name x p2) (.UnaryOp .USub (.Constant (.int 1) j q1) q2) pos) Γ Γ ⟨y⟩ :=
  .of (pe_ix ix_list (pe_var hN hv hd hcd) (pe_un un_neg pe_int) (by intro _ _; rfl)) fun B σ G H f Q q => by
    obtain ⟨p, vs, e1, rfl, g1, h1, h2⟩ := own_l f h
    obtain ⟨u, hu, ru⟩ := pr_get (i := xs.length - 1) h2 (by rw [← List.getLast?_eq_getElem?]; exact hx)
    refine ⟨_, e1, 1, rfl, p, vs, -1, u, rfl, rfl, .inl (.inl h1), ?_, q u G H f (Same.refl _) ru⟩
    have hl : vs.length = xs.length := pr_len h2
    have hp : xs.length - 1 < vs.length := (List.getElem?_eq_some_iff.mp hu).1
    have e4 : ixN vs.length (-1) = some (xs.length - 1) := by
      unfold ixN
      rw [if_neg (by omega), if_pos (by omega)]
      congr 1
      omega
    unfold atI
    rw [e4]
    exact hu
theorem mut1 {B : Hp × Hp} {σ : Sg} {G H : Hp} {i : Nat} {ps : List Addr} {p : Addr} {xs : List α} {ys : List β} {vs : List V} (f : Fits B Γ σ G H) (h : Γ[i]? = some (.own ps ⟨(⟨xs⟩ : Ol α)⟩)) (e : ps = [p]) (r : reps G vs ys) : Fits B (Γ.set i (.own ps ⟨(⟨ys⟩ : Ol β)⟩)) σ G (upd H p (.lst vs)) := by
  obtain ⟨p', _, e1, rfl, _, _, _⟩ := own_l f h
  have e3 : p' = p := by simpa using e
  subst e3
  exact f.mut h e1 (fun a h1 _ => upd_ne (by simpa using h1)) (by simp) (fun a h1 => ⟨.inl h1, by
    have e4 : a = p' := by simpa using h1
    subst e4
    exact ⟨_, upd_same, nt_lst⟩⟩) ⟨p', vs, rfl, rfl, upd_same, r⟩
/-- x.append(e) -/
theorem s_app (i : Nat) {ps : List Addr} {xs : List α} {y : α} (hb : EJ X b Γ Γ1 ⟨y⟩) (hl : xs.length < 1000000) (k : D.nx (Γ1.set i (.own ps ⟨(⟨xs ++ [y]⟩ : Ol α)⟩))) (h : Γ[i]? = some (.own ps ⟨(⟨xs⟩ : Ol α)⟩) := by rfl) (h' : Γ1[i]? = some (.own ps ⟨(⟨xs⟩ : Ol α)⟩) := by rfl)
    (hN : X.N[i]? = some x := by rfl) (hv : Vis X.env.scope x := by first | exact Or.inl rfl | exact Or.inr (Or.inl rfl) | exact Or.inr (Or.inr rfl)) (hd : (x == ("__debug__" : Str)) = false := by decide) (hcd : (x == ("__classdict__" : Str)) = false := by decide)
    (hbase : attributeBase (.Name x p2) "append" X.env (eval (.Name x p2) X.env) = eval (.Name x p2) X.env := by rfl)
    (hfew : ((backTo pos (starEach [b] X.env)).all (fun x => !x.1) && (backToKw pos (keywordEach [] X.env)).all (fun x => x.1.isSome) && decide ([b].length + ([] : List Keyword).length + (if ([] : List Keyword).isEmpty then 0 else 1) < 30)) = true := by rfl)
    (hline : (apos.endLine == pos.line) = true := by rfl) (hs : starEach [b] X.env = [(false, eval b X.env)] := by rfl) (hsw : swapsWith (.Call (.Attribute (.Name x p2) "append" apos) [b] [] pos) none pos'.line X.env = pure false := by rfl) :
    SJ X (.Expr (.Call (.Attribute (.Name x p2) "append" apos) [b] [] pos) pos') Γ D :=
  .of (ps_expr (pe_bm PySem.F.plainAttrs_list PySem.F.slot_list_append PySem.F.type_list_append mt_append (pe_var hN hv hd hcd) pa_tA hbase hfew hline hs rfl) hsw) fun B σ G H f E q1 q2 q3 => by
    obtain ⟨p, vs, e1, rfl, g1, h1, h2⟩ := own_l f h
    refine ⟨_, e1, .inl ⟨rfl, _, .inl (.inl h1)⟩, a_1 hb hs B σ G H f _ fun ws G1 H1 f1 s1 r1 => ?_⟩
    match ws, r1 with
    | [w], ⟨r1, _⟩ =>
      obtain ⟨p', vs', e1', e2', g1', h1', h2'⟩ := own_l f1 h'
      have e3 : p = p' := by simpa using e2'
      subst e3
      refine ⟨p, vs', w, rfl, rfl, h1', by rw [pr_len h2']; exact szlt hl, ?_⟩
      exact q1 σ G1 _ _ (mut1 f1 h' rfl (pr_app h2' (.cons r1 .nil))) k
/-- x.extend(e) -/
theorem s_ext (i : Nat) {ps : List Addr} {xs ys : List α} (hb : EJ X b Γ Γ1 ⟨ys⟩) (hl : xs.length + ys.length ≤ 1000000) (k : D.nx (Γ1.set i (.own ps ⟨(⟨xs ++ ys⟩ : Ol α)⟩))) (h : Γ[i]? = some (.own ps ⟨(⟨xs⟩ : Ol α)⟩) := by rfl) (h' : Γ1[i]? = some (.own ps ⟨(⟨xs⟩ : Ol α)⟩) := by rfl)
    (hN : X.N[i]? = some x := by rfl) (hv : Vis X.env.scope x := by first | exact Or.inl rfl | exact Or.inr (Or.inl rfl) | exact Or.inr (Or.inr rfl)) (hd : (x == ("__debug__" : Str)) = false := by decide) (hcd : (x == ("__classdict__" : Str)) = false := by decide)
    (hbase : attributeBase (.Name x p2) "extend" X.env (eval (.Name x p2) X.env) = eval (.Name x p2) X.env := by rfl)
    (hfew : ((backTo pos (starEach [b] X.env)).all (fun x => !x.1) && (backToKw pos (keywordEach [] X.env)).all (fun x => x.1.isSome) && decide ([b].length + ([] : List Keyword).length + (if ([] : List Keyword).isEmpty then 0 else 1) < 30)) = true := by rfl)
    (hline : (apos.endLine == pos.line) = true := by rfl) (hs : starEach [b] X.env = [(false, eval b X.env)] := by rfl) (hsw : swapsWith (.Call (.Attribute (.Name x p2) "extend" apos) [b] [] pos) none pos'.line X.env = pure false := by rfl) :
    SJ X (.Expr (.Call (.Attribute (.Name x p2) "extend" apos) [b] [] pos) pos') Γ D :=
  .of (ps_expr (pe_bm PySem.F.plainAttrs_list PySem.F.slot_list_extend PySem.F.type_list_extend mt_extend (pe_var hN hv hd hcd) pa_tA hbase hfew hline hs rfl) hsw) fun B σ G H f E q1 q2 q3 => by
    obtain ⟨p, vs, e1, rfl, g1, h1, h2⟩ := own_l f h
    refine ⟨_, e1, .inl ⟨rfl, _, .inl (.inl h1)⟩, a_1 hb hs B σ G H f _ fun ws G1 H1 f1 s1 r1 => ?_⟩
    match ws, r1 with
    | [w], ⟨r1, _⟩ =>
      obtain ⟨p', vs', e1', e2', g1', h1', h2'⟩ := own_l f1 h'
      have e3 : p = p' := by simpa using e2'
      subst e3
      obtain ⟨q, us, e4, h4, h5⟩ := r1
      subst e4
      refine ⟨p, q, vs', us, rfl, rfl, h1', f1.sub _ _ h4, by rw [pr_len h2', pr_len h5]; exact szl hl, ?_⟩
      exact q1 σ G1 _ _ (mut1 f1 h' rfl (pr_app h2' h5)) k
/-- x[b] = e -/
theorem s_setO (i : Nat) {ps : List Addr} {xs : List α} {n : Nat} {y : α} (he : EJ X e Γ Γ1 ⟨y⟩) (hb : EJ X b Γ1 Γ2 ⟨n⟩) (hn : n < xs.length) (k : D.nx (Γ2.set i (.own ps ⟨(⟨xs.set n y⟩ : Ol α)⟩))) (h : Γ1[i]? = some (.own ps ⟨(⟨xs⟩ : Ol α)⟩) := by rfl) (h' : Γ2[i]? = some (.own ps ⟨(⟨xs⟩ : Ol α)⟩) := by rfl)
    (hN : X.N[i]? = some x := by rfl) (hv : Vis X.env.scope x := by first | exact Or.inl rfl | exact Or.inr (Or.inl rfl) | exact Or.inr (Or.inr rfl)) (hd : (x == ("__debug__" : Str)) = false := by decide) (hcd : (x == ("__classdict__" : Str)) = false := by decide)
    (ha : ∀ v, assign (.Subscript (.Name x p2) b p3) X.env v = (do
      let ov ← holding [v] (eval (.Name x p2) X.env)
      let iv ← holding [v, ov] (eval b X.env)
      standAt p3
      holding [v, ov, iv] (setItem ov iv v)
      release [v, ov, iv] []) := by intro _; rfl)
    (hs : swapsWithSole [.Subscript (.Name x p2) b p3] e pos.line X.env = pure false := by rfl) (hw : swappedStores [.Subscript (.Name x p2) b p3] e X.env = pure none := by rfl)
    (h1 : (assignEach [.Subscript (.Name x p2) b p3] X.env).map (·.2) = [assign (.Subscript (.Name x p2) b p3) X.env] := by rfl) : SJ X (.Assign [.Subscript (.Name x p2) b p3] e pos) Γ D :=
  .of (ps_asg pe_tE (pg_sub (pe_var hN hv hd hcd) pe_tE set_list ha) hs hw h1) fun B σ G H f E q1 q2 q3 => he B σ G H f _ fun v G1 H1 f1 s1 r1 => by
    obtain ⟨p, vs, e1, rfl, g1, h1, h2⟩ := own_l f1 h
    refine ⟨_, e1, hb B σ G1 H1 f1 _ fun w G2 H2 f2 s2 r2 => ?_⟩
    obtain ⟨p', vs', e1', e2', g1', h1', h2'⟩ := own_l f2 h'
    have e3 : p = p' := by simpa using e2'
    subst e3
    have e4 : w = V.int (n : Int) := r2
    subst e4
    have hl := pr_len h2'
    refine ⟨p, vs', (n : Int), n, rfl, rfl, h1', ?_, ?_⟩
    · unfold ixN
      rw [if_pos (by omega), if_pos (by omega), Int.toNat_natCast]
    · exact q1 σ G2 _ _ (mut1 f2 h' rfl (pr_set (mono s2 r1) n h2')) k
/-- x.pop(b) -/
theorem e_popO (i : Nat) {ps : List Addr} {xs : List α} {n : Nat} {y : α} (hb : EJ X b Γ Γ1 ⟨n⟩) (hx : xs[n]? = some y) (hn : n < 1000000) (h : Γ[i]? = some (.own ps ⟨(⟨xs⟩ : Ol α)⟩) := by rfl) (h' : Γ1[i]? = some (.own ps ⟨(⟨xs⟩ : Ol α)⟩) := by rfl)
    (hN : X.N[i]? = some x := by rfl) (hv : Vis X.env.scope x := by first | exact Or.inl rfl | exact Or.inr (Or.inl rfl) | exact Or.inr (Or.inr rfl)) (hd : (x == ("__debug__" : Str)) = false := by decide) (hcd : (x == ("__classdict__" : Str)) = false := by decide)
    (hbase : attributeBase (.Name x p2) "pop" X.env (eval (.Name x p2) X.env) = eval (.Name x p2) X.env := by rfl)
    (hfew : ((backTo pos (starEach [b] X.env)).all (fun x => !x.1) && (backToKw pos (keywordEach [] X.env)).all (fun x => x.1.isSome) && decide ([b].length + ([] : List Keyword).length + (if ([] : List Keyword).isEmpty then 0 else 1) < 30)) = true := by rfl)
    (hline : (apos.endLine == pos.line) = true := by rfl) (hs : starEach [b] X.env = [(false, eval b X.env)] := by rfl) :
    EJ X (.Call (.Attribute (.Name x p2) "pop" apos) [b] [] pos) Γ (Γ1.set i (.own ps ⟨(⟨xs.eraseIdx n⟩ : Ol α)⟩)) ⟨y⟩ :=
  .of (pe_bm PySem.F.plainAttrs_list PySem.F.slot_list_pop PySem.F.type_list_pop mt_popAt (pe_var hN hv hd hcd) pa_tA hbase hfew hline hs rfl) fun B σ G H f Q q => by
    obtain ⟨p, vs, e1, rfl, g1, h1, h2⟩ := own_l f h
    refine ⟨_, e1, .inl ⟨rfl, _, .inl (.inl h1)⟩, a_1 hb hs B σ G H f _ fun ws G1 H1 f1 s1 r1 => ?_⟩
    match ws, r1 with
    | [w], ⟨r1, _⟩ =>
      obtain ⟨p', vs', e1', e2', g1', h1', h2'⟩ := own_l f1 h'
      have e3 : p = p' := by simpa using e2'
      subst e3
      have e4 : w = V.int (n : Int) := r1
      subst e4
      obtain ⟨u, hu, ru⟩ := pr_get h2' hx
      have hl : n < vs'.length := (List.getElem?_eq_some_iff.mp hu).1
      refine ⟨p, vs', (n : Int), n, u, rfl, rfl, h1', by omega, by omega, ?_, hu, ?_⟩
      · rw [seqIndex_of (by omega) (by omega), Int.toNat_natCast]
      · exact q u G1 _ (mut1 f1 h' rfl (pr_erase n h2')) s1 ru

/-! ### new lists -/
theorem one_new {H : Hp} {p : Addr} {o : HO} (h : H p = none) (n : Nt o := by exact nt_lst) : (∀ q ∈ [p], H q = none ∧ ∃ ob, upd H p o q = some ob ∧ Nt ob) := fun q hq => by
  have e1 : q = p := by simpa using hq
  subst e1
  exact ⟨h, _, upd_same, n⟩
theorem ev_binN {y : ODyn} (ha : EvE ta Γ Γ1 d1) (hb : EvE tb Γ1 Γ2 d2) (hr : R2N r d1 d2 y) : EvN (tOp r ta tb) Γ Γ2 y := fun B σ G H f Q q =>
  ha B σ G H f _ fun v G1 H1 f1 s1 r1 => hb B σ G1 H1 f1 _ fun w G2 H2 f2 s2 r2 => hr G2 H2 v w f2.sub (r1.mono s2) r2 Q fun u ps H3 nd n sm r3 => q u ps G2 H2 H3 f2 (s1.trans s2) nd n sm r3
theorem n_cat {xs ys : List α} (ha : EJ X a Γ Γ1 ⟨xs⟩) (hb : EJ X b Γ1 Γ2 ⟨ys⟩) (hl : xs.length + ys.length ≤ 1000000) : NJ X (.BinOp a .Add b pos) Γ Γ2 ⟨(⟨xs ++ ys⟩ : Ol α)⟩ :=
  .of (pe_op op_cat pe_tE pe_tE) (ev_binN ha hb fun G H v w s r1 r2 Q q => by
    obtain ⟨p, vs, rfl, h1, h2⟩ := r1
    obtain ⟨p', vs', rfl, h1', h2'⟩ := r2
    refine ⟨p, p', vs, vs', rfl, rfl, s _ _ h1, s _ _ h1', by rw [pr_len h2, pr_len h2']; exact szl hl, fun l hn => ?_⟩
    exact q _ [l] _ (by simp) (one_new hn) (same_new hn) ⟨l, _, rfl, rfl, upd_same, pr_app h2 h2'⟩)
/-- x + b, x a list of one's own -/
theorem n_catO (i : Nat) {ps : List Addr} {xs ys : List α} (hb : EJ X b Γ Γ1 ⟨ys⟩) (hl : xs.length + ys.length ≤ 1000000) (h : Γ[i]? = some (.own ps ⟨(⟨xs⟩ : Ol α)⟩) := by rfl) (h' : Γ1[i]? = some (.own ps ⟨(⟨xs⟩ : Ol α)⟩) := by rfl)
    (hN : X.N[i]? = some x := by rfl) (hv : Vis X.env.scope x := by first | exact Or.inl rfl | exact Or.inr (Or.inl rfl) | exact Or.inr (Or.inr rfl)) (hd : (x == ("__debug__" : Str)) = false := by decide) (hcd : (x == ("__classdict__" : Str)) = false := by decide) : NJ X (.BinOp (.Name x p2) .Add b pos) Γ Γ1 ⟨(⟨xs ++ ys⟩ : Ol α)⟩ :=
  .of (pe_op op_cat (pe_var hN hv hd hcd) pe_tE) fun B σ G H f Q q => by
    obtain ⟨p, vs, e1, rfl, g1, h1, h2⟩ := own_l f h
    refine ⟨_, e1, hb B σ G H f _ fun w G1 H1 f1 s1 r1 => ?_⟩
    obtain ⟨p', vs', e1', e2', g1', h1', h2'⟩ := own_l f1 h'
    have e3 : p = p' := by simpa using e2'
    subst e3
    obtain ⟨q', us, rfl, h4, h5⟩ := r1
    refine ⟨p, q', vs', us, rfl, rfl, h1', f1.sub _ _ h4, by rw [pr_len h2', pr_len h5]; exact szl hl, fun l hn => ?_⟩
    exact q _ [l] G1 H1 _ f1 s1 (by simp) (one_new hn) (same_new hn) ⟨l, _, rfl, rfl, upd_same, pr_app h2' h5⟩
/-- [y] * n -/
theorem n_rep {y : α} {n : Nat} (ha : EJ X a Γ Γ1 ⟨[y]⟩) (hb : EJ X b Γ1 Γ2 ⟨n⟩) (hn : n ≤ 1000000) : NJ X (.BinOp a .Mult b pos) Γ Γ2 ⟨(⟨List.replicate n y⟩ : Ol α)⟩ :=
  .of (pe_op op_rep pe_tE pe_tE) (ev_binN ha hb fun G H v w s r1 r2 Q q => by
    obtain ⟨p, vs, rfl, h1, h2⟩ := r1
    have e4 : w = V.int (n : Int) := r2
    subst e4
    match vs, h2 with
    | [u], .cons ru .nil =>
      refine ⟨p, (n : Int), [u], rfl, rfl, s _ _ h1, by omega, by omega, by rw [Int.toNat_natCast, List.length_singleton, Nat.one_mul]; exact szl hn, fun l hl => ?_⟩
      refine q _ [l] _ (by simp) (one_new hl) (same_new hl) ⟨l, _, rfl, rfl, upd_same, ?_⟩
      rw [Int.toNat_natCast]
      have e5 : ∀ m : Nat, (List.replicate m [u]).flatten = List.replicate m u := fun m => by
        induction m with
        | zero => rfl
        | succ m ih => rw [List.replicate_succ, List.flatten_cons, ih, List.replicate_succ] <;> rfl
      rw [e5]
      exact pr_rep ru n)
/-- xs[:n] -/
theorem cut_to (vs : List V) (n : Nat) : cutV vs none (some (n : Int)) = vs.take n := by
  unfold cutV
  rw [HT.sIx_none, HT.sIx_nat, Nat.sub_zero, List.drop_zero]
  apply List.ext_getElem?
  intro i
  rw [List.getElem?_take, List.getElem?_take]
  by_cases h : i < vs.length
  · by_cases h2 : i < n
    · rw [if_pos (by omega), if_pos h2]
    · rw [if_neg (by omega), if_neg h2]
  · rw [List.getElem?_eq_none (by omega)]
    split <;> split <;> rfl
theorem cut_from (vs : List V) (n : Nat) : cutV vs (some (n : Int)) none = vs.drop n := by
  unfold cutV
  rw [HT.sIx_none, HT.sIx_nat]
  by_cases h : n ≤ vs.length
  · rw [Nat.min_eq_left h]
    exact List.take_of_length_le (by rw [List.length_drop]; omega)
  · rw [Nat.min_eq_right (by omega), List.drop_of_length_le (Nat.le_refl _), List.drop_of_length_le (by omega)] <;> simp
theorem n_take {xs : List α} {n : Nat} (ha : EJ X a Γ Γ1 ⟨xs⟩) (hb : EJ X b Γ1 Γ2 ⟨n⟩) : NJ X (.Subscript a (.Slice none (some b) none p2) pos) Γ Γ2 ⟨(⟨xs.take n⟩ : Ol α)⟩ :=
  .of (pe_slice sl_list pe_tE po_none (po_some pe_tE)) fun B σ G H f Q q => ha B σ G H f _ fun v G1 H1 f1 s1 r1 => hb B σ G1 H1 f1 _ fun w G2 H2 f2 s2 r2 => by
    obtain ⟨p, vs, rfl, h1, h2⟩ := r1.mono s2
    have e4 : w = V.int (n : Int) := r2
    subst e4
    refine ⟨(n : Int), rfl, p, vs, rfl, .inl (.inl (f2.sub _ _ h1)), fun l hl => ?_⟩
    rw [cut_to]
    exact q _ [l] G2 H2 _ f2 (s1.trans s2) (by simp) (one_new hl) (same_new hl) ⟨l, _, rfl, rfl, upd_same, pr_take n h2⟩
theorem n_drop {xs : List α} {n : Nat} (ha : EJ X a Γ Γ1 ⟨xs⟩) (hb : EJ X b Γ1 Γ2 ⟨n⟩) : NJ X (.Subscript a (.Slice (some b) none none p2) pos) Γ Γ2 ⟨(⟨xs.drop n⟩ : Ol α)⟩ :=
  .of (pe_slice sl_list pe_tE (po_some pe_tE) po_none) fun B σ G H f Q q => ha B σ G H f _ fun v G1 H1 f1 s1 r1 => hb B σ G1 H1 f1 _ fun w G2 H2 f2 s2 r2 => by
    obtain ⟨p, vs, rfl, h1, h2⟩ := r1.mono s2
    have e4 : w = V.int (n : Int) := r2
    subst e4
    refine ⟨(n : Int), rfl, p, vs, rfl, .inl (.inl (f2.sub _ _ h1)), fun l hl => ?_⟩
    rw [cut_from]
    exact q _ [l] G2 H2 _ f2 (s1.trans s2) (by simp) (one_new hl) (same_new hl) ⟨l, _, rfl, rfl, upd_same, pr_drop n h2⟩
theorem n_rev {xs : List α} {j : Nat} {q1 q2 q3 : Pos} (ha : EJ X a Γ Γ1 ⟨xs⟩) : NJ X (.Subscript a (.Slice none none (some (.UnaryOp .USub (.Constant (.int 1) j q1) q2)) q3) pos) Γ Γ1 ⟨(⟨xs.reverse⟩ : Ol α)⟩ :=
  .of (pe_revL pe_tE) fun B σ G H f Q q => ha B σ G H f _ fun v G1 H1 f1 s1 r1 => by
    obtain ⟨p, vs, rfl, h1, h2⟩ := r1
    exact ⟨p, vs, rfl, .inl (.inl (f1.sub _ _ h1)), fun l hl => q _ [l] G1 H1 _ f1 s1 (by simp) (one_new hl) (same_new hl) ⟨l, _, rfl, rfl, upd_same, pr_rev h2⟩⟩
/-- list(xs) -/
theorem n_listOf {xs : List α} (hm : X.mg "list" = none) (ha : EJ X a Γ Γ1 ⟨xs⟩) (hg : Gl X "list" := by rfl) (he : starEach [a] X.env = [(false, eval a X.env)] := by rfl) : NJ X (.Call (.Name "list" p2) [a] [] pos) Γ Γ1 ⟨(⟨xs⟩ : Ol α)⟩ :=
  n_ty call_list_of hm (by decide +kernel) (a_1 ha he) (fun G H vs s r Q q => by
    match vs, r with
    | [v], ⟨r1, _⟩ =>
      obtain ⟨p, ws, rfl, h1, h2⟩ := r1
      exact ⟨p, ws, rfl, .inl (.inl (.inl (s _ _ h1))), fun l hl => q _ [l] _ (by simp) (one_new hl) (same_new hl) ⟨l, _, rfl, rfl, upd_same, h2⟩⟩) hg (by decide) (by decide) he rfl
/-- tuple(xs) -/
theorem e_tupleOf {xs : List α} (hm : X.mg "tuple" = none) (ha : EJ X a Γ Γ1 ⟨xs⟩) (hg : Gl X "tuple" := by rfl) (he : starEach [a] X.env = [(false, eval a X.env)] := by rfl) : EJ X (.Call (.Name "tuple" p2) [a] [] pos) Γ Γ1 ⟨(⟨xs⟩ : Tp α)⟩ :=
  e_ty call_tuple_of hm (by decide +kernel) (a_1 ha he) (fun G H vs s r Q q => by
    match vs, r with
    | [v], ⟨r1, _⟩ =>
      obtain ⟨p, ws, rfl, h1, h2⟩ := r1
      refine ⟨p, ws, rfl, .inl ⟨.inl (.inl (s _ _ h1)), fun l hl => ?_⟩⟩
      have st := Step.new (o := .tup ws) s hl
      exact q _ _ _ st ⟨l, ws, rfl, upd_same, pr_mono (fun _ _ r => mono st.g r) h2⟩) hg (by decide) (by decide) he rfl
/-- list(range(n)) -/
theorem n_listRg {n : Nat} {q1 : Pos} (hm : X.mg "list" = none) (hm2 : X.mg "range" = none) (ha : EJ X a Γ Γ1 ⟨n⟩) (hn : n ≤ 1000000) (hg : Gl X "list" := by rfl) (hg2 : Gl X "range" := by rfl) (hc : X.calm = true := by rfl) (na1 : starEach [a] X.env = (false, eval a X.env) :: starEach [] X.env := by rfl)
    (na : starEach [.Call (.Name "range" q1) [a] [] p3] X.env = (false, eval (.Call (.Name "range" q1) [a] [] p3) X.env) :: starEach [] X.env := by rfl) : NJ X (.Call (.Name "list" p2) [.Call (.Name "range" q1) [a] [] p3] [] pos) Γ Γ1 ⟨(⟨List.range n⟩ : Ol Nat)⟩ :=
  .of (pe_listRg hc hg hm (prg_1 hg2 hm2 pe_tE na1) na) fun B σ G H f Q q => ha B σ G H f _ fun v G1 H1 f1 s1 r1 => by
    have e4 : v = V.int (n : Int) := r1
    subst e4
    refine ⟨(n : Int), rfl, ⟨by omega, by omega, by omega, by omega, by omega⟩, fun l hl => q _ [l] G1 H1 _ f1 s1 (by simp) (one_new hl) (same_new hl) ⟨l, _, rfl, rfl, upd_same, ?_⟩⟩
    unfold rgV
    rw [Int.sub_zero, Int.toNat_natCast]
    refine pr_of (by rw [List.length_map]) fun i u y hu hy => ?_
    rw [List.getElem?_map, hy] at hu
    have e5 := Option.some.inj hu
    rw [← e5]
    show V.int _ = V.int _
    congr 1
    omega
end
end Ty

namespace Ty
open PySem PySem.Spec PyProof.Rows L2 Ty.Enc
/-! ### dict(l), l a list of pairs whose first things are tuples; d.setdefault(k, x) with such keys -/
section
variable {X : Cx}
/-- the pairs at ps: key, the key's tuple, value -/
abbrev PairsT (K : PySem.W.Frag) (H : Hp) (ps : List Addr) (es : List (List Key × Addr × V)) : Prop := Paired (fun p (e : List Key × Addr × V) => SqT K H p [.ref e.2.1, e.2.2] ∧ H e.2.1 = some (.tup (e.1.map kV))) ps es
theorem pairsT_of {pins : List (Addr × Obj)} {σ : L2.St} {H : Hp} {s : Shared} (I : Inv X pins σ H s) : ∀ {ps : List Addr} {es : List (List Key × Addr × V)}, PairsT X.K H ps es →
    ∃ us : List Value, Vals (es.map (·.2.2)) us ∧ us.length = ps.length ∧ es.length = ps.length ∧
      (∀ (j : Nat) (e : List Key × Addr × V) (u : Value), es[j]? = some e → us[j]? = some u → ∃ p, ps[j]? = some p ∧ IsTup s.heap p #[.ref e.2.1, u])
  | _, _, .nil => ⟨[], .nil, rfl, rfl, fun j e u h => by simp at h⟩
  | _, _, .cons (a := p) (b := e) h t => by
    obtain ⟨us, r, l1, l2, hp⟩ := pairsT_of I t
    obtain ⟨its, rv, ht, _⟩ := I.tuple h.1
    obtain ⟨u, y, ei, ru, ry⟩ := vals2 rv
    subst ei
    cases ru
    refine ⟨y :: us, .cons ry r, by rw [List.length_cons, List.length_cons, l1], by rw [List.length_cons, List.length_cons, l2], fun j e' u' h1 h2 => ?_⟩
    cases j with
    | zero =>
      have z1 := Option.some.inj h1
      have z2 := Option.some.inj h2
      subst z1 z2
      exact ⟨p, rfl, ht⟩
    | succ j => exact hp j e' u' (by simpa using h1) (by simpa using h2)
theorem isTuple_of {h : Heap} {p : Addr} {xs : Array Value} (t : IsTup h p xs) : h.IsTuple p xs := t
theorem call_dictT (hcalm : X.calm = true) (hu : X.A.units + 2 < cLine) : CallR X (.type "dict") (fun xs H Q => ∃ (a : Addr) (ps : List Addr) (es : List (List Key × Addr × V)), xs = [.ref a] ∧ SqL X.K H a (ps.map V.ref) ∧ PairsT X.K H ps es ∧ (es.map (·.1)).Nodup ∧
    ∀ p, H p = none → Q (.ref p) (upd H p (.dT (es.map fun e => (e.1, e.2.2))))) := by
  intro pins s σ H xs us Q I r q
  obtain ⟨a, ps, es, ex, hq, hp, hnd, q⟩ := q
  subst ex
  obtain ⟨u, eu, rx⟩ := vals1 r
  subst eu
  cases rx
  obtain ⟨its, rv, pl, hz⟩ := I.list hq
  have ei := refs_at rv
  subst ei
  rw [List.length_map] at hz
  obtain ⟨vs, rvs, l1, l2, hpr⟩ := pairsT_of I hp
  obtain ⟨o, n, ho, hc, hd, hdat⟩ := pl
  -- the pairs as the library wants them
  have lv : vs.length = es.length := by rw [l1, l2]
  let prs : List (Value × Value) := (es.zip vs).map fun x => (Value.ref x.1.2.1, x.2)
  let hs : List (List Key × Addr × Value) := (es.zip vs).map fun x => (x.1.1, x.1.2.1, x.2)
  have lz : (es.zip vs).length = ps.length := by rw [List.length_zip]; omega
  have lp : prs.length = ps.length := by show ((es.zip vs).map _).length = _; rw [List.length_map, lz]
  have lh : hs.length = ps.length := by show ((es.zip vs).map _).length = _; rw [List.length_map, lz]
  have zat : ∀ (j : Nat) (x : (List Key × Addr × V) × Value), (es.zip vs)[j]? = some x → es[j]? = some x.1 ∧ vs[j]? = some x.2 := fun j x h => by
    rw [List.getElem?_zip_eq_some] at h
    exact h
  have kis : ∀ e ∈ es, (tupleKind (mixKind X.prog X.w)).is s.heap e.1 e.2.1 := fun e he => by
    obtain ⟨j, hj⟩ := List.mem_iff_getElem?.mp he
    obtain ⟨p, _, h2⟩ := pr_get hp hj
    exact key_of I.hok h2.2
  have st : KeysStay (tupleKind (mixKind X.prog X.w)) s.heap s.heap.objs.size [] hs := fun h' hk x hx => by
    obtain ⟨y, hy, e⟩ := List.mem_map.mp hx
    subst e
    obtain ⟨ob, its2, n2, h1, h2, h3, h4⟩ := kis y.1 (List.of_mem_zip hy).1
    exact ⟨ob, its2, n2, hk _ _ (Nat.ne_of_lt (Heap.lt_size h1)) (by simp) h1, h2, h3, h4⟩
  refine PySem.call_dict_pairsH (knd := tupleKind (mixKind X.prog X.w)) (ps := hs) (PairArg.list a _ (fun j => ps.getD j 0) prs) (I.ok.hd hcalm) (show X.A.units + 1 + 1 < cLine from hu) ⟨⟨o, n, ho, hc, hd, hdat⟩, by simp [lp], fun j k v hj => ?_⟩ ⟨by rw [lh, lp], fun j k v hj => ?_⟩ st (by rw [lp]; exact hz) fun h' tk hd' hk => ?_
  · have hj' : ((es.zip vs).map fun x => (Value.ref x.1.2.1, x.2))[j]? = some (k, v) := hj
    rw [List.getElem?_map] at hj'
    obtain ⟨x, hx, e⟩ := Option.map_eq_some_iff.mp hj'
    cases e
    obtain ⟨z1, z2⟩ := zat j x hx
    obtain ⟨p, h1, h2⟩ := hpr j x.1 x.2 z1 z2
    have e1 : ps.getD j 0 = p := by rw [List.getD_eq_getElem?_getD, h1] <;> rfl
    refine ⟨by simp [h1], .inl ?_⟩
    show s.heap.IsTuple (ps.getD j 0) #[Value.ref x.1.2.1, x.2]
    rw [e1]
    exact isTuple_of h2
  · have hj' : ((es.zip vs).map fun x => (Value.ref x.1.2.1, x.2))[j]? = some (k, v) := hj
    rw [List.getElem?_map] at hj'
    obtain ⟨x, hx, e⟩ := Option.map_eq_some_iff.mp hj'
    cases e
    refine ⟨x.1.1, x.1.2.1, ?_, rfl⟩
    show ((es.zip vs).map fun x => (x.1.1, x.1.2.1, x.2))[j]? = _
    rw [List.getElem?_map, hx]
    rfl
  · have hm : (s.heap.objs.size == sysModules) = false := beq_eq_false_iff_ne.mpr (Nat.ne_of_gt I.big)
    have en : (hs.map (·.1)) = es.map (·.1) := by
      show ((es.zip vs).map fun x => (x.1.1, x.1.2.1, x.2)).map (·.1) = _
      rw [List.map_map]
      apply List.ext_getElem?
      intro j
      rw [List.getElem?_map, List.getElem?_map]
      cases e : (es.zip vs)[j]? with
      | none =>
        have z : es[j]? = none := by
          rw [List.getElem?_eq_none_iff] at e ⊢
          rw [List.length_zip] at e
          omega
        rw [z]
        rfl
      | some x =>
        rw [(zat j x e).1]
        rfl
    rw [storedAllH_nil_of_nodup hs (by rw [en]; exact hnd)] at hd'
    obtain ⟨ob, dts, ep, g1, g2, g3, g4, _, g5⟩ := hd'
    have fr : H s.heap.objs.size = none := I.hok.fresh (Nat.le_refl _)
    refine ⟨.ref s.heap.objs.size, upd H s.heap.objs.size (.dT (es.map fun e => (e.1, e.2.2))), I.laid (t' := tk) (fun b o e => hk b o (by simp) e) (Nat.le_refl _) ?_, rfl, q _ fr⟩
    refine ⟨by rw [List.length_map, l2]; exact hz, hm, hs, ?_, ob, dts, ep, g1, g2, g3, g4, g5⟩
    refine pr_of (by rw [List.length_map, lh, l2]) fun j x y hx hy => ?_
    have hy' : ((es.zip vs).map fun x => (x.1.1, x.1.2.1, x.2))[j]? = some y := hy
    rw [List.getElem?_map] at hx hy'
    obtain ⟨z, hz2, e⟩ := Option.map_eq_some_iff.mp hy'
    subst e
    obtain ⟨z1, z2⟩ := zat j z hz2
    rw [z1] at hx
    have e3 := Option.some.inj hx
    subst e3
    obtain ⟨p, _, h2⟩ := pr_get hp z1
    refine ⟨rfl, ?_, ?_⟩
    · show upd H _ _ z.1.2.1 = _
      rw [upd_ne (ne_of_none h2.2 fr)]
      exact h2.2
    · obtain ⟨u, hu1, hu2⟩ := rvs.get (i := j) (x := z.1.2.2) (by rw [List.getElem?_map, z1] <;> rfl)
      rw [z2] at hu1
      have e4 := Option.some.inj hu1
      rw [e4]
      exact hu2
/-- d.setdefault(k, x), k a tuple -/
def rSetdT : V → List V → Hp → VK → Prop := fun x xs H Q => ∃ (a b : Addr) (kvs : List (List Key × V)) (k : List Key) (z : V), x = .ref a ∧ xs = [.ref b, z] ∧ H a = some (.dT kvs) ∧ H b = some (.tup (k.map kV)) ∧ kvs.length < sizeLine ∧
  (∀ v, valV kvs k = some v → Q v H) ∧ (valV kvs k = none → Q z (upd H a (.dT (kvs ++ [(k, z)]))))
theorem putK_none {kvs : List (List Key × V)} {k : List Key} {v : V} (h : valV kvs k = none) : putK kvs k v = kvs ++ [(k, v)] := by
  unfold putK
  rw [valV_any, h]
  exact if_neg (by decide)
theorem mt_setdT (hu : X.A.units + 1 < cLine) : MtR X "dict.setdefault" rSetdT := by
  intro pins s σ H x xs v us Q I rx rxs h
  obtain ⟨a, b, kvs, k, z, rfl, rfl, ha, hb, hl, q1, q2⟩ := h
  cases rx
  obtain ⟨u1, u2, rfl, r1, r2⟩ := vals2 rxs
  cases r1
  obtain ⟨hz, hd, es, rel, dd⟩ := dt_of I.hok ha
  have hze : es.length ≤ sizeLine := by rw [← Paired.length rel]; exact hz
  refine call_setdefault_heap (hsz := hze) (tupleKind_room_in1 hu) (key_of I.hok hb) hd dd (fun p hp => ?_) fun hn h' dd' hs => ?_
  · have e : ∃ w', valV kvs k = some w' ∧ RelV w' p.2 := by
      have z1 := rel.val k
      rw [hp] at z1
      cases e1 : valV kvs k with
      | none =>
        rw [e1] at z1
        exact z1.elim
      | some w' =>
        rw [e1] at z1
        exact ⟨w', rfl, z1⟩
    obtain ⟨w', e1, e2⟩ := e
    exact ⟨w', H, I.tok _, e2, q1 w' e1⟩
  · have e1 : valV kvs k = none := by
      have z1 := rel.val k
      rw [hn] at z1
      cases e1 : valV kvs k with
      | none => rfl
      | some w' =>
        rw [e1] at z1
        exact z1.elim
    have hlp : (putK kvs k z).length ≤ sizeLine := by have := length_putK kvs k z; omega
    obtain ⟨qo, ds, ep, hq, h2, h3, h4, _, h5⟩ := dd'
    refine ⟨z, _, d_write (ob := .dT (putK kvs k z)) I (by rw [ha]; exact True.intro) hs ⟨qo, hq⟩ ⟨hlp, hd, _, (rel.put k hb r2).keeps fun c ys ec => ?_, qo, ds, ep, hq, h2, h3, h4, h5⟩, r2, ?_⟩
    · rw [upd_ne (ne_of ec ha (fun z => nomatch z))]
      exact ec
    · rw [putK_none e1]
      exact q2 e1
end
end Ty

namespace Ty
open PySem PySem.Spec PyProof.Rows L2 Ty.Enc
open PySem.W (AllAlike Sortable alike alikeAll EachIs dataLe)
/-! ### sorted: of lists of data, of a dict whose keys are tuples; == of data -/
/-- data as the library tells it -/
class DEnc (α : Type) [Enc α] where
  enc : α → PyData
  dp : ∀ {K : PySem.W.Frag} {G H : Hp} {v : V} {x : α}, Same G H → rep G v x → Dp K H v (enc x)
  alk : ∀ x y : α, alike (enc x) (enc y) = true
  dep : ∀ x : α, (enc x).depth ≤ 8
  shp : ∀ x : α, (enc x).canLay0 = true
  srt : ∀ xs : List α, Sortable (xs.map enc)
open DEnc (enc)
theorem dpAll {α : Type} [Enc α] [DEnc α] {K : PySem.W.Frag} {G H : Hp} (s : Same G H) : ∀ {vs : List V} {xs : List α}, reps G vs xs → DpAll K H vs (xs.map enc)
  | _, _, .nil => .nil
  | _, _, .cons r t => .cons (DEnc.dp s r) (dpAll s t)
theorem alikeAll_of {α : Type} [Enc α] [DEnc α] : ∀ xs ys : List α, alikeAll (xs.map enc) (ys.map enc) = true
  | [], _ => by simp [alikeAll]
  | _ :: _, [] => by simp [alikeAll]
  | x :: xs, y :: ys => by
    show alikeAll (enc x :: xs.map enc) (enc y :: ys.map enc) = true
    rw [alikeAll, alikeAll_of xs ys, DEnc.alk x y]
    rfl
theorem depthAll_le {α : Type} [Enc α] [DEnc α] {n : Nat} (h : ∀ x : α, (enc x).depth ≤ n) : ∀ xs : List α, PyData.depthAll (xs.map enc) ≤ n
  | [] => by simp [PyData.depthAll]
  | x :: xs => by
    show PyData.depthAll (enc x :: xs.map enc) ≤ n
    rw [PyData.depthAll]
    have h1 := h x
    have h2 := depthAll_le h xs
    omega
instance : DEnc Nat where
  enc n := .int (n : Int)
  dp := fun _ r => by
    have e : _ = V.int _ := r
    rw [e]
    exact .int _
  alk x y := by simp [alike]
  dep x := by simp [PyData.depth]
  shp x := by rfl
  srt xs := .inr fun d hd => by
    obtain ⟨x, _, e⟩ := List.mem_map.mp hd
    subst e
    exact ⟨(fun z => by cases z), fun _ z => by cases z⟩
instance : DEnc (Nat × Nat) where
  enc p := .tuple [.int (p.1 : Int), .int (p.2 : Int)]
  dp := fun s r => by
    obtain ⟨a, x, y, e, h1, h2, h3⟩ := r
    have e2 : x = V.int _ := h2
    have e3 : y = V.int _ := h3
    subst e e2 e3
    exact .tup (.inl (.inl (s _ _ h1))) (.cons (.int _) (.cons (.int _) .nil))
  alk x y := by simp [alike, alikeAll]
  dep x := by simp [PyData.depth, PyData.depthAll]
  shp x := by rfl
  srt xs := .inl fun d hd => by
    obtain ⟨x, _, e⟩ := List.mem_map.mp hd
    subst e
    exact ⟨_, _, rfl⟩
theorem canAll {α : Type} [Enc α] [DEnc α] : ∀ xs : List α, PyData.canLayAll0 (xs.map enc) = true
  | [] => by simp [PyData.canLayAll0]
  | x :: xs => by
    show PyData.canLayAll0 (enc x :: xs.map enc) = true
    rw [PyData.canLayAll0, canAll xs, DEnc.shp x]
    rfl
instance : DEnc (List Nat) where
  enc xs := .list (xs.map enc)
  dp := fun s r => by
    obtain ⟨a, vs, e, h1, h2⟩ := r
    subst e
    exact .lst (.inl (.inl (s _ _ h1))) (dpAll s h2)
  alk x y := by
    rw [alike]
    exact alikeAll_of x y
  dep x := by
    rw [PyData.depth]
    have h := depthAll_le (α := Nat) (n := 0) (fun x => by show PyData.depth (.int _) ≤ 0; simp [PyData.depth]) x
    omega
  shp x := by
    rw [PyData.canLay0]
    exact canAll x
  srt xs := .inr fun d hd => by
    obtain ⟨x, _, e⟩ := List.mem_map.mp hd
    subst e
    exact ⟨(fun z => by cases z), fun _ z => by cases z⟩
instance : DEnc (List (Nat × Nat)) where
  enc xs := .list (xs.map enc)
  dp := fun s r => by
    obtain ⟨a, vs, e, h1, h2⟩ := r
    subst e
    exact .lst (.inl (.inl (s _ _ h1))) (dpAll s h2)
  alk x y := by
    rw [alike]
    exact alikeAll_of x y
  dep x := by
    rw [PyData.depth]
    have h := depthAll_le (α := Nat × Nat) (n := 1) (fun x => by show PyData.depth (.tuple [.int _, .int _]) ≤ 1; simp [PyData.depth, PyData.depthAll]) x
    omega
  shp x := by
    rw [PyData.canLay0]
    exact canAll x
  srt xs := .inr fun d hd => by
    obtain ⟨x, _, e⟩ := List.mem_map.mp hd
    subst e
    exact ⟨(fun z => by cases z), fun _ z => by cases z⟩
/-- the sorted list -/
def srt {α : Type} [Enc α] [DEnc α] (xs : List α) : List α := xs.mergeSort (dataLe false enc)
/-! ### sorted(l) -/
theorem each_of {α : Type} {S : V → α → Prop} : ∀ {vs : List V} {us : List Value} {xs : List α}, Vals vs us → Paired S vs xs → EachIs (fun u x => ∃ v, RelV v u ∧ S v x) us xs
  | _, _, _, .nil, .nil => .nil
  | _, _, _, .cons r t, .cons h t' => .cons ⟨_, r, h⟩ (each_of t t')
theorem of_each {α : Type} {S : V → α → Prop} : ∀ {us : List Value} {xs : List α}, EachIs (fun u x => ∃ v, RelV v u ∧ S v x) us xs → ∃ vs, Vals vs us ∧ Paired S vs xs
  | _, _, .nil => ⟨[], .nil, .nil⟩
  | _, _, .cons ⟨v, h1, h2⟩ t => by
    obtain ⟨vs, h3, h4⟩ := of_each t
    exact ⟨v :: vs, .cons h1 h3, .cons h2 h4⟩
theorem each_reads {α : Type} [Enc α] [DEnc α] {X : Cx} {pins : List (Addr × Obj)} {σ : L2.St} {H : Hp} {s : Shared} (I : Inv X pins σ H s) {G : Hp} (sm : Same G H) : ∀ {vs : List V} {us : List Value} {xs : List α}, Vals vs us → reps G vs xs → EachIs (fun u x => ∃ as, PySem.Reads s.heap u (enc x) as) us xs
  | _, _, _, .nil, .nil => .nil
  | _, _, _, .cons r t, .cons h t' => .cons (Dp.reads I _ _ _ (DEnc.dp sm h) r) (each_reads I sm t t')
theorem alk_map {α : Type} [Enc α] [DEnc α] (xs : List α) : AllAlike (xs.map enc) := PySem.W.AllAlike.of fun x y => DEnc.alk x y
section
variable {X : Cx}
theorem cr_sortedD {α : Type} [Enc α] [DEnc α] (hu : X.A.units + 64 < cLine) : CallR X (.builtin "sorted") (fun vs H Q => ∃ (a : Addr) (G : Hp) (us : List V) (xs : List α), vs = [.ref a] ∧ Same G H ∧ H a = some (.lst us) ∧ reps G us xs ∧
    ∀ ws p, H p = none → reps G ws (srt xs) → Q (.ref p) (upd H p (.lst ws))) := by
  intro pins s σ H vs us Q I r h
  obtain ⟨a, G, ws, xs, rfl, sm, ha, rx, q⟩ := h
  obtain ⟨its, rv, hl, hz⟩ := I.list (.inl (.inl ha))
  rw [Vals.ref1 r]
  refine PySem.W.sorted_data (bs := xs) (enc := enc) (R := fun u x => ∃ v, RelV v u ∧ rep G v x) hl.isList (each_of rv rx) (each_reads I sm rv rx) (alk_map xs) (DEnc.srt xs) (by rw [← pr_len rx]; exact hz) (fun b _ => ?_) fun out lo ho => ?_
  · have h1 := DEnc.dep b
    omega
  · obtain ⟨zs, h1, h2⟩ := of_each ho
    obtain ⟨ep, he'⟩ := PyProof.Rows.sortedAll_at s.heap its out.toArray
    have hlen : zs.length ≤ sizeLine := by rw [h1.length, lo, ← pr_len rx]; exact hz
    exact ⟨.ref _, upd H (s.heap.objs.size + 1) (.lst zs), I.laid (t' := s.toks) (fun _ _ => PyProof.Rows.sortedAll_old) (Nat.le_succ _) ⟨hlen, out, ep, h1, by simpa using he'⟩, rfl, q zs _ (I.hok.fresh (Nat.le_succ _)) h2⟩
/-- sorted(d), d a dict whose keys are tuples: its keys, read as data, sorted -/
theorem cr_sortedDT {α : Type} [Enc α] [DEnc α] [KeyT α] (hcalm : X.calm = true) (hu : X.A.units + 64 < cLine) (hk : ∀ (H : Hp) (b : Addr) (x : α), H b = some (.tup ((KeyT.key x).map kV)) → rep H (.ref b) x) :
    CallR X (.builtin "sorted") (fun vs H Q => ∃ (a : Addr) (kvs : List (List Key × V)) (xs : List α), vs = [.ref a] ∧ H a = some (.dT kvs) ∧ kvs.map (·.1) = xs.map KeyT.key ∧
    ∀ ws p, H p = none → reps H ws (srt xs) → Q (.ref p) (upd H p (.lst ws))) := by
  intro pins s σ H vs us Q I r h
  obtain ⟨a, kvs, xs, rfl, ha, hks, q⟩ := h
  rw [Vals.ref1 r]
  obtain ⟨z, lo, hs, rel, o, es, ep, g1, g2, g3, g4, _, g5⟩ := dt_of I.hok ha
  have hl : es.size = hs.length := by
    have e := congrArg List.length g4
    rw [List.length_map, Array.length_toList] at e
    exact e
  have hl2 : hs.length = kvs.length := (Paired.length rel).symm
  have hl3 : kvs.length = xs.length := by
    have e := congrArg List.length hks
    rw [List.length_map, List.length_map] at e
    exact e
  have h16 : es.size ≤ sizeLine := by rw [hl, hl2]; exact z
  refine Calls.call_function_entry PyProof.Rows.kind_sorted PyProof.Rows.plain_sorted PyProof.Rows.entry_sorted (PyProof.Rows.args_sorted1 _) ?_
  unfold Builtin.«sorted»
  refine wpAny_bind (m := checkCount "sorted" 1 1 _) (wpAny_pure ?_)
  refine wpAny_bind (PySem.W.kdu_collect (A := X.A.in1) (KdlSrc.rawDict (es := es) (ep := ep) lo) (I.ok.hd hcalm) ⟨o, g1, g2, g3⟩ h16 fun h' tk acc hkp hacc => ?_)
  have hal : acc.toList.length = xs.length := by rw [Array.length_toList, hacc.1, hl, hl2, hl3]
  have I1 : Inv X pins σ H { s with heap := h', toks := tk } := I.kept hkp
  -- the keys' tuples, as values and as data
  let bs : List Addr := hs.map (·.2.1)
  have key_at : ∀ (j : Nat) (v : Value), acc.toList[j]? = some v → ∃ x b, xs[j]? = some x ∧ v = .ref b ∧ bs[j]? = some b ∧ rep H (.ref b) x := fun j v e => by
    obtain ⟨hi, ev⟩ := hacc.2 j v (by rw [← Array.getElem?_toList]; exact e)
    have hj : j < hs.length := by rw [← hl]; exact hi
    have e1 : es.toList[j]? = some es[j] := by rw [Array.getElem?_toList]; exact Array.getElem?_eq_getElem hi
    rw [g4, List.getElem?_map, List.getElem?_eq_getElem hj] at e1
    have e2 : entryOfKey (tupleKind (mixKind X.prog X.w)) hs[j] = es[j] := Option.some.inj e1
    have e3 : v = .ref hs[j].2.1 := by rw [ev, ← e2]; rfl
    have hjk : j < kvs.length := by rw [← hl2]; exact hj
    obtain ⟨y, hy, h1, h2, _⟩ := pr_get' rel (List.getElem?_eq_getElem hjk)
    rw [List.getElem?_eq_getElem hj] at hy
    have ey := Option.some.inj hy
    have hjx : j < xs.length := by rw [← hl3]; exact hjk
    have e4 : (kvs.map (·.1))[j]? = some kvs[j].1 := by rw [List.getElem?_map, List.getElem?_eq_getElem hjk]; rfl
    rw [hks, List.getElem?_map, List.getElem?_eq_getElem hjx] at e4
    have e5 : KeyT.key xs[j] = kvs[j].1 := Option.some.inj e4
    refine ⟨xs[j], hs[j].2.1, List.getElem?_eq_getElem hjx, e3, ?_, hk H _ _ ?_⟩
    · show (hs.map (·.2.1))[j]? = _
      rw [List.getElem?_map, List.getElem?_eq_getElem hj] <;> rfl
    · rw [e5, ey]
      exact h2
  have lb : bs.length = acc.toList.length := by
    show (hs.map _).length = _
    rw [List.length_map, hal, hl2, hl3]
  have rv : Vals (bs.map V.ref) acc.toList := pr_of (by rw [List.length_map, lb]) fun j v u hv hu => by
    obtain ⟨x, b, _, e1, e2, _⟩ := key_at j u hu
    rw [List.getElem?_map, e2] at hv
    have e3 := Option.some.inj hv
    subst e1
    rw [← e3]
    rfl
  have rx : reps H (bs.map V.ref) xs := pr_of (by rw [List.length_map, lb, hal]) fun j v x hv hx => by
    have hj : j < acc.toList.length := by rw [hal]; exact (List.getElem?_eq_some_iff.mp hx).1
    obtain ⟨x', b, e0, e1, e2, e3⟩ := key_at j _ (List.getElem?_eq_getElem hj)
    rw [hx] at e0
    have e4 := Option.some.inj e0
    subst e4
    rw [List.getElem?_map, e2] at hv
    have e5 := Option.some.inj hv
    rw [← e5]
    exact e3
  have hLa : acc.toList.length ≤ sizeLine := by rw [hal, ← hl3]; exact z
  refine wpAny_bind (wpAny_newList ?_ hLa)
  have hoL : (h'.push (seqObj "list" acc.toList.toArray 0)).get? h'.objs.size = some (seqObj "list" acc.toList.toArray 0) := Heap.get?_push_size _ rfl
  show wpAny _ _ _ _ _ { s with heap := h'.push (seqObj "list" acc.toList.toArray 0), toks := tk }
  let s2 : Shared := { s with heap := PySem.W.sortingHeap (h'.push (seqObj "list" acc.toList.toArray 0)) h'.objs.size acc.toList, toks := tk }
  have kp2 : ∀ b ob, h'.get? b = some ob → s2.heap.get? b = some ob := fun b ob e => by
    have hb : b < h'.objs.size := Heap.lt_size e
    show (PySem.W.sortingHeap _ _ _).get? b = some ob
    exact PySem.W.sortingHeap_old (Nat.ne_of_lt hb) (Heap.get?_push_of_some _ e)
  have I2 : Inv X pins σ H s2 := I1.kept (t' := tk) kp2
  have er : EachIs (fun u x => ∃ as, PySem.Reads s2.heap u (enc x) as) acc.toList xs := each_reads I2 (Same.refl _) rv rx
  refine wpAny_bind (wpAny_holding (wpAny_call_entry PyProof.Rows.slot_list_sort ⟨_, hoL, rfl⟩ PyProof.Rows.entry_list_sort
    (PySem.W.list_sort_vals (κ := PySem.W.dataKind s2.heap (xs.map enc)) (s := { s with heap := h'.push (seqObj "list" acc.toList.toArray 0), toks := tk }) hoL
      (PySem.W.SortsAt.data (s := s2) (PySem.W.each_map (R := fun v d => ∃ as, PySem.Reads s2.heap v d as) enc er) (alk_map xs) (DEnc.srt xs) (PySem.W.bound_map (A := X.A.in1.in1) fun b _ => by
        have h1 := DEnc.dep b
        show X.A.units + 1 + 1 + _ < _
        omega)) hLa ⟨_, rfl, ?_⟩)
    (PyProof.Rows.args_list_sort _)))
  have so := PySem.W.sortVals_data (h' := s2.heap) (R := fun u x => ∃ v, RelV v u ∧ rep H v x) false (each_of rv rx) er (alk_map xs)
  obtain ⟨zs, f1, f2⟩ := of_each so
  obtain ⟨e', he'⟩ := PyProof.Rows.sortedHeap_at (vs := acc.toList) (out := (PySem.W.sortVals (PySem.W.dataKind s2.heap (xs.map enc)) false acc.toList acc.toList).toArray) hoL
  have hlen : zs.length ≤ sizeLine := by
    rw [f1.length, PySem.W.sortVals_length false rfl]
    exact hLa
  refine wpAny_pure ⟨_, rfl, .ref h'.objs.size, upd H h'.objs.size (.lst zs), I1.laid (t' := tk) (fun b u e => ?_) (Nat.le_refl _)
    (show ObjOk X.prog X.w _ _ _ (.lst zs) from ⟨hlen, _, e', f1, he'⟩), rfl, q zs _ (I1.hok.fresh (Nat.le_refl _)) f2⟩
  have hb : b < h'.objs.size := Heap.lt_size e
  rw [PyProof.Rows.sortedHeap_old (Nat.ne_of_lt hb) (by rw [size_push']; exact Nat.lt_succ_of_lt hb)]
  exact Heap.get?_push_of_some _ e
end
end Ty

/-! zip(a, b, strict=True) of two lists of one length, walked by a for: the library's rules of zip(a, b) (PyProof.ZipIter, HandS.Iter) turned to it -/
namespace ZipS
open PySem PySem.Spec PyProof.Rows L2
abbrev IsZipS (h : Heap) (z TI TO : Addr) (f0 : Value) : Prop :=
  h.get? z = some { cls := .type "zip", dict := none, data := .fields #[f0, .bool false, .bool true, .ref TI, .ref TO], slots := #[] }
section
variable {prog : Program} {w : World} {A : Around} {E : Value → Shared → Prop} {s : Shared}
theorem nextOrEnd_item {it l : Addr} {i : Nat} {items : Array Value} {x : Value} {Q : Option Value → Shared → Prop} (hit : s.heap.IsListIter it l i) (hl : s.heap.IsList l items) (hx : items[i]? = some x)
    (hQ : ∀ h', h'.IsListIter it l (i + 1) → Heap.SameBut it s.heap h' → Q (some x) { s with heap := h' }) : wpAny (model prog w) A (Builtin.SmallTypes.nextOrEnd (.ref it)) Q E s := by
  unfold Builtin.SmallTypes.nextOrEnd
  exact wpAny_bind (wpAny_attempt (wpAny_nextOf_list_item hit hl hx fun h' a b => wpAny_pure (hQ h' a b)))
theorem nextOrEnd_end {it l : Addr} {i : Nat} {items : Array Value} {Q : Option Value → Shared → Prop} (hh : A.handled = none) (hit : s.heap.IsListIter it l i) (hl : s.heap.IsList l items) (hx : items[i]? = none)
    (hQ : ∀ h', Heap.ExtBut it s.heap h' → Q none { s with heap := h' }) : wpAny (model prog w) A (Builtin.SmallTypes.nextOrEnd (.ref it)) Q E s := by
  unfold Builtin.SmallTypes.nextOrEnd
  refine wpAny_bind (wpAny_attempt (wpAny_nextOf_list_end hh hit hl hx fun h' e a b => ?_))
  obtain ⟨o, ho, hc⟩ := b
  refine wpAny_bind (wpAny_isInstance (T := "StopIteration") (b := true) ⟨o, ho, hc⟩ isSubtype_stop ?_)
  exact wpAny_pure (hQ h' a)
theorem stop_any {α : Type} {Q : α → Shared → Prop} (hh : A.handled = none) (hE : ∀ h' e, (∀ b o, s.heap.get? b = some o → h'.get? b = some o) → (∃ o, h'.get? e = some o ∧ o.cls = .type "StopIteration") → E (.ref e) { s with heap := h' }) :
    wpAny (model prog w) A (Builtin.SmallTypes.stopIteration (α := α)) Q E s := by
  unfold Builtin.SmallTypes.stopIteration
  refine wpAny_bind ?_
  simp only [newExc, newTuple]
  refine wpAny_bind (wpAny_newObj_type ?_ (by size_fits))
  refine wpAny_bind (m := firstArgMember _ _) (wpAny_of_eq (a := Value.none) (by first | rfl | (simp only [firstArgMember]; rfl)) ?_)
  refine wpAny_newObj_type ?_ (by size_fits)
  simp only [raiseNew]
  refine wpAny_bind (wpAny_handled ?_)
  rw [hh]
  refine wpAny_bind (wpAny_pure (wpAny_throw ?_))
  exact hE _ _ (fun b o e => Heap.get?_push_of_some _ (Heap.get?_push_of_some _ e)) ⟨_, Heap.get?_push_size _ rfl, rfl⟩

theorem zip_next_item {z TI TO i1 i2 l1 l2 : Addr} {k1 k2 : Nat} {xs ys : Array Value} {x y a b : Value} {Q : Value → Shared → Prop} (D : ZipApart z TI TO i1 i2 l1 l2)
    (hz : IsZipS s.heap z TI TO .none) (hTI : IsPair s.heap TI (.ref i1) (.ref i2)) (hTO : IsPair s.heap TO a b)
    (h1 : s.heap.IsListIter i1 l1 k1) (h2 : s.heap.IsListIter i2 l2 k2) (hl1 : s.heap.IsList l1 xs) (hl2 : s.heap.IsList l2 ys) (hx : xs[k1]? = some x) (hy : ys[k2]? = some y)
    (hQ : ∀ h', IsZipS h' z TI TO (rawInt s.heap.objs.size) → IsPair h' TO x y → h'.IsListIter i1 l1 (k1 + 1) → h'.IsListIter i2 l2 (k2 + 1) → IsPair h' s.heap.objs.size x y → h'.objs.size = s.heap.objs.size + 1 →
      (∀ c o, c ≠ z → c ≠ TO → c ≠ i1 → c ≠ i2 → s.heap.get? c = some o → h'.get? c = some o) → Q (.ref s.heap.objs.size) { s with heap := h' }) :
    wpAny (model prog w) A (Builtin.«zip.__next__» ⟨[.ref z], []⟩) (fun fin s' => ∃ v, fin = .done (.ret v) ∧ Q v s') E s := by
  show wpAny _ _ (field (.ref z) 2 >>= _) _ _ _
  refine wpAny_bind (wpAny_field hz rfl (x := .bool true) rfl ?_)
  show wpAny _ _ (field (.ref z) 3 >>= _) _ _ _
  refine wpAny_bind (wpAny_field hz rfl (x := .ref TI) rfl ?_)
  refine wpAny_bind (wpAny_seqItems hTI rfl ?_)
  show wpAny _ _ (Builtin.SmallTypes.ownedTupleIsFree (.ref z) >>= _) _ _ _
  refine wpAny_bind ?_
  unfold Builtin.SmallTypes.ownedTupleIsFree
  refine wpAny_bind (wpAny_field hz rfl (x := .none) rfl (wpAny_pure ?_))
  simp only [if_true]
  refine wpAny_bind (wpAny_rule ?_)
  refine wpAny_bind (wpAny_field hz rfl (x := .ref TO) rfl ?_)
  refine wpAny_bind (wpAny_setField_rec hz (by simp) fun h₁ hz₁ hs₁ => ?_)
  replace hz₁ : IsZipS h₁ z TI TO .ellipsis := hz₁
  refine wpAny_bind ?_
  simp only [List.zipIdx_cons, List.zipIdx_nil, List.forIn_cons, List.forIn_nil]

  refine wpAny_bind (wpAny_bind (wpAny_onRaise ?_))
  show wpAny _ _ (Builtin.SmallTypes.nextOrEnd (.ref i1)) _ _ _
  refine nextOrEnd_item (h1.extBut hs₁.extBut D.i1z) (hl1.extBut hs₁.extBut D.l1z) hx fun h₂ h1₂ hs₂ => ?_
  have hTO₂ : IsPair h₂ TO a b := hs₂.extBut _ _ D.TOi1 (hs₁.extBut _ _ D.TOz hTO)
  refine wpAny_bind (wpAny_seqItems hTO₂ rfl ?_)
  refine wpAny_bind (wpAny_updateSeq_pair hTO₂ fun h₃ hTO₃ hs₃ => ?_)
  replace hTO₃ : IsPair h₃ TO x b := hTO₃
  refine wpAny_bind (wpAny_letGo (wpAny_pure ?_))

  refine wpAny_bind (wpAny_bind (wpAny_onRaise ?_))
  show wpAny _ _ (Builtin.SmallTypes.nextOrEnd (.ref i2)) _ _ _
  refine nextOrEnd_item (((h2.extBut hs₁.extBut D.i2z).extBut hs₂.extBut D.i12.symm).extBut hs₃.extBut D.TOi2.symm)
    (((hl2.extBut hs₁.extBut D.l2z).extBut hs₂.extBut D.l2i1).extBut hs₃.extBut D.l2TO) hy fun h₄ h2₄ hs₄ => ?_
  have hTO₄ : IsPair h₄ TO x b := hs₄.extBut _ _ D.TOi2 hTO₃
  refine wpAny_bind (wpAny_seqItems hTO₄ rfl ?_)
  refine wpAny_bind (wpAny_updateSeq_pair hTO₄ fun h₅ hTO₅ hs₅ => ?_)
  replace hTO₅ : IsPair h₅ TO x y := hTO₅
  refine wpAny_bind (wpAny_letGo (wpAny_pure (wpAny_pure ?_)))

  refine wpAny_bind (wpAny_seqItems hTO₅ rfl ?_)
  refine wpAny_bind (wpAny_newTuple ?_)
  have hsz : h₅.objs.size = s.heap.objs.size := by rw [hs₅.1, hs₄.1, hs₃.1, hs₂.1, hs₁.1]
  have hz₅ : IsZipS h₅ z TI TO .ellipsis := hs₅.extBut _ _ D.TOz.symm (hs₄.extBut _ _ D.i2z.symm (hs₃.extBut _ _ D.TOz.symm (hs₂.extBut _ _ D.i1z.symm hz₁)))
  have hk₅ : ∀ c o, c ≠ z → c ≠ TO → c ≠ i1 → c ≠ i2 → s.heap.get? c = some o → h₅.get? c = some o := fun c o c1 c2 c3 c4 e =>
    hs₅.extBut _ _ c2 (hs₄.extBut _ _ c4 (hs₃.extBut _ _ c2 (hs₂.extBut _ _ c3 (hs₁.extBut _ _ c1 e))))
  have h1₅ : h₅.IsListIter i1 l1 (k1 + 1) := ((h1₂.extBut hs₃.extBut D.TOi1.symm).extBut hs₄.extBut D.i12).extBut hs₅.extBut D.TOi1.symm
  have h2₅ : h₅.IsListIter i2 l2 (k2 + 1) := h2₄.extBut hs₅.extBut D.TOi2.symm
  have hzlt : z < h₅.objs.size := Heap.lt_size hz₅
  show wpAny _ _ (Builtin.SmallTypes.ownedTupleHandOut (.ref z) (.ref h₅.objs.size) >>= _) _ _ _
  refine wpAny_bind ?_
  unfold Builtin.SmallTypes.ownedTupleHandOut
  have hz₆ : IsZipS (h₅.push { cls := .type "tuple", data := .seq #[x, y] }) z TI TO .ellipsis := Heap.get?_push_of_some _ hz₅
  refine wpAny_bind (wpAny_setField_rec hz₆ (by simp) fun h₇ hz₇ hs₇ => ?_)
  replace hz₇ : IsZipS h₇ z TI TO (rawInt h₅.objs.size) := hz₇
  refine wpAny_setField_rec hz₇ (by simp) fun h₈ hz₈ hs₈ => ?_
  replace hz₈ : IsZipS h₈ z TI TO (rawInt h₅.objs.size) := hz₈
  have up : ∀ c o, c ≠ z → h₅.get? c = some o → h₈.get? c = some o := fun c o c1 e => hs₈.extBut _ _ c1 (hs₇.extBut _ _ c1 (Heap.get?_push_of_some _ e))
  have hT₈ : IsPair h₈ h₅.objs.size x y := hs₈.extBut _ _ (Nat.ne_of_gt hzlt) (hs₇.extBut _ _ (Nat.ne_of_gt hzlt) (Heap.get?_push_size _ rfl))
  have hz8 : h₈.objs.size = h₅.objs.size + 1 := by rw [hs₈.1, hs₇.1, Heap.size_push]
  rw [hsz] at hz₈ hT₈ hz8
  refine wpAny_pure ⟨_, rfl, ?_⟩
  show Q (.ref h₅.objs.size) _
  rw [hsz]
  exact hQ h₈ hz₈ (up _ _ D.TOz hTO₅) (h1₅.at fun o e => up _ o D.i1z e) (h2₅.at fun o e => up _ o D.i2z e) hT₈ hz8 fun c o c1 c2 c3 c4 e => up c o c1 (hk₅ c o c1 c2 c3 c4 e)

/-- both lists are at their ends -/
theorem zip_next_end {z TI TO i1 i2 l1 l2 : Addr} {k1 k2 : Nat} {xs ys : Array Value} {a b : Value} {Q : PySem.Fin → Shared → Prop} (hh : A.handled = none) (D : ZipApart z TI TO i1 i2 l1 l2)
    (hz : IsZipS s.heap z TI TO .none) (hTI : IsPair s.heap TI (.ref i1) (.ref i2)) (hTO : IsPair s.heap TO a b)
    (h1 : s.heap.IsListIter i1 l1 k1) (h2 : s.heap.IsListIter i2 l2 k2) (hl1 : s.heap.IsList l1 xs) (hl2 : s.heap.IsList l2 ys) (hx : xs[k1]? = none) (hy : ys[k2]? = none)
    (hE : ∀ h' e, (∀ c o, c ≠ z → c ≠ TO → c ≠ i1 → c ≠ i2 → s.heap.get? c = some o → h'.get? c = some o) → (∃ o, h'.get? e = some o ∧ o.cls = .type "StopIteration") → E (.ref e) { s with heap := h' }) :
    wpAny (model prog w) A (Builtin.«zip.__next__» ⟨[.ref z], []⟩) Q E s := by
  show wpAny _ _ (field (.ref z) 2 >>= _) _ _ _
  refine wpAny_bind (wpAny_field hz rfl (x := .bool true) rfl ?_)
  show wpAny _ _ (field (.ref z) 3 >>= _) _ _ _
  refine wpAny_bind (wpAny_field hz rfl (x := .ref TI) rfl ?_)
  refine wpAny_bind (wpAny_seqItems hTI rfl ?_)
  show wpAny _ _ (Builtin.SmallTypes.ownedTupleIsFree (.ref z) >>= _) _ _ _
  refine wpAny_bind ?_
  unfold Builtin.SmallTypes.ownedTupleIsFree
  refine wpAny_bind (wpAny_field hz rfl (x := .none) rfl (wpAny_pure ?_))
  simp only [if_true]
  refine wpAny_bind (wpAny_rule ?_)
  refine wpAny_bind (wpAny_field hz rfl (x := .ref TO) rfl ?_)
  refine wpAny_bind (wpAny_setField_rec hz (by simp) fun h₁ hz₁ hs₁ => ?_)
  replace hz₁ : IsZipS h₁ z TI TO .ellipsis := hz₁
  refine wpAny_bind ?_
  simp only [List.zipIdx_cons, List.zipIdx_nil, List.forIn_cons, List.forIn_nil]
  refine wpAny_bind (wpAny_bind (wpAny_onRaise ?_))
  show wpAny _ _ (Builtin.SmallTypes.nextOrEnd (.ref i1)) _ _ _
  refine nextOrEnd_end hh (h1.extBut hs₁.extBut D.i1z) (hl1.extBut hs₁.extBut D.l1z) hx fun h₂ hs₂ => ?_
  have hz₂ : IsZipS h₂ z TI TO .ellipsis := hs₂ _ _ D.i1z.symm hz₁
  refine wpAny_bind (wpAny_setField_rec hz₂ (by simp) fun h₃ hz₃ hs₃ => ?_)
  have h2₃ : h₃.IsListIter i2 l2 k2 := ((h2.extBut hs₁.extBut D.i2z).extBut hs₂ D.i12.symm).extBut hs₃.extBut D.i2z
  have hl2₃ : h₃.IsList l2 ys := ((hl2.extBut hs₁.extBut D.l2z).extBut hs₂ D.l2i1).extBut hs₃.extBut D.l2z
  refine wpAny_bind ?_
  show wpAny _ _ (forIn (([Value.ref i1, Value.ref i2].drop 1).zipIdx 1) _ _ >>= _) _ _ _
  simp only [List.drop_succ_cons, List.drop_zero, List.zipIdx_cons, List.zipIdx_nil, List.forIn_cons, List.forIn_nil]
  refine wpAny_bind (wpAny_bind (wpAny_bind (nextOrEnd_end hh h2₃ hl2₃ hy fun h₄ hs₄ => ?_)))
  simp only [Option.isSome_none, Bool.false_eq_true, if_false]
  refine wpAny_pure ?_
  show wpAny _ _ (pure _) _ _ _
  refine wpAny_pure (wpAny_bind (wpAny_rule (stop_any hh fun h' e hk he => hE h' e (fun c o c1 c2 c3 c4 x => hk c o (hs₄ _ _ c4 (hs₃.extBut _ _ c1 (hs₂ _ _ c3 (hs₁.extBut _ _ c1 x))))) he)))
end
section
variable {prog : Program} {w : World} {A : Around} {E : Value → Shared → Prop} {s : Shared}
theorem pyNext_item {z TI TO i1 i2 l1 l2 : Addr} {k1 k2 : Nat} {xs ys : Array Value} {x y a b : Value} {Q : Option Value → Shared → Prop} (D : ZipApart z TI TO i1 i2 l1 l2)
    (hz : IsZipS s.heap z TI TO .none) (hTI : IsPair s.heap TI (.ref i1) (.ref i2)) (hTO : IsPair s.heap TO a b)
    (h1 : s.heap.IsListIter i1 l1 k1) (h2 : s.heap.IsListIter i2 l2 k2) (hl1 : s.heap.IsList l1 xs) (hl2 : s.heap.IsList l2 ys) (hx : xs[k1]? = some x) (hy : ys[k2]? = some y)
    (hQ : ∀ h', IsZipS h' z TI TO (rawInt s.heap.objs.size) → IsPair h' TO x y → h'.IsListIter i1 l1 (k1 + 1) → h'.IsListIter i2 l2 (k2 + 1) → IsPair h' s.heap.objs.size x y → h'.objs.size = s.heap.objs.size + 1 →
      (∀ c o, c ≠ z → c ≠ TO → c ≠ i1 → c ≠ i2 → s.heap.get? c = some o → h'.get? c = some o) → Q (some (.ref s.heap.objs.size)) { s with heap := h' }) :
    wpAny (model prog w) A (pyNext (.ref z)) Q E s := by
  have hT : s.TypeIs (.ref z) "zip" := ⟨_, hz, rfl⟩
  unfold pyNext
  exact wpAny_bind (wpAny_attempt (wpAny_callSpecial?_slot (name := Str.ofString "__next__") hT PySem.F.slot_zip_next
    (wpAny_call_entry PySem.F.slot_zip_next hT PySem.F.entry_zip_next
      (zip_next_item D hz hTI hTO h1 h2 hl1 hl2 hx hy fun h' a1 a2 a3 a4 a5 a6 a7 => wpAny_pure (hQ h' a1 a2 a3 a4 a5 a6 a7)) (PySem.F.args_zip_next_1 _))))
theorem pyNext_end {z TI TO i1 i2 l1 l2 : Addr} {k1 k2 : Nat} {xs ys : Array Value} {a b : Value} {Q : Option Value → Shared → Prop} (hh : A.handled = none) (D : ZipApart z TI TO i1 i2 l1 l2)
    (hz : IsZipS s.heap z TI TO .none) (hTI : IsPair s.heap TI (.ref i1) (.ref i2)) (hTO : IsPair s.heap TO a b)
    (h1 : s.heap.IsListIter i1 l1 k1) (h2 : s.heap.IsListIter i2 l2 k2) (hl1 : s.heap.IsList l1 xs) (hl2 : s.heap.IsList l2 ys) (hx : xs[k1]? = none) (hy : ys[k2]? = none)
    (hQ : ∀ h', (∀ c o, c ≠ z → c ≠ TO → c ≠ i1 → c ≠ i2 → s.heap.get? c = some o → h'.get? c = some o) → Q none { s with heap := h' }) : wpAny (model prog w) A (pyNext (.ref z)) Q E s := by
  have hT : s.TypeIs (.ref z) "zip" := ⟨_, hz, rfl⟩
  unfold pyNext
  refine wpAny_bind (wpAny_attempt (wpAny_callSpecial?_slot (name := Str.ofString "__next__") hT PySem.F.slot_zip_next
    (wpAny_call_entry PySem.F.slot_zip_next hT PySem.F.entry_zip_next (zip_next_end hh D hz hTI hTO h1 h2 hl1 hl2 hx hy fun h' e hk he => ?_) (PySem.F.args_zip_next_1 _))))
  obtain ⟨o, ho, hc⟩ := he
  refine wpAny_bind (wpAny_isInstance (T := "StopIteration") (b := true) ⟨o, ho, hc⟩ isSubtype_stop ?_)
  exact wpAny_pure (hQ _ hk)
theorem letGo {elts : List Expr} {x1 : Nat} {pos : Pos} {z TI TO T : Addr} {Q : Unit → Shared → Prop} (hz : IsZipS s.heap z TI TO (rawInt T))
    (hQ : ∀ h', IsZipS h' z TI TO .none → Heap.SameBut z s.heap h' → Q () { s with heap := h' }) :
    wpAny (model prog w) A (letOwnedTupleGo (.Tuple elts x1 pos) (.ref z) (.ref T)) Q E s := by
  unfold letOwnedTupleGo
  refine wpAny_bind (wpAny_load hz ?_)
  show wpAny _ _ (if (["enumerate", "zip", "dict_itemiterator", "dict_reverseitemiterator", "odict_iterator", "itertools.zip_longest", "itertools.pairwise"].contains "zip" &&
      (#[rawInt T, .bool false, .bool true, .ref TI, .ref TO] : Array Value)[0]? == some (rawInt T)) = true then _ else _) Q E s
  rw [if_pos (by simp)]
  refine wpAny_bind (wpAny_rule ?_)
  show wpAny _ _ (setField (.ref z) 0 .none) Q E s
  exact wpAny_setField_rec hz (by simp) fun h' hz' hs' => hQ h' hz' hs'
theorem iterS {z TI TO : Addr} {f0 : Value} {Q : Value → Shared → Prop} (hz : IsZipS s.heap z TI TO f0) (h : Q (.ref z) s) : wpAny (model prog w) A (pyIter (.ref z)) Q E s := by
  have hT : s.TypeIs (.ref z) "zip" := ⟨_, hz, rfl⟩
  refine wpAny_pyIter_slot hT PySem.F.slot_zip_iter (wpAny_call_entry PySem.F.slot_zip_iter hT PySem.F.entry_zip_iter ?_ (PySem.F.args_zip_iter_1 _))
  show wpAny _ _ (ret (.ref z)) _ _ s
  exact wpAny_pure ⟨_, rfl, "zip", _, hT, PySem.F.slot_zip_next.lookup, h⟩
end
abbrev kwS : List (Str × Value) := [(Str.ofString "strict", .bool true)]
theorem typeCall (a b : Value) : checkTypeCall "zip" ⟨[a, b], kwS⟩ = pure () := by kernel_rfl
theorem newCall (a b : Value) : checkBuiltinCall "zip.__new__" ⟨[.type "zip", a, b], kwS⟩ = pure () := by kernel_rfl
theorem args_init (obj a b : Value) : argsOk "object.__init__" ⟨[obj, a, b], kwS⟩ := by unfold argsOk; kernel_rfl
abbrev zipS5 (h : Heap) (l1 l2 : Addr) : Heap := (zipH4 h l1 l2).push { cls := .type "zip", data := .fields #[.none, .bool false, .bool true, .ref (zipH2 h l1 l2).objs.size, .ref (zipH3 h l1 l2).objs.size] }
theorem meets_newS (l1 l2 : Addr) (xs ys : Array Value) :
    Meets (Builtin.«zip.__new__» ⟨[.type "zip", .ref l1, .ref l2], kwS⟩) (fun _ R s => s.heap.IsList l1 xs ∧ s.heap.IsList l2 ys ∧
      R (.ok (.ret (.ref (zipH4 s.heap l1 l2).objs.size))) { s with heap := zipS5 s.heap l1 l2 }) :=
  .of_wp fun prog w A R s h => by
    obtain ⟨hp, g, d, tk, os⟩ := s; obtain ⟨hl1, hl2, h⟩ := h
    have hsub := sub_zip
    have hL1 : Heap.IsList (Shared.heap ⟨hp, g, d, tk, os⟩) l1 xs := hl1
    have hL2 : Heap.IsList (Shared.heap ⟨hp.push { cls := .type "list_iterator", data := .fields #[.ref l1, .int 0 0] }, g, d, tk, os⟩) l2 ys := Heap.IsList.push hl2 _
    have e2 : (Str.ofString "strict" != ("strict" : Str)) = false := by decide +kernel
    wp_walk using wpAny_pyIter_list hL1, wpAny_pyIter_list hL2
    exact ⟨_, rfl, h⟩
section
variable {prog : Program} {w : World} {A : Around} {E : Value → Shared → Prop} {s : Shared}
theorem call_zipS {l1 l2 : Addr} {xs ys : Array Value} {Q : Value → Shared → Prop} (hl1 : s.heap.IsList l1 xs) (hl2 : s.heap.IsList l2 ys)
    (h : ∀ h', IsZipS h' (s.heap.objs.size + 4) (s.heap.objs.size + 2) (s.heap.objs.size + 3) .none → IsPair h' (s.heap.objs.size + 2) (.ref s.heap.objs.size) (.ref (s.heap.objs.size + 1)) →
      IsPair h' (s.heap.objs.size + 3) .none .none → h'.IsListIter s.heap.objs.size l1 0 → h'.IsListIter (s.heap.objs.size + 1) l2 0 → h'.objs.size = s.heap.objs.size + 5 →
      (∀ c o, s.heap.get? c = some o → h'.get? c = some o) → Q (.ref (s.heap.objs.size + 4)) { s with heap := h' }) :
    wpAny (model prog w) A (call (.type "zip") [.ref l1, .ref l2] kwS) Q E s := by
  refine callType_newKw PySem.F.called_zip (by decide) (typeCall _ _) (newCall _ _) (fun obj => args_init obj _ _) PySem.F.entry_zip_new
    (meets_newS l1 l2 xs ys) ⟨hl1, hl2, ?_⟩
  have z1 : (zipH1 s.heap l1).objs.size = s.heap.objs.size + 1 := Heap.size_push ..
  have z2 : (zipH2 s.heap l1 l2).objs.size = s.heap.objs.size + 2 := by rw [Heap.size_push, z1]
  have z3 : (zipH3 s.heap l1 l2).objs.size = s.heap.objs.size + 3 := by rw [Heap.size_push, z2]
  have z4 : (zipH4 s.heap l1 l2).objs.size = s.heap.objs.size + 4 := by rw [Heap.size_push, z3]
  have z5 : (zipS5 s.heap l1 l2).objs.size = s.heap.objs.size + 5 := by rw [Heap.size_push, z4]
  have g5 : (zipS5 s.heap l1 l2).get? (zipH4 s.heap l1 l2).objs.size = some _ := Heap.get?_push_size _ rfl
  have g4 : (zipS5 s.heap l1 l2).get? (zipH3 s.heap l1 l2).objs.size = some _ := Heap.get?_push_of_some _ (Heap.get?_push_size _ rfl)
  have g3 : (zipS5 s.heap l1 l2).get? (zipH2 s.heap l1 l2).objs.size = some _ := Heap.get?_push_of_some _ (Heap.get?_push_of_some _ (Heap.get?_push_size _ rfl))
  have g2 : (zipS5 s.heap l1 l2).get? (zipH1 s.heap l1).objs.size = some _ := Heap.get?_push_of_some _ (Heap.get?_push_of_some _ (Heap.get?_push_of_some _ (Heap.get?_push_size _ rfl)))
  have g1 : (zipS5 s.heap l1 l2).get? s.heap.objs.size = some _ := Heap.get?_push_of_some _ (Heap.get?_push_of_some _ (Heap.get?_push_of_some _ (Heap.get?_push_of_some _ (Heap.get?_push_size _ rfl))))
  show _ ∧ _
  rw [z2, z3, z4] at g5
  rw [z1, z2] at g3
  rw [z3] at g4
  rw [z1] at g2
  rw [z4]
  exact ⟨⟨_, g5, rfl⟩, h _ g5 g3 g4 ⟨_, g1, rfl, rfl⟩ ⟨_, g2, rfl, rfl⟩ z5 fun c o x =>
    Heap.get?_push_of_some _ (Heap.get?_push_of_some _ (Heap.get?_push_of_some _ (Heap.get?_push_of_some _ (Heap.get?_push_of_some _ x))))⟩
end
/-- the two lists at a and b, side by side; it stops where both are at their ends -/
def ItzS (K : PySem.W.Frag) (a b : Addr) : It :=
  ⟨fun i H => ∃ (xs ys : List V) (x y : V), SqL K H a xs ∧ SqL K H b ys ∧ xs[i]? = some x ∧ ys[i]? = some y,
    fun i H v H' => ∃ T x y, v = .ref T ∧ H T = none ∧ H' = upd H T (.tup [x, y]) ∧ (∀ xs, SqL K H a xs → xs[i]? = some x) ∧ ∀ ys, SqL K H b ys → ys[i]? = some y,
    fun i H => ∃ xs ys : List V, SqL K H a xs ∧ SqL K H b ys ∧ xs.length ≤ i ∧ ys.length ≤ i⟩
theorem turn_zipS {P : Program} {w : World} {K : PySem.W.Frag} {elts : List Expr} {kk : Nat} {tpos : Pos} {a b z TI TO i1 i2 : Addr} (D : ZipApart z TI TO i1 i2 a b) :
    Turn P w K (.Tuple elts kk tpos) (ItzS K a b) [z, TI, TO, i1, i2] z (fun i h => IsZipS h z TI TO .none ∧ IsPair h TI (.ref i1) (.ref i2) ∧ (∃ x y, IsPair h TO x y) ∧ h.IsListIter i1 a i ∧ h.IsListIter i2 b i) where
  mem := by simp
  obj := fun i h st c hc => by
    obtain ⟨hz, hTI, ⟨x, y, hTO⟩, ⟨o1, e1, _, d1⟩, ⟨o2, e2, _, d2⟩⟩ := st
    have e' : c = z ∨ c = TI ∨ c = TO ∨ c = i1 ∨ c = i2 := by simpa using hc
    rcases e' with q | q | q | q | q
    · rw [q]; exact ⟨_, hz, fun v q => nomatch q⟩
    · rw [q]; exact ⟨_, hTI, fun v q => nomatch q⟩
    · rw [q]; exact ⟨_, hTO, fun v q => nomatch q⟩
    · rw [q]; exact ⟨o1, e1, fun v q => by rw [d1] at q; cases q⟩
    · rw [q]; exact ⟨o2, e2, fun v q => by rw [d2] at q; cases q⟩
  keep := fun i h h' st k => by
    obtain ⟨hz, hTI, ⟨x, y, hTO⟩, h1, h2⟩ := st
    exact ⟨k z (by simp) _ hz, k TI (by simp) _ hTI, ⟨x, y, k TO (by simp) _ hTO⟩, h1.at fun o q => k i1 (by simp) o q, h2.at fun o q => k i2 (by simp) o q⟩
  item := by
    intro X hP hw hK hc i pins s σ H E I hf st hg
    subst hP hw hK
    obtain ⟨hz, hTI, ⟨x0, y0, hTO⟩, h1, h2⟩ := st
    obtain ⟨xs, ys, x, y, hqx, hqy, hx, hy⟩ := hg
    obtain ⟨its, rv, p, _⟩ := I.list hqx
    obtain ⟨its2, rv2, p2, _⟩ := I.list hqy
    obtain ⟨u, hu, ru⟩ := rv.get hx
    obtain ⟨u2, hu2, ru2⟩ := rv2.get hy
    have hzl : z < s.heap.objs.size := Heap.lt_size hz
    refine pyNext_item D hz hTI hTO h1 h2 p.isList p2.isList (x := u) (y := u2) (by simpa using hu) (by simpa using hu2) fun h' z' TO' h1' h2' hT hsz hk => ?_
    refine ⟨_, rfl, letGo (s := { s with heap := h' }) z' fun h'' z'' sb => ?_⟩
    have hT2 : h''.get? s.heap.objs.size = some { cls := .type "tuple", data := .seq #[u, u2] } := (sb.2 _ (Nat.ne_of_gt hzl)).trans hT
    have new : ObjOk X.prog X.w (upd H s.heap.objs.size (.tup [x, y])) h'' s.heap.objs.size (.tup [x, y]) :=
      ⟨by show 2 ≤ sizeLine; decide, [u, u2], .cons ru (.cons ru2 .nil), ⟨_, hT2, rfl, _, rfl⟩⟩
    have I1 : Inv X pins σ (upd H s.heap.objs.size (.tup [x, y])) { s with heap := h'' } :=
      I.turnedNew (t' := s.toks) (ch := [z, TI, TO, i1, i2]) (fun c o hb q => (sb.2 c (fun q' => hb (by simp [q']))).trans (hk c o (fun q' => hb (by simp [q'])) (fun q' => hb (by simp [q'])) (fun q' => hb (by simp [q'])) (fun q' => hb (by simp [q'])) q)) hf (Nat.le_refl _) new
    refine ⟨.ref s.heap.objs.size, _, I1, rfl, ⟨_, x, y, rfl, I.hok.fresh (Nat.le_refl _), rfl, fun l hl => by rw [I.list_inj hl hqx]; exact hx, fun l hl => by rw [I.list_inj hl hqy]; exact hy⟩, ⟨z'', ?_, ⟨u, u2, ?_⟩, ?_, ?_⟩, fun c hcm => ?_⟩
    · exact (sb.2 _ D.TIz).trans (hk _ _ D.TIz D.TITO D.TIi1 D.TIi2 hTI)
    · exact (sb.2 _ D.TOz).trans TO'
    · exact h1'.at fun o q => (sb.2 _ D.i1z).trans q
    · exact h2'.at fun o q => (sb.2 _ D.i2z).trans q
    · have hlt : c < s.heap.objs.size := by
        have e' : c = z ∨ c = TI ∨ c = TO ∨ c = i1 ∨ c = i2 := by simpa using hcm
        rcases e' with q | q | q | q | q
        · rw [q]; exact hzl
        · rw [q]; exact Heap.lt_size hTI
        · rw [q]; exact Heap.lt_size hTO
        · rw [q]; obtain ⟨_, e1, _⟩ := h1; exact Heap.lt_size e1
        · rw [q]; obtain ⟨_, e2, _⟩ := h2; exact Heap.lt_size e2
      rw [upd_ne (Nat.ne_of_lt hlt)]
      exact (hf c hcm).1
  done := by
    intro X hP hw hK hc i pins s σ H E I hf st hg
    subst hP hw hK
    obtain ⟨hz, hTI, ⟨x0, y0, hTO⟩, h1, h2⟩ := st
    obtain ⟨xs, ys, hqx, hqy, he1, he2⟩ := hg
    obtain ⟨its, rv, p, _⟩ := I.list hqx
    obtain ⟨its2, rv2, p2, _⟩ := I.list hqy
    have l1 := rv.length
    have l2 := rv2.length
    exact pyNext_end (I.ok.hd hc) D hz hTI hTO h1 h2 p.isList p2.isList (by simp; omega) (by simp; omega) fun h' hk => ⟨rfl, I.turnedL (t' := s.toks) (ch := [z, TI, TO, i1, i2]) (fun c o hb q =>
      hk c o (fun q' => hb (by simp [q'])) (fun q' => hb (by simp [q'])) (fun q' => hb (by simp [q'])) (fun q' => hb (by simp [q'])) q) hf⟩
  self := fun A i s Q E st h => iterS st.1 h
def iZipS (K : PySem.W.Frag) (ta : TA) : TI := fun σ H R => ta σ H fun vs H1 => ∃ a b xs ys, vs = [.ref a, .ref b] ∧ SqL K H1 a xs ∧ SqL K H1 b ys ∧ R (ItzS K a b) H1
theorem callWith_typeKw {M : Model} {A : Around} {E : Value → Shared → Prop} {s : Shared} {env : Env} {pos : Pos} {T : String} {e : Expr} {rest : List Expr} {kws : List Keyword} {Q : Value → Shared → Prop}
    (h : wpAny M A (spliced (backTo pos (starEach (e :: rest) env))) (fun vs s₁ => wpAny M A (evalAll ((backToKw pos (keywordEach kws env)).map (·.2)))
      (fun kvs s₂ => wpAny M A (call (.type T) vs (((backToKw pos (keywordEach kws env)).filterMap (·.1)).zip kvs)) Q E s₂) E s₁) E s)
    (he : backTo pos (starEach (e :: rest) env) = (false, eval e env) :: backTo pos (starEach rest env)) (hplain : (backTo pos (starEach (e :: rest) env)).any (·.1) = false)
    (hall : (backToKw pos (keywordEach kws env)).all (·.1.isSome) = true) (hkw : (backToKw pos (keywordEach kws env)).any (·.1.isNone) = false) :
    wpAny M A (callWith pos (.type T) [] (backTo pos (starEach (e :: rest) env)) (backToKw pos (keywordEach kws env))) Q E s := by
  unfold callWith
  have h' : wpAny M A (evalArgs (.type T) true (backTo pos (starEach (e :: rest) env)) (backToKw pos (keywordEach kws env))) (fun a s₁ => wpAny M A (call (.type T) ([] ++ a.pos) a.kw) Q E s₁) E s := by
    rw [he] at h ⊢
    exact evalArgs_kwB hall h
  refine wpAny_bind (wpAny_holding (wpAny_mono h' (fun a s₁ h₁ => wpAny_bind (wpAny_standAt ?_)) fun _ _ x => x))
  simp only [hplain, hkw, Bool.or_false]
  refine wpAny_bind (wpAny_pure ?_)
  exact wpAny_bind (wpAny_mono h₁ (fun r s₂ hr => wpAny_bind (wpAny_holding (wpAny_point (wpAny_pure hr)))) fun _ _ x => x)
theorem pi_zipS {X : Cx} {e e2 : Expr} {ta : TA} {p pos tpos kpos bpos : Pos} {j : Nat} {elts : List Expr} {kk : Nat} (hg : Gl X "zip") (hm : X.mg "zip" = none) (ha : PA X [e, e2] ta)
    (hs : backTo pos (starEach [e, e2] X.env) = (false, eval e X.env) :: backTo pos (starEach [e2] X.env) := by rfl) (hpl : (backTo pos (starEach [e, e2] X.env)).any (·.1) = false := by rfl) :
    PI X (.Tuple elts kk tpos) (.Call (.Name "zip" p) [e, e2] [⟨some (Str.ofString "strict"), .Constant (.bool true) j bpos, kpos⟩] pos) (iZipS X.K ta) := by
  refine ⟨fun pins s σ H R I h => ?_⟩
  refine wpAny_Call_Name_kw (ld_blt I hg hm PyProof.Rows.boot_zip (callWith_typeKw (thn (ha.run pos pins s σ H _ I h) fun us s1 ⟨vs, H1, I1, r1, q1⟩ => ?_) hs hpl rfl rfl))
  refine thn ((pk_cons (nm := some (Str.ofString "strict")) (kpos := kpos) (pe_bl (b := true) (j := j) (pos := bpos)) pk_nil).run pos pins s1 σ H1 (fun ws H2 => ws = [V.bl true] ∧ ∃ a b xs ys, vs = [.ref a, .ref b] ∧ SqL X.K H2 a xs ∧ SqL X.K H2 b ys ∧ R (ItzS X.K a b) H2) I1 ⟨rfl, q1⟩) fun kvs s2 ⟨ws, H2, I2, r2, ew, q2⟩ => ?_
  subst ew
  obtain ⟨a, b, xs, ys, ex, hqx, hqy, q⟩ := q2
  subst ex
  obtain ⟨kv, rfl, rk⟩ := vals1 r2
  cases rk
  obtain ⟨u1, u2, rfl, ra, rb⟩ := vals2 r1
  cases ra
  cases rb
  obtain ⟨its, rv, p1, _⟩ := I2.list hqx
  obtain ⟨its2, rv2, p2, _⟩ := I2.list hqy
  have la : a < s2.heap.objs.size := p1.lt
  have lb : b < s2.heap.objs.size := p2.lt
  refine call_zipS p1.isList p2.isList fun h' hz hTI hTO h1 h2 hsz hk => iterS hz ?_
  have I3 : Inv X pins σ H2 { s2 with heap := h' } := I2.kept (t' := s2.toks) hk
  refine ⟨s2.heap.objs.size + 4, [s2.heap.objs.size + 4, s2.heap.objs.size + 2, s2.heap.objs.size + 3, s2.heap.objs.size, s2.heap.objs.size + 1], _, _, H2, rfl, I3, turn_zipS (PySem.W.ktu_apart s2.heap.objs.size a b la lb), ⟨hz, hTI, ⟨_, _, hTO⟩, h1, h2⟩, fun c hcm => ?_, q⟩
  have e' : c = s2.heap.objs.size + 4 ∨ c = s2.heap.objs.size + 2 ∨ c = s2.heap.objs.size + 3 ∨ c = s2.heap.objs.size ∨ c = s2.heap.objs.size + 1 := by simpa using hcm
  have hle : s2.heap.objs.size ≤ c := by
    rcases e' with z | z | z | z | z
    · rw [z]; exact Nat.le_add_right _ _
    · rw [z]; exact Nat.le_add_right _ _
    · rw [z]; exact Nat.le_add_right _ _
    · rw [z]; exact Nat.le_refl _
    · rw [z]; exact Nat.le_add_right _ _
  exact I2.fpOk hle (I2.hok.fresh hle)
end ZipS

namespace Ty
open PySem PySem.Spec PyProof.Rows L2 Ty.Enc
open DEnc (enc)
section
variable {X : Cx} {e a b c o : Expr} {es : List Expr} {Γ Γ1 Γ2 Γ3 Γ4 Γ' : Env'} {d d1 d2 d3 d4 : Dyn} {te ta tb : TE} {p2 p3 apos pos pos' : Pos} {k : Bool} {r : R2} {D : TD} {x : Str} {ds : List Dyn} {α β : Type} [Enc α] [Enc β]
/-! ### enumerate, zip, range downwards -/
/-- the numbered items -/
def en (xs : List α) : List (Nat × α) := (List.range xs.length).zip xs
theorem en_get {xs : List α} {i : Nat} {p : Nat × α} (h : (en xs)[i]? = some p) : p.1 = i ∧ xs[i]? = some p.2 := by
  unfold en at h
  rw [List.getElem?_zip_eq_some] at h
  have h1 := (List.getElem?_eq_some_iff.mp h.1)
  obtain ⟨hl, e1⟩ := h1
  rw [List.getElem_range] at e1
  exact ⟨e1.symm, h.2⟩
theorem en_len (xs : List α) : (en xs).length = xs.length := by
  unfold en
  rw [List.length_zip, List.length_range, Nat.min_self]
theorem iv_pair {γ δ : Type} [Enc γ] [Enc δ] {J : It} {xs : List (γ × δ)} {G : Hp} (h1 : ∀ i H, i < xs.length → Same G H → J.go i H) (h2 : ∀ H, Same G H → J.stop xs.length H)
    (h3 : ∀ (i : Nat) (p : γ × δ) H v H', xs[i]? = some p → Same G H → J.yld i H v H' → ∃ T x y, v = .ref T ∧ H T = none ∧ H' = upd H T (.tup [x, y]) ∧ rep G x p.1 ∧ rep G y p.2) : IvT J xs G where
  goes := h1
  stops := h2
  yields := fun i p H v H' e s y G1 s1 s2 => by
    obtain ⟨T, u, w, rfl, hT, rfl, r1, r2⟩ := h3 i p H v H' e s y
    have st := Step.new (o := .tup [u, w]) s2 hT
    exact ⟨_, st, T, u, w, rfl, upd_same, mono (s1.trans st.g) r1, mono (s1.trans st.g) r2⟩
theorem i_enum {xs : List α} {elts : List Expr} {kk : Nat} {tpos : Pos} (hm : X.mg "enumerate" = none) (h : EJ X a Γ Γ' ⟨xs⟩) (hg : Gl X "enumerate" := by rfl) (hs : starEach [a] X.env = [(false, eval a X.env)] := by rfl) :
    IJ X (.Tuple elts kk tpos) (.Call (.Name "enumerate" p2) [a] [] pos) Γ Γ' (en xs) :=
  .of (pi_enum hg hm pa_tA hs) fun B σ G H f R q => a_1 h hs B σ G H f _ fun vs G' H' f' s r => by
    match vs, r with
    | [v], ⟨r1, _⟩ =>
      obtain ⟨l, us, rfl, h1, h2⟩ := r1
      have hl : us.length = xs.length := pr_len h2
      refine ⟨l, us, rfl, .inl (.inl (f'.sub _ _ h1)), q _ G' H' f' s (iv_pair (fun i H hi s => ?_) (fun H s => ⟨us, .inl (.inl (s _ _ h1)), by rw [en_len, hl]; exact Nat.le_refl _⟩) fun i p H v H' e s y => ?_)⟩
      · rw [en_len] at hi
        have hi' : i < us.length := by omega
        exact ⟨us, us[i], .inl (.inl (s _ _ h1)), List.getElem?_eq_getElem hi'⟩
      · obtain ⟨T, w, rfl, hT, rfl, hy⟩ := y
        obtain ⟨e1, e2⟩ := en_get e
        obtain ⟨u, hu, ru⟩ := pr_get h2 e2
        have e3 := (hy us (.inl (.inl (s _ _ h1)))).symm.trans hu
        have e4 := Option.some.inj e3
        subst e4
        exact ⟨T, _, _, rfl, hT, rfl, by show V.int _ = V.int _; rw [e1], ru⟩
theorem zip_get {xs : List α} {ys : List β} {i : Nat} {p : α × β} (h : (xs.zip ys)[i]? = some p) : xs[i]? = some p.1 ∧ ys[i]? = some p.2 := by
  rw [List.getElem?_zip_eq_some] at h
  exact h
theorem i_zip {xs : List α} {ys : List β} {elts : List Expr} {kk : Nat} {tpos : Pos} (hm : X.mg "zip" = none) (ha : EJ X a Γ Γ1 ⟨xs⟩) (hb : EJ X b Γ1 Γ' ⟨ys⟩) (hg : Gl X "zip" := by rfl) (he : starEach [a, b] X.env = [(false, eval a X.env), (false, eval b X.env)] := by rfl)
    (he2 : starEach [b] X.env = [(false, eval b X.env)] := by rfl) (hpl : (backTo pos (starEach [b] X.env)).any (·.1) = false := by rfl) :
    IJ X (.Tuple elts kk tpos) (.Call (.Name "zip" p2) [a, b] [] pos) Γ Γ' (xs.zip ys) :=
  .of (pi_zip hg hm pa_tA (by rw [he, he2]) hpl) fun B σ G H f R q => a_2 ha hb he he2 B σ G H f _ fun vs G' H' f' s r => by
    match vs, r with
    | [v, w], ⟨r1, r2, _⟩ =>
      obtain ⟨l, us, rfl, h1, h2⟩ := r1
      obtain ⟨m, ws, rfl, h3, h4⟩ := r2
      have hl : us.length = xs.length := pr_len h2
      have hl2 : ws.length = ys.length := pr_len h4
      refine ⟨l, m, us, ws, rfl, .inl (.inl (f'.sub _ _ h1)), .inl (.inl (f'.sub _ _ h3)), q _ G' H' f' s (iv_pair (fun i H hi s => ?_) (fun H s => ⟨us, ws, .inl (.inl (s _ _ h1)), .inl (.inl (s _ _ h3)), by rw [List.length_zip]; omega⟩) fun i p H v H' e s y => ?_)⟩
      · rw [List.length_zip] at hi
        have hi' : i < us.length := by omega
        have hi2 : i < ws.length := by omega
        exact ⟨us, ws, us[i], ws[i], .inl (.inl (s _ _ h1)), .inl (.inl (s _ _ h3)), List.getElem?_eq_getElem hi', List.getElem?_eq_getElem hi2⟩
      · obtain ⟨T, x, z, rfl, hT, rfl, hy, hy2⟩ := y
        obtain ⟨e1, e2⟩ := zip_get e
        obtain ⟨u, hu, ru⟩ := pr_get h2 e1
        obtain ⟨u2, hu2, ru2⟩ := pr_get h4 e2
        have e4 := Option.some.inj ((hy us (.inl (.inl (s _ _ h1)))).symm.trans hu)
        have e5 := Option.some.inj ((hy2 ws (.inl (.inl (s _ _ h3)))).symm.trans hu2)
        subst e4 e5
        exact ⟨T, _, _, rfl, hT, rfl, ru, ru2⟩
theorem i_zipS {xs : List α} {ys : List β} {elts : List Expr} {kk j : Nat} {tpos kpos bpos : Pos} (hm : X.mg "zip" = none) (ha : EJ X a Γ Γ1 ⟨xs⟩) (hb : EJ X b Γ1 Γ' ⟨ys⟩) (hl : xs.length = ys.length) (hg : Gl X "zip" := by rfl) (he : starEach [a, b] X.env = [(false, eval a X.env), (false, eval b X.env)] := by rfl)
    (he2 : starEach [b] X.env = [(false, eval b X.env)] := by rfl) (hs : backTo pos (starEach [a, b] X.env) = (false, eval a X.env) :: backTo pos (starEach [b] X.env) := by rfl) (hpl : (backTo pos (starEach [a, b] X.env)).any (·.1) = false := by rfl) :
    IJ X (.Tuple elts kk tpos) (.Call (.Name "zip" p2) [a, b] [⟨some (Str.ofString "strict"), .Constant (.bool true) j bpos, kpos⟩] pos) Γ Γ' (xs.zip ys) :=
  .of (ZipS.pi_zipS hg hm pa_tA hs hpl) fun B σ G H f R q => a_2 ha hb he he2 B σ G H f _ fun vs G' H' f' s r => by
    match vs, r with
    | [v, w], ⟨r1, r2, _⟩ =>
      obtain ⟨l, us, rfl, h1, h2⟩ := r1
      obtain ⟨m, ws, rfl, h3, h4⟩ := r2
      have hl1 : us.length = xs.length := pr_len h2
      have hl2 : ws.length = ys.length := pr_len h4
      refine ⟨l, m, us, ws, rfl, .inl (.inl (f'.sub _ _ h1)), .inl (.inl (f'.sub _ _ h3)), q _ G' H' f' s (iv_pair (fun i H hi s => ?_) (fun H s => ⟨us, ws, .inl (.inl (s _ _ h1)), .inl (.inl (s _ _ h3)), by rw [List.length_zip]; omega, by rw [List.length_zip]; omega⟩) fun i p H v H' e s y => ?_)⟩
      · rw [List.length_zip] at hi
        have hi' : i < us.length := by omega
        have hi2 : i < ws.length := by omega
        exact ⟨us, ws, us[i], ws[i], .inl (.inl (s _ _ h1)), .inl (.inl (s _ _ h3)), List.getElem?_eq_getElem hi', List.getElem?_eq_getElem hi2⟩
      · obtain ⟨T, x, z, rfl, hT, rfl, hy, hy2⟩ := y
        obtain ⟨e1, e2⟩ := zip_get e
        obtain ⟨u, hu, ru⟩ := pr_get h2 e1
        obtain ⟨u2, hu2, ru2⟩ := pr_get h4 e2
        have e4 := Option.some.inj ((hy us (.inl (.inl (s _ _ h1)))).symm.trans hu)
        have e5 := Option.some.inj ((hy2 ws (.inl (.inl (s _ _ h3)))).symm.trans hu2)
        subst e4 e5
        exact ⟨T, _, _, rfl, hT, rfl, ru, ru2⟩

/-! ### in, == -/
theorem inV_nat {G : Hp} {n : Nat} : ∀ {vs : List V} {xs : List Nat}, reps G vs xs → inV (.int (n : Int)) vs = decide (n ∈ xs) ∧ vs.all flatV = true
  | _, _, .nil => ⟨by simp [inV], rfl⟩
  | v :: vs, y :: xs, .cons r t => by
    obtain ⟨h1, h2⟩ := inV_nat (n := n) t
    have e : v = V.int (y : Int) := r
    subst e
    refine ⟨?_, by rw [List.all_cons, h2]; rfl⟩
    unfold inV at h1 ⊢
    rw [List.any_cons, h1]
    show ((y : Int) == (n : Int) || _) = _
    by_cases hy : n = y
    · subst hy
      simp
    · have hy2 : ((y : Int) == (n : Int)) = false := by
        rw [beq_eq_false_iff_ne]
        omega
      rw [hy2]
      simp [hy]
theorem inV_optN {G : Hp} : ∀ {vs : List V} {xs : List (Option Nat)}, reps G vs xs → inV .non vs = decide (none ∈ xs) ∧ vs.all flatV = true
  | _, _, .nil => ⟨by simp [inV], rfl⟩
  | v :: vs, y :: xs, .cons r t => by
    obtain ⟨h1, h2⟩ := inV_optN t
    cases y with
    | none =>
      have e : v = V.non := r
      subst e
      refine ⟨?_, by rw [List.all_cons, h2]; rfl⟩
      unfold inV at h1 ⊢
      rw [List.any_cons]
      simp [eqV]
    | some y =>
      have e : v = V.int (y : Int) := r
      subst e
      refine ⟨?_, by rw [List.all_cons, h2]; rfl⟩
      unfold inV at h1 ⊢
      rw [List.any_cons, h1]
      simp [eqV]
theorem r_inL {n : Nat} {xs : List Nat} {K : PySem.W.Frag} {neg : Bool} : R2T (rIn K neg) ⟨n⟩ ⟨xs⟩ ⟨if neg then !decide (n ∈ xs) else decide (n ∈ xs)⟩ := fun G H v w s r1 r2 Q q => by
  have e1 : v = V.int (n : Int) := r1
  subst e1
  obtain ⟨p, vs, rfl, h1, h2⟩ := r2
  obtain ⟨z1, z2⟩ := inV_nat (n := n) h2
  exact ⟨p, vs, rfl, .inl (.inl (.inl (s _ _ h1))), rfl, z2, q _ G H (Step.refl s) (by rw [z1]; rfl)⟩
theorem r_inT {n : Nat} {xs : List Nat} {K : PySem.W.Frag} {neg : Bool} : R2T (rIn K neg) ⟨n⟩ ⟨(⟨xs⟩ : Tp Nat)⟩ ⟨if neg then !decide (n ∈ xs) else decide (n ∈ xs)⟩ := fun G H v w s r1 r2 Q q => by
  have e1 : v = V.int (n : Int) := r1
  subst e1
  obtain ⟨p, vs, rfl, h1, h2⟩ := r2
  obtain ⟨z1, z2⟩ := inV_nat (n := n) h2
  exact ⟨p, vs, rfl, .inr (.inl (.inl (s _ _ h1))), rfl, z2, q _ G H (Step.refl s) (by rw [z1]; rfl)⟩
theorem t_inL {n : Nat} {xs : List Nat} (ha : EJ X a Γ Γ1 ⟨n⟩) (hb : EJ X b Γ1 Γ2 ⟨xs⟩) (hm : behindInMarks .In b = false := by rfl) : TJ X (.Compare a [.In] [b] pos) Γ Γ2 (decide (n ∈ xs)) := t_cmp op_in_seq ha hb r_inL hm
theorem t_notInL {n : Nat} {xs : List Nat} (ha : EJ X a Γ Γ1 ⟨n⟩) (hb : EJ X b Γ1 Γ2 ⟨xs⟩) (hm : behindInMarks .NotIn b = false := by rfl) : TJ X (.Compare a [.NotIn] [b] pos) Γ Γ2 (!decide (n ∈ xs)) := t_cmp op_notIn_seq ha hb r_inL hm
theorem t_inT {n : Nat} {xs : List Nat} (ha : EJ X a Γ Γ1 ⟨n⟩) (hb : EJ X b Γ1 Γ2 ⟨(⟨xs⟩ : Tp Nat)⟩) (hm : behindInMarks .In b = false := by rfl) : TJ X (.Compare a [.In] [b] pos) Γ Γ2 (decide (n ∈ xs)) := t_cmp op_in_seq ha hb r_inT hm
theorem e_noneNotIn {xs : List (Option Nat)} {j : Nat} (hb : EJ X b Γ Γ2 ⟨xs⟩) (hm : behindInMarks .NotIn b = false := by rfl) : EJ X (.Compare (.Constant .none j p2) [.NotIn] [b] pos) Γ Γ2 ⟨!decide (none ∈ xs)⟩ :=
  e_cmp op_notIn_seq (e_unit (Γ := Γ)) hb (fun G H v w s r1 r2 Q q => by
    have e1 : v = V.non := r1
    subst e1
    obtain ⟨p, vs, rfl, h1, h2⟩ := r2
    obtain ⟨z1, z2⟩ := inV_optN h2
    exact ⟨p, vs, rfl, .inl (.inl (.inl (s _ _ h1))), rfl, z2, q _ G H (Step.refl s) (by rw [z1]; rfl)⟩) hm
/-- == of data -/
theorem r_eqD [DEnc α] {K : PySem.W.Frag} {y z : α} : R2T (rEqD K) ⟨y⟩ ⟨z⟩ ⟨PyData.eqv (enc y) (enc z)⟩ := fun G H v w s r1 r2 Q q =>
  ⟨enc y, enc z, DEnc.dp s r1, DEnc.dp s r2, Bool.and_eq_true_iff.mpr ⟨DEnc.shp y, decide_eq_true (Nat.le_trans (DEnc.dep y) (by decide))⟩, Bool.and_eq_true_iff.mpr ⟨DEnc.shp z, decide_eq_true (Nat.le_trans (DEnc.dep z) (by decide))⟩, q _ G H (Step.refl s) rfl⟩
theorem r_neD [DEnc α] {K : PySem.W.Frag} {y z : α} : R2T (rNeD K) ⟨y⟩ ⟨z⟩ ⟨!PyData.eqv (enc y) (enc z)⟩ := fun G H v w s r1 r2 Q q =>
  ⟨enc y, enc z, DEnc.dp s r1, DEnc.dp s r2, Bool.and_eq_true_iff.mpr ⟨DEnc.shp y, decide_eq_true (Nat.le_trans (DEnc.dep y) (by decide))⟩, Bool.and_eq_true_iff.mpr ⟨DEnc.shp z, decide_eq_true (Nat.le_trans (DEnc.dep z) (by decide))⟩, q _ G H (Step.refl s) rfl⟩
theorem eqv_nats : ∀ xs ys : List Nat, PyData.eqvAll (xs.map enc) (ys.map enc) = decide (xs = ys)
  | [], [] => by simp [PyData.eqvAll]
  | [], _ :: _ => by simp [PyData.eqvAll]
  | _ :: _, [] => by simp [PyData.eqvAll]
  | x :: xs, y :: ys => by
    show PyData.eqvAll (enc x :: xs.map enc) (enc y :: ys.map enc) = _
    rw [PyData.eqvAll, eqv_nats xs ys]
    show (PyData.eqv (.int (x : Int)) (.int (y : Int)) && _) = _
    simp only [PyData.eqv]
    by_cases h : x = y
    · subst h
      simp
    · have h2 : ((x : Int) == (y : Int)) = false := by
        rw [beq_eq_false_iff_ne]
        omega
      rw [h2]
      simp [h]
theorem eqv_list (xs ys : List Nat) : PyData.eqv (enc xs) (enc ys) = decide (xs = ys) := by
  show PyData.eqv (.list (xs.map enc)) (.list (ys.map enc)) = _
  simp only [PyData.eqv]
  exact eqv_nats xs ys
theorem eqv_pair (p q : Nat × Nat) : PyData.eqv (enc p) (enc q) = decide (p = q) := by
  show PyData.eqv (.tuple [.int (p.1 : Int), .int (p.2 : Int)]) (.tuple [.int (q.1 : Int), .int (q.2 : Int)]) = _
  simp only [PyData.eqv, PyData.eqvAll]
  obtain ⟨a, b⟩ := p
  obtain ⟨c, d⟩ := q
  by_cases h1 : a = c
  · subst h1
    by_cases h2 : b = d
    · subst h2
      simp
    · have e2 : ((b : Int) == (d : Int)) = false := by
        rw [beq_eq_false_iff_ne]
        omega
      simp [e2, h2]
  · have e1 : ((a : Int) == (c : Int)) = false := by
      rw [beq_eq_false_iff_ne]
      omega
    simp [e1, h1]
section
variable {lv : Nat}
theorem t_eqL {xs ys : List Nat} (hr : Room lv X.A) (ha : EJ X a Γ Γ1 ⟨xs⟩) (hb : EJ X b Γ1 Γ2 ⟨ys⟩) : TJ X (.Compare a [.Eq] [b] pos) Γ Γ2 (decide (xs = ys)) := (t_cmp (op_eqD hr.units) ha hb r_eqD (nomark _)).as (eqv_list xs ys)
theorem e_eqL {xs ys : List Nat} (hr : Room lv X.A) (ha : EJ X a Γ Γ1 ⟨xs⟩) (hb : EJ X b Γ1 Γ2 ⟨ys⟩) : EJ X (.Compare a [.Eq] [b] pos) Γ Γ2 ⟨decide (xs = ys)⟩ := (e_cmp (op_eqD hr.units) ha hb r_eqD (nomark _)).as (by rw [eqv_list])
theorem t_neL {xs ys : List Nat} (hr : Room lv X.A) (ha : EJ X a Γ Γ1 ⟨xs⟩) (hb : EJ X b Γ1 Γ2 ⟨ys⟩) : TJ X (.Compare a [.NotEq] [b] pos) Γ Γ2 (!decide (xs = ys)) := (t_cmp (op_neD hr.units) ha hb r_neD (nomark _)).as (by rw [eqv_list])
theorem t_eqP {y z : Nat × Nat} (hr : Room lv X.A) (ha : EJ X a Γ Γ1 ⟨y⟩) (hb : EJ X b Γ1 Γ2 ⟨z⟩) : TJ X (.Compare a [.Eq] [b] pos) Γ Γ2 (decide (y = z)) := (t_cmp (op_eqD hr.units) ha hb r_eqD (nomark _)).as (eqv_pair y z)
theorem t_neP {y z : Nat × Nat} (hr : Room lv X.A) (ha : EJ X a Γ Γ1 ⟨y⟩) (hb : EJ X b Γ1 Γ2 ⟨z⟩) : TJ X (.Compare a [.NotEq] [b] pos) Γ Γ2 (!decide (y = z)) := (t_cmp (op_neD hr.units) ha hb r_neD (nomark _)).as (by rw [eqv_pair])
/-! ### sorted -/
theorem n_sorted [DEnc α] {xs : List α} (hm : X.mg "sorted" = none) (hr : Room lv X.A) (ha : EJ X a Γ Γ1 ⟨xs⟩) (hg : Gl X "sorted" := by rfl) (he : starEach [a] X.env = [(false, eval a X.env)] := by rfl) : NJ X (.Call (.Name "sorted" p2) [a] [] pos) Γ Γ1 ⟨(⟨srt xs⟩ : Ol α)⟩ :=
  n_bi (cr_sortedD (α := α) hr.units) hm (by decide +kernel) (a_1 ha he) (fun G H vs s r Q q => by
    match vs, r with
    | [v], ⟨r1, _⟩ =>
      obtain ⟨p, ws, rfl, h1, h2⟩ := r1
      exact ⟨p, G, ws, xs, rfl, s, s _ _ h1, h2, fun zs l hl rz => q _ [l] _ (by simp) (one_new hl) (same_new hl) ⟨l, zs, rfl, rfl, upd_same, rz⟩⟩) hg (by decide) (by decide) he rfl
end
theorem perm_srt [DEnc α] (xs : List α) : (srt xs).Perm xs := List.mergeSort_perm _ _
theorem srt_nat (xs : List Nat) : srt xs = xs.mergeSort fun m n => decide (m ≤ n) := by
  unfold srt
  have e := PySem.W.dataLe_int (β := Nat) fun n => (n : Int)
  show xs.mergeSort (PySem.W.dataLe false fun n : Nat => .int (n : Int)) = _
  rw [e]
  congr 1
  funext m n
  by_cases h : m ≤ n
  · rw [decide_eq_true h, decide_eq_true (by omega)]
  · rw [decide_eq_false h, decide_eq_false (by omega)]
/-- the order of pairs -/
def leP (p q : Nat × Nat) : Bool := decide (p.1 < q.1 ∨ (p.1 = q.1 ∧ p.2 ≤ q.2))
theorem srt_pair (xs : List (Nat × Nat)) : srt xs = xs.mergeSort leP := by
  unfold srt
  have e := PySem.W.dataLe_ii (β := Nat × Nat) (fun p => (p.1 : Int)) fun p => (p.2 : Int)
  show xs.mergeSort (PySem.W.dataLe false fun p : Nat × Nat => .tuple [.int (p.1 : Int), .int (p.2 : Int)]) = _
  rw [e]
  congr 1
  funext p q
  unfold leP
  by_cases h : p.1 < q.1 ∨ (p.1 = q.1 ∧ p.2 ≤ q.2)
  · rw [decide_eq_true h, decide_eq_true (by omega)]
  · rw [decide_eq_false h, decide_eq_false (by omega)]
/-! ### sum, all, index, len(set()) -/
theorem reps_ints {G : Hp} : ∀ {vs : List V} {xs : List Nat}, reps G vs xs → vs = (xs.map fun n : Nat => (n : Int)).map V.int
  | _, _, .nil => rfl
  | v :: vs, y :: xs, .cons r t => by
    have e : v = V.int (y : Int) := r
    rw [e, reps_ints t]
    rfl
theorem sum_ints : ∀ xs : List Nat, (xs.map fun n : Nat => (n : Int)).sum = ((xs.sum : Nat) : Int)
  | [] => rfl
  | x :: xs => by
    rw [List.map_cons, List.sum_cons, List.sum_cons, sum_ints xs]
    omega
theorem e_sumN {xs : List Nat} (hm : X.mg "sum" = none) (ha : EJ X a Γ Γ1 ⟨xs⟩) (hg : Gl X "sum" := by rfl) (he : starEach [a] X.env = [(false, eval a X.env)] := by rfl) (hc : X.calm = true := by rfl) : EJ X (.Call (.Name "sum" p2) [a] [] pos) Γ Γ1 ⟨xs.sum⟩ :=
  e_bi (cr_sum hc) hm (by decide +kernel) (a_1 ha he) (fun G H vs s r Q q => by
    match vs, r with
    | [v], ⟨r1, _⟩ =>
      obtain ⟨p, ws, rfl, h1, h2⟩ := r1
      refine ⟨p, xs.map fun n : Nat => (n : Int), rfl, .inl (.inl ?_), q _ G H (Step.refl s) ?_⟩
      · rw [← reps_ints h2]
        exact s _ _ h1
      · show V.int _ = V.int _
        rw [sum_ints]) hg (by decide) (by decide) he rfl
theorem reps_bools {G : Hp} : ∀ {vs : List V} {xs : List Bool}, reps G vs xs → vs = xs.map V.bl
  | _, _, .nil => rfl
  | v :: vs, y :: xs, .cons r t => by
    have e : v = V.bl y := r
    rw [e, reps_bools t]
    rfl
theorem e_all {xs : List Bool} (hm : X.mg "all" = none) (ha : EJ X a Γ Γ1 ⟨xs⟩) (hg : Gl X "all" := by rfl) (he : starEach [a] X.env = [(false, eval a X.env)] := by rfl) (hc : X.calm = true := by rfl) : EJ X (.Call (.Name "all" p2) [a] [] pos) Γ Γ1 ⟨xs.all id⟩ :=
  e_bi (cr_all hc) hm (by decide +kernel) (a_1 ha he) (fun G H vs s r Q q => by
    match vs, r with
    | [v], ⟨r1, _⟩ =>
      obtain ⟨p, ws, rfl, h1, h2⟩ := r1
      refine ⟨p, xs, rfl, .inl (.inl ?_), q _ G H (Step.refl s) rfl⟩
      rw [← reps_bools h2]
      exact s _ _ h1) hg (by decide) (by decide) he rfl
/-- xs.index(y): the first place -/
theorem e_index {xs : List Nat} {y j : Nat} (ha : EJ X a Γ Γ1 ⟨xs⟩) (hb : EJ X b Γ1 Γ2 ⟨y⟩) (hx : xs[j]? = some y) (hno : ∀ m, m < j → xs[m]? ≠ some y)
    (hbase : attributeBase a "index" X.env (eval a X.env) = eval a X.env := by rfl)
    (hfew : ((backTo pos (starEach [b] X.env)).all (fun x => !x.1) && (backToKw pos (keywordEach [] X.env)).all (fun x => x.1.isSome) && decide ([b].length + ([] : List Keyword).length + (if ([] : List Keyword).isEmpty then 0 else 1) < 30)) = true := by rfl)
    (hline : (apos.endLine == pos.line) = true := by rfl) (hs : starEach [b] X.env = [(false, eval b X.env)] := by rfl) : EJ X (.Call (.Attribute a "index" apos) [b] [] pos) Γ Γ2 ⟨j⟩ :=
  .of (pe_bm PySem.F.plainAttrs_list PySem.F.slot_list_index PySem.F.type_list_index mt_index pe_tE pa_tA hbase hfew hline hs rfl) fun B σ G H f Q q => ha B σ G H f _ fun v G1 H1 f1 s1 r1 => by
    obtain ⟨p, vs, rfl, h1, h2⟩ := r1
    refine ⟨.inl ⟨rfl, _, .inl (.inl (f1.sub _ _ h1))⟩, a_1 hb hs B σ G1 H1 f1 _ fun ws G2 H2 f2 s2 r2 => ?_⟩
    match ws, r2 with
    | [w], ⟨r2, _⟩ =>
      have e4 : w = V.int (y : Int) := r2
      subst e4
      refine ⟨p, vs, .int (y : Int), j, .int (y : Int), rfl, rfl, .inl (.inl (f2.sub _ _ (s2 _ _ h1))), rfl, (inV_nat (n := 0) h2).2, ?_, ?_, fun m z' hm hz => ?_, q _ G2 H2 f2 (s1.trans s2) rfl⟩
      · obtain ⟨u, hu, ru⟩ := pr_get h2 hx
        have e5 : u = V.int (y : Int) := ru
        rw [hu, e5]
      · simp [eqV]
      · obtain ⟨t, ht, rt⟩ := pr_get' h2 hz
        have e5 : z' = V.int (t : Int) := rt
        subst e5
        have ne : t ≠ y := fun e => hno m hm (by rw [ht, e])
        show ((t : Int) == (y : Int)) = false
        rw [beq_eq_false_iff_ne]
        omega
/-- len(set(xs)) where no item is there twice -/
theorem e_lenSet {xs : List Nat} (hm : X.mg "len" = none) (hm2 : X.mg "set" = none) (ha : EJ X a Γ Γ1 ⟨xs⟩) (hn : xs.Nodup) (hl : xs.length ≤ 4000) (hg : Gl X "len" := by rfl) (hg2 : Gl X "set" := by rfl) (hc : X.calm = true := by rfl) (na : starEach [a] X.env = (false, eval a X.env) :: starEach [] X.env := by rfl) :
    EJ X (.Call (.Name "len" p2) [.Call (.Name "set" p3) [a] [] pos'] [] pos) Γ Γ1 ⟨xs.length⟩ :=
  .of (RZ.pe_lenSetI hg hm hg2 hm2 pe_tE hc na) fun B σ G H f Q q => ha B σ G H f _ fun v G1 H1 f1 s1 r1 => by
    obtain ⟨p, vs, rfl, h1, h2⟩ := r1
    refine ⟨p, xs.map fun n : Nat => (n : Int), rfl, .inl (.inl ?_), ?_, by rw [List.length_map]; exact hl, q _ G1 H1 f1 s1 ?_⟩
    · rw [← reps_ints h2]
      exact f1.sub _ _ h1
    · rw [List.Nodup, List.pairwise_map]
      exact hn.imp fun h => by omega
    · show V.int _ = V.int _
      rw [List.length_map]
end
end Ty

namespace Ty
open PySem PySem.Spec PyProof.Rows L2 Ty.Enc
/-! ### dicts -/
/-- data that stand as such a key -/
class KeyE (κ : Type) [Enc κ] [KeyT κ] : Prop where
  to : ∀ {G : Hp} {v : V} {k : κ}, rep G v k → ∃ b, v = .ref b ∧ G b = some (.tup ((KeyT.key k).map kV))
  of : ∀ {G : Hp} {b : Addr} {k : κ}, G b = some (.tup ((KeyT.key k).map kV)) → rep G (.ref b) k
instance : KeyE (Nat × Nat) where
  to := fun r => by
    obtain ⟨a, x, y, e, h1, h2, h3⟩ := r
    have e2 : x = V.int _ := h2
    have e3 : y = V.int _ := h3
    subst e2 e3
    exact ⟨a, e, h1⟩
  of := fun {G b k} h => ⟨b, _, _, rfl, h, rfl, rfl⟩
theorem keys_ints {G : Hp} : ∀ {vs : List V} {xs : List Nat}, reps G vs xs → vs = (xs.map fun n : Nat => (Sum.inl (n : Int) : Key)).map kV
  | _, _, .nil => rfl
  | v :: vs, y :: xs, .cons r t => by
    have e : v = V.int (y : Int) := r
    rw [e, keys_ints t]
    rfl
theorem reps_keys {G : Hp} : ∀ xs : List Nat, reps G ((xs.map fun n : Nat => (Sum.inl (n : Int) : Key)).map kV) xs
  | [] => .nil
  | x :: xs => .cons rfl (reps_keys xs)
instance : KeyE (Tp Nat) where
  to := fun {G v k} r => by
    obtain ⟨a, vs, e, h1, h2⟩ := r
    refine ⟨a, e, ?_⟩
    rw [h1, keys_ints h2]
    rfl
  of := fun {G b k} h => ⟨b, _, rfl, h, reps_keys k.l⟩
/-- what a list of pairs holds at a key: the first -/
def look {κ β : Type} [DecidableEq κ] (l : List (κ × β)) (k : κ) : Option β := (l.find? fun p => decide (p.1 = k)).map (·.2)
theorem look_cons {κ β : Type} [DecidableEq κ] (p : κ × β) (l : List (κ × β)) (k : κ) : look (p :: l) k = if p.1 = k then some p.2 else look l k := by
  unfold look
  rw [List.find?_cons]
  by_cases h : p.1 = k
  · rw [decide_eq_true h, if_pos h] <;> rfl
  · rw [decide_eq_false h, if_neg h]
theorem look_mem {κ β : Type} [DecidableEq κ] : ∀ {l : List (κ × β)} {k : κ} {y : β}, look l k = some y → (k, y) ∈ l
  | p :: l, k, y, h => by
    rw [look_cons] at h
    by_cases e : p.1 = k
    · rw [if_pos e] at h
      have e2 := Option.some.inj h
      rw [← e, ← e2]
      exact List.mem_cons_self ..
    · rw [if_neg e] at h
      exact List.mem_cons_of_mem _ (look_mem h)
theorem look_some {κ β : Type} [DecidableEq κ] : ∀ {l : List (κ × β)} {k : κ}, (look l k).isSome = decide (k ∈ l.map (·.1))
  | [], k => by simp [look]
  | p :: l, k => by
    rw [look_cons]
    by_cases e : p.1 = k
    · rw [if_pos e]
      simp [e]
    · rw [if_neg e, look_some]
      simp [Ne.symm e]
theorem look_of {κ β : Type} [DecidableEq κ] : ∀ {l : List (κ × β)} {k : κ} {y : β}, (l.map (·.1)).Nodup → (k, y) ∈ l → look l k = some y
  | p :: l, k, y, nd, h => by
    rw [look_cons]
    rw [List.map_cons, List.nodup_cons] at nd
    rcases List.mem_cons.mp h with e | h
    · rw [if_pos (by rw [← e]), ← e]
    · rw [if_neg, look_of nd.2 h]
      intro e
      exact nd.1 (List.mem_map.mpr ⟨_, h, e.symm⟩)
theorem valV_look {κ β : Type} [KeyT κ] [DecidableEq κ] [Enc β] {H : Hp} : ∀ {kvs : List (List Key × V)} {l : List (κ × β)} (k : κ), repDT H kvs l → (∀ y, look l k = some y → ∃ v, valV kvs (KeyT.key k) = some v ∧ rep H v y) ∧ (look l k = none → valV kvs (KeyT.key k) = none)
  | _, _, k, .nil => ⟨(fun y h => by cases h), fun _ => rfl⟩
  | p :: kvs, q :: l, k, .cons r t => by
    obtain ⟨h1, h2⟩ := valV_look k t
    rw [look_cons]
    by_cases e : q.1 = k
    · rw [if_pos e]
      refine ⟨fun y hy => ?_, fun z => by cases z⟩
      have e2 := Option.some.inj hy
      refine ⟨p.2, ?_, by rw [← e2]; exact r.2⟩
      exact valV_pos (by rw [r.1, e])
    · rw [if_neg e]
      have ne : ¬ p.1 = KeyT.key k := fun z => e (KeyT.inj (r.1.symm.trans z))
      rw [valV_neg ne]
      exact ⟨h1, h2⟩
theorem valI_look {β : Type} [Enc β] {H : Hp} : ∀ {kvs : List (Key × V)} {l : List (Nat × β)} (k : Nat), repDI H kvs l → (∀ y, look l k = some y → ∃ v, valV kvs (Sum.inl (k : Int)) = some v ∧ rep H v y) ∧ (look l k = none → valV kvs (Sum.inl (k : Int)) = none)
  | _, _, k, .nil => ⟨(fun y h => by cases h), fun _ => rfl⟩
  | p :: kvs, q :: l, k, .cons r t => by
    obtain ⟨h1, h2⟩ := valI_look k t
    rw [look_cons]
    by_cases e : q.1 = k
    · rw [if_pos e]
      refine ⟨fun y hy => ?_, fun z => by cases z⟩
      have e2 := Option.some.inj hy
      refine ⟨p.2, ?_, by rw [← e2]; exact r.2⟩
      exact valV_pos (by rw [r.1, e])
    · rw [if_neg e]
      have ne : ¬ p.1 = Sum.inl (k : Int) := fun z => e (by
        have z2 := r.1.symm.trans z
        have z3 := Sum.inl.inj z2
        omega)
      rw [valV_neg ne]
      exact ⟨h1, h2⟩
theorem isSome_of {γ δ : Type} {o : Option γ} {p : Option δ} (h1 : ∀ y, o = some y → ∃ v, p = some v) (h2 : o = none → p = none) : p.isSome = o.isSome := by
  cases o with
  | none => rw [h2 rfl] <;> rfl
  | some y =>
    obtain ⟨v, hv⟩ := h1 y rfl
    rw [hv] <;> rfl
/-- the list of pairs with a value stored at a key -/
def putL {κ β : Type} [DecidableEq κ] (l : List (κ × β)) (k : κ) (y : β) : List (κ × β) := if (look l k).isSome then l.map fun p => if p.1 = k then (p.1, y) else p else l ++ [(k, y)]
theorem putL_keys {κ β : Type} [DecidableEq κ] (l : List (κ × β)) (k : κ) (y : β) : (putL l k y).map (·.1) = if k ∈ l.map (·.1) then l.map (·.1) else l.map (·.1) ++ [k] := by
  unfold putL
  rw [look_some]
  by_cases h : k ∈ l.map (·.1)
  · rw [decide_eq_true h, if_pos rfl, if_pos h, List.map_map]
    congr 1
    funext p
    show (if p.1 = k then (p.1, y) else p).1 = p.1
    split <;> rfl
  · rw [decide_eq_false h, if_neg Bool.false_ne_true, if_neg h, List.map_append]
    rfl
theorem look_put {κ β : Type} [DecidableEq κ] (l : List (κ × β)) (k : κ) (y : β) (j : κ) : look (putL l k y) j = if j = k then some y else look l j := by
  unfold putL
  by_cases h : (look l k).isSome
  · rw [if_pos h]
    have g : ∀ l : List (κ × β), look (l.map fun p => if p.1 = k then (p.1, y) else p) j = if j = k then (look l k).map (fun _ => y) else look l j := fun l => by
      induction l with
      | nil => simp [look]
      | cons p l ih =>
        rw [List.map_cons, look_cons, look_cons, look_cons, ih]
        by_cases h1 : p.1 = k
        · rw [if_pos h1, if_pos h1]
          by_cases h2 : j = k
          · rw [if_pos (show (p.1, y).1 = j by rw [h2]; exact h1), if_pos h2]
            rfl
          · rw [if_neg h2, if_neg h2, if_neg (fun z => h2 (z.symm.trans h1)), if_neg (fun z => h2 (z.symm.trans h1))]
        · rw [if_neg h1, if_neg h1]
          by_cases h2 : j = k
          · rw [if_pos h2, if_pos h2, if_neg (fun z => h1 (z.trans h2))]
          · rw [if_neg h2, if_neg h2]
    rw [g]
    by_cases h2 : j = k
    · rw [if_pos h2, if_pos h2]
      obtain ⟨z, hz⟩ := Option.isSome_iff_exists.mp h
      rw [hz]
      rfl
    · rw [if_neg h2, if_neg h2]
  · rw [if_neg h]
    have g : ∀ l : List (κ × β), look (l ++ [(k, y)]) j = (look l j).or (if k = j then some y else none) := fun l => by
      induction l with
      | nil =>
        rw [List.nil_append, look_cons]
        rfl
      | cons p l ih =>
        rw [List.cons_append, look_cons, look_cons, ih]
        split <;> rfl
    rw [g]
    have hn : look l k = none := by
      cases e : look l k with
      | none => rfl
      | some z =>
        rw [e] at h
        exact absurd rfl h
    by_cases h2 : j = k
    · subst h2
      rw [if_pos rfl, if_pos rfl, hn]
      rfl
    · rw [if_neg h2, if_neg (Ne.symm h2)]
      cases look l j <;> rfl
theorem repDT_put {κ β : Type} [KeyT κ] [DecidableEq κ] [Enc β] {H : Hp} {kvs : List (List Key × V)} {l : List (κ × β)} (k : κ) {v : V} {y : β} (r : repDT H kvs l) (ry : rep H v y) : repDT H (putK kvs (KeyT.key k) v) (putL l k y) := by
  obtain ⟨h1, h2⟩ := valV_look k r
  have e : (valV kvs (KeyT.key k)).isSome = (look l k).isSome := isSome_of (fun y hy => (h1 y hy).imp fun _ z => z.1) h2
  unfold putK putL
  rw [valV_any, e]
  split
  · refine pr_map (fun p q hpq => ?_) r
    by_cases h : q.1 = k
    · rw [if_pos h, if_pos (by rw [hpq.1, h])]
      exact ⟨hpq.1, ry⟩
    · rw [if_neg h, if_neg (fun z => h (KeyT.inj (hpq.1.symm.trans z)))]
      exact hpq
  · exact pr_app r (.cons ⟨rfl, ry⟩ .nil)
theorem putL_len {κ β : Type} [DecidableEq κ] (l : List (κ × β)) (k : κ) (y : β) : (putL l k y).length ≤ l.length + 1 := by
  unfold putL
  split
  · rw [List.length_map]
    omega
  · rw [List.length_append]
    exact Nat.le_refl _
open Classical in
/-- all tuples are let stand -/
noncomputable def addT (G H : Hp) : Hp := fun a => match G a with
  | some o => some o
  | none => if ∃ xs, H a = some (.tup xs) then H a else none
theorem addT_g {G H : Hp} {a : Addr} {o : HO} (h : G a = some o) : addT G H a = some o := by
  unfold addT
  rw [h]
open Classical in
theorem addT_t {G H : Hp} (s : Same G H) {a : Addr} {xs : List V} (h : H a = some (.tup xs)) : addT G H a = some (.tup xs) := by
  cases e : G a with
  | some o =>
    rw [addT_g e, ← s a o e, h]
  | none =>
    unfold addT
    rw [e]
    show (if ∃ xs, H a = some (.tup xs) then H a else none) = _
    rw [if_pos ⟨xs, h⟩, h]
open Classical in
theorem addT_n {G H : Hp} {a : Addr} (h : G a = none) (h' : addT G H a ≠ none) : ∃ xs, H a = some (.tup xs) := by
  unfold addT at h'
  rw [h] at h'
  by_cases e : ∃ xs, H a = some (.tup xs)
  · exact e
  · exact absurd (if_neg e) h'
theorem step_addT {G H : Hp} (s : Same G H) : Step G H (addT G H) H :=
  ⟨fun a o h => addT_g h, Same.refl _, fun a o h => by
    cases e : G a with
    | some u =>
      rw [addT_g e] at h
      rw [← h]
      exact s a u e
    | none =>
      obtain ⟨xs, hx⟩ := addT_n e (by rw [h]; exact fun z => nomatch z)
      rw [addT_t s hx] at h
      rw [hx]
      exact h, fun a h h' => .inr (addT_n h h')⟩
theorem reps_addT {κ : Type} [Enc κ] [KeyT κ] [KeyE κ] {G H : Hp} (s : Same G H) {ws : List V} {ks : List κ} (h : reps H ws ks) : reps (addT G H) ws ks := pr_mono (fun v k r => by
  obtain ⟨b, rfl, h1⟩ := KeyE.to r
  exact KeyE.of (addT_t s h1)) h
section
variable {X : Cx} {e a b c o : Expr} {es : List Expr} {Γ Γ1 Γ2 Γ3 Γ4 Γ' : Env'} {d d1 d2 d3 d4 : Dyn} {te ta tb : TE} {p2 p3 apos pos pos' : Pos} {k : Bool} {r : R2} {D : TD} {x : Str} {ds : List Dyn} {lv : Nat} {β : Type} [Enc β] {κ : Type} [Enc κ] [KeyT κ] [KeyE κ] [DecidableEq κ]
theorem hu2 (hr : Room lv X.A) : X.A.units + 2 < cLine := by
  have h := hr.units
  omega
/-- dict(l): pairs of keys and values, no key twice; as a thing of one's own -/
theorem n_dictT {l : List (κ × β)} (hm : X.mg "dict" = none) (hr : Room lv X.A) (ha : EJ X a Γ Γ1 ⟨l⟩) (nd : (l.map (·.1)).Nodup) (hg : Gl X "dict" := by rfl) (he : starEach [a] X.env = [(false, eval a X.env)] := by rfl) (hc : X.calm = true := by rfl) :
    NJ X (.Call (.Name "dict" p2) [a] [] pos) Γ Γ1 ⟨(⟨l⟩ : Od κ β)⟩ :=
  n_ty (call_dictT hc (hu2 hr)) hm (by decide +kernel) (a_1 ha he) (fun G H vs s r Q q => by
    match vs, r with
    | [v], ⟨r1, _⟩ =>
      obtain ⟨p, ws, rfl, h1, h2⟩ := r1
      -- the pairs' addresses, keys and values
      have g : ∀ {ws : List V} {l : List (κ × β)}, reps G ws l → ∃ (ps : List Addr) (es : List (List Key × Addr × V)), ws = ps.map V.ref ∧ PairsT X.K H ps es ∧ es.map (·.1) = l.map (fun p => KeyT.key p.1) ∧ Paired (fun (p : List Key × V) (q : κ × β) => p.1 = KeyT.key q.1 ∧ rep G p.2 q.2) (es.map fun e => (e.1, e.2.2)) l := by
        intro ws l h
        induction h with
        | nil => exact ⟨[], [], rfl, .nil, rfl, .nil⟩
        | @cons w y ws l h t ih =>
          obtain ⟨ps, es, e1, h2, h3, h4⟩ := ih
          obtain ⟨q, u, z, rfl, f1, f2, f3⟩ := h
          obtain ⟨b, rfl, f4⟩ := KeyE.to f2
          exact ⟨q :: ps, (KeyT.key y.1, b, z) :: es, by rw [e1]; rfl, .cons ⟨.inl (.inl (s _ _ f1)), s _ _ f4⟩ h2, by rw [List.map_cons, h3]; rfl, .cons ⟨rfl, f3⟩ h4⟩
      obtain ⟨ps, es, e1, f1, f2, f3⟩ := g h2
      subst e1
      refine ⟨p, ps, es, rfl, .inl (.inl (s _ _ h1)), f1, ?_, fun D hD => q _ [D] _ (by simp) (one_new hD nt_dT) (same_new hD) ⟨D, _, rfl, rfl, upd_same, f3⟩⟩
      rw [f2]
      have e2 : l.map (fun p => KeyT.key p.1) = (l.map (·.1)).map KeyT.key := by rw [List.map_map]; rfl
      rw [e2, List.Nodup, List.pairwise_map]
      exact List.Pairwise.imp (fun h z => h (KeyT.inj z)) nd) hg (by decide) (by decide) he rfl
/-- a dict of one's own is let stand from now on -/
theorem NJ.fzD {l : List (κ × β)} (h : NJ X e Γ Γ' ⟨(⟨l⟩ : Od κ β)⟩) : EJ X e Γ Γ' ⟨(⟨l⟩ : DT κ β)⟩ := fun B σ G H f Q q => h B σ G H f Q fun v ps G' H1 H' f1 s nd n sm r => by
  obtain ⟨p, vs, rfl, rfl, hp, rs⟩ := r
  have h1 := (n p (by simp)).1
  have st : Step G' H1 (upd G' p (.dT vs)) H' := ⟨same_new (none_of f1.sub h1), sm, fun a o e1 => by
    by_cases ha : a = p
    · subst ha
      rw [upd_same] at e1
      rw [hp]
      exact e1
    · rw [upd_ne ha] at e1
      exact sm _ _ (f1.sub _ _ e1), fun a e1 e2 => by
    by_cases ha : a = p
    · subst ha
      exact .inl h1
    · rw [upd_ne ha] at e2
      exact absurd e1 e2⟩
  exact q _ _ _ (f1.step st) (s.trans st.g) ⟨p, vs, rfl, upd_same, pr_mono (fun _ _ r => ⟨r.1, mono st.g r.2⟩) rs⟩
/-- {} whose keys will be tuples -/
theorem n_dnewT : NJ X (.Dict [] [] pos) Γ Γ ⟨(⟨[]⟩ : Od κ β)⟩ := .of pe_dnewT fun B σ G H f Q q p hp => q (.ref p) [p] G H _ f (Same.refl _) (by simp) (one_new hp nt_dT) (same_new hp) ⟨p, [], rfl, rfl, upd_same, .nil⟩
/-- d[b] -/
theorem e_dget {l : List (κ × β)} {j : κ} {y : β} (hr : Room lv X.A) (ha : EJ X a Γ Γ1 ⟨(⟨l⟩ : DT κ β)⟩) (hb : EJ X b Γ1 Γ2 ⟨j⟩) (hy : look l j = some y) (hs : NoSl b := by intro _ _; rfl) : EJ X (.Subscript a b pos) Γ Γ2 ⟨y⟩ :=
  .of (pe_dget (hu_of hr) pe_tE pe_tE hs) fun B σ G H f Q q => ha B σ G H f _ fun v G1 H1 f1 s1 r1 => hb B σ G1 H1 f1 _ fun w G2 H2 f2 s2 r2 => by
    obtain ⟨p, kvs, rfl, h1, h2⟩ := r1.mono s2
    obtain ⟨t, rfl, h3⟩ := KeyE.to r2
    obtain ⟨u, hu, ru⟩ := (valV_look j h2).1 y hy
    refine ⟨p, u, rfl, ?_, q u G2 H2 f2 (s1.trans s2) ru⟩
    rw [← hu]
    exact DGet.t (f2.sub _ _ h1) (f2.sub _ _ h3)
theorem t_din {l : List (κ × β)} {j : κ} (hr : Room lv X.A) (hb : EJ X b Γ Γ1 ⟨j⟩) (ha : EJ X a Γ1 Γ2 ⟨(⟨l⟩ : DT κ β)⟩) (hm : behindInMarks .In a = false := by rfl) : TJ X (.Compare b [.In] [a] pos) Γ Γ2 (decide (j ∈ l.map (·.1))) :=
  .of (pt_cmp (pc_din (hu_of hr) pe_tE pe_tE) hm) fun B σ G H f Q q => hb B σ G H f _ fun v G1 H1 f1 s1 r1 => ha B σ G1 H1 f1 _ fun w G2 H2 f2 s2 r2 => by
    obtain ⟨p, kvs, rfl, h1, h2⟩ := r2
    obtain ⟨t, rfl, h3⟩ := KeyE.to (r1.mono s2)
    obtain ⟨z1, z2⟩ := valV_look j h2
    refine ⟨p, _, rfl, DGet.t (f2.sub _ _ h1) (f2.sub _ _ h3), _, rfl, ?_⟩
    rw [isSome_of (fun y hy => (z1 y hy).imp fun _ z => z.1) z2, look_some]
    exact q G2 H2 f2 (s1.trans s2)
theorem e_din {l : List (κ × β)} {j : κ} (hr : Room lv X.A) (hb : EJ X b Γ Γ1 ⟨j⟩) (ha : EJ X a Γ1 Γ2 ⟨(⟨l⟩ : DT κ β)⟩) (hm : behindInMarks .In a = false := by rfl) : EJ X (.Compare b [.In] [a] pos) Γ Γ2 ⟨decide (j ∈ l.map (·.1))⟩ :=
  .of (pe_cmp (pc_din (hu_of hr) pe_tE pe_tE) hm) fun B σ G H f Q q => hb B σ G H f _ fun v G1 H1 f1 s1 r1 => ha B σ G1 H1 f1 _ fun w G2 H2 f2 s2 r2 => by
    obtain ⟨p, kvs, rfl, h1, h2⟩ := r2
    obtain ⟨t, rfl, h3⟩ := KeyE.to (r1.mono s2)
    obtain ⟨z1, z2⟩ := valV_look j h2
    refine ⟨p, _, rfl, DGet.t (f2.sub _ _ h1) (f2.sub _ _ h3), ?_⟩
    rw [isSome_of (fun y hy => (z1 y hy).imp fun _ z => z.1) z2, look_some]
    exact q _ G2 H2 f2 (s1.trans s2) rfl
theorem t_dnotin {l : List (κ × β)} {j : κ} (hr : Room lv X.A) (hb : EJ X b Γ Γ1 ⟨j⟩) (ha : EJ X a Γ1 Γ2 ⟨(⟨l⟩ : DT κ β)⟩) (hm : behindInMarks .NotIn a = false := by rfl) : TJ X (.Compare b [.NotIn] [a] pos) Γ Γ2 (!decide (j ∈ l.map (·.1))) :=
  .of (pt_cmp (pc_dnotin (hu_of hr) pe_tE pe_tE) hm) fun B σ G H f Q q => hb B σ G H f _ fun v G1 H1 f1 s1 r1 => ha B σ G1 H1 f1 _ fun w G2 H2 f2 s2 r2 => by
    obtain ⟨p, kvs, rfl, h1, h2⟩ := r2
    obtain ⟨t, rfl, h3⟩ := KeyE.to (r1.mono s2)
    obtain ⟨z1, z2⟩ := valV_look j h2
    refine ⟨p, _, rfl, DGet.t (f2.sub _ _ h1) (f2.sub _ _ h3), _, rfl, ?_⟩
    rw [isSome_of (fun y hy => (z1 y hy).imp fun _ z => z.1) z2, look_some]
    exact q G2 H2 f2 (s1.trans s2)
/-! with whole numbers as keys -/
theorem e_dgetI {l : List (Nat × β)} {j : Nat} {y : β} (hr : Room lv X.A) (ha : EJ X a Γ Γ1 ⟨(⟨l⟩ : DI β)⟩) (hb : EJ X b Γ1 Γ2 ⟨j⟩) (hy : look l j = some y) (hs : NoSl b := by intro _ _; rfl) : EJ X (.Subscript a b pos) Γ Γ2 ⟨y⟩ :=
  .of (pe_dget (hu_of hr) pe_tE pe_tE hs) fun B σ G H f Q q => ha B σ G H f _ fun v G1 H1 f1 s1 r1 => hb B σ G1 H1 f1 _ fun w G2 H2 f2 s2 r2 => by
    obtain ⟨p, kvs, rfl, h1, h2⟩ := r1.mono s2
    have e2 : w = V.int (j : Int) := r2
    subst e2
    obtain ⟨u, hu, ru⟩ := (valI_look j h2).1 y hy
    refine ⟨p, u, rfl, ?_, q u G2 H2 f2 (s1.trans s2) ru⟩
    rw [← hu]
    exact DGet.k (k := Sum.inl (j : Int)) (f2.sub _ _ h1)
theorem t_dinI {l : List (Nat × β)} {j : Nat} (hr : Room lv X.A) (hb : EJ X b Γ Γ1 ⟨j⟩) (ha : EJ X a Γ1 Γ2 ⟨(⟨l⟩ : DI β)⟩) (hm : behindInMarks .In a = false := by rfl) : TJ X (.Compare b [.In] [a] pos) Γ Γ2 (decide (j ∈ l.map (·.1))) :=
  .of (pt_cmp (pc_din (hu_of hr) pe_tE pe_tE) hm) fun B σ G H f Q q => hb B σ G H f _ fun v G1 H1 f1 s1 r1 => ha B σ G1 H1 f1 _ fun w G2 H2 f2 s2 r2 => by
    obtain ⟨p, kvs, rfl, h1, h2⟩ := r2
    have e2 : v = V.int (j : Int) := r1
    subst e2
    obtain ⟨z1, z2⟩ := valI_look j h2
    refine ⟨p, _, rfl, DGet.k (k := Sum.inl (j : Int)) (f2.sub _ _ h1), _, rfl, ?_⟩
    rw [isSome_of (fun y hy => (z1 y hy).imp fun _ z => z.1) z2, look_some]
    exact q G2 H2 f2 (s1.trans s2)
theorem mergeK_nodup : ∀ {kvs acc : List (Key × V)}, ((acc ++ kvs).map (·.1)).Nodup → mergeK acc kvs = acc ++ kvs
  | [], acc, _ => by rw [List.append_nil]; rfl
  | kv :: kvs, acc, nd => by
    have e1 : mergeK acc (kv :: kvs) = mergeK (putK acc kv.1 kv.2) kvs := rfl
    have hn : kv.1 ∉ acc.map (·.1) := fun h => by
      rw [List.map_append, List.map_cons, List.nodup_append] at nd
      exact nd.2.2 _ h _ (List.mem_cons_self ..) rfl
    have e2 : putK acc kv.1 kv.2 = acc ++ [kv] := by
      unfold putK
      have e3 : (acc.any fun p => decide (p.1 = kv.1)) = false := by
        rw [List.any_eq_false]
        intro p hp z
        exact hn (List.mem_map.mpr ⟨p, hp, of_decide_eq_true z⟩)
      rw [e3]
      exact if_neg (by decide)
    rw [e1, e2, mergeK_nodup (by rw [List.append_assoc]; exact nd), List.append_assoc]
    rfl
theorem e_dictI {l : List (Nat × β)} (hm : X.mg "dict" = none) (ha : EJ X a Γ Γ1 ⟨l⟩) (nd : (l.map (·.1)).Nodup) (hg : Gl X "dict" := by rfl) (he : starEach [a] X.env = [(false, eval a X.env)] := by rfl) (hc : X.calm = true := by rfl) :
    EJ X (.Call (.Name "dict" p2) [a] [] pos) Γ Γ1 ⟨(⟨l⟩ : DI β)⟩ :=
  e_ty (call_dictP hc) hm (by decide +kernel) (a_1 ha he) (fun G H vs s r Q q => by
    match vs, r with
    | [v], ⟨r1, _⟩ =>
      obtain ⟨p, ws, rfl, h1, h2⟩ := r1
      have g : ∀ {ws : List V} {l : List (Nat × β)}, reps G ws l → ∃ (ps : List Addr) (kvs : List (Key × V)), ws = ps.map V.ref ∧ Paired (fun p kv => SqT X.K H p [kV kv.1, kv.2]) ps kvs ∧ kvs.map (·.1) = l.map (fun p => (Sum.inl (p.1 : Int) : Key)) ∧ repDI G kvs l := by
        intro ws l h
        induction h with
        | nil => exact ⟨[], [], rfl, .nil, rfl, .nil⟩
        | @cons w y ws l h t ih =>
          obtain ⟨ps, es, e1, h2, h3, h4⟩ := ih
          obtain ⟨q, u, z, rfl, f1, f2, f3⟩ := h
          have e5 : u = V.int (y.1 : Int) := f2
          subst e5
          exact ⟨q :: ps, (Sum.inl (y.1 : Int), z) :: es, by rw [e1]; rfl, .cons (.inl (.inl (s _ _ f1))) h2, by rw [List.map_cons, h3]; rfl, .cons ⟨rfl, f3⟩ h4⟩
      obtain ⟨ps, kvs, e1, f1, f2, f3⟩ := g h2
      subst e1
      have ndk : (kvs.map (·.1)).Nodup := by
        rw [f2]
        have e2 : l.map (fun p => (Sum.inl (p.1 : Int) : Key)) = (l.map (·.1)).map (fun n : Nat => (Sum.inl (n : Int) : Key)) := by rw [List.map_map]; rfl
        rw [e2, List.Nodup, List.pairwise_map]
        exact List.Pairwise.imp (fun h z => h (by
          have z2 := Sum.inl.inj z
          omega)) nd
      refine ⟨p, ps, kvs, rfl, .inl (.inl (s _ _ h1)), f1, fun D hD => ?_⟩
      have st := Step.new (o := .dK kvs) s hD
      have em : mergeK [] kvs = kvs := mergeK_nodup (acc := []) (by rw [List.nil_append]; exact ndk)
      rw [em]
      exact q _ _ _ st ⟨D, kvs, rfl, upd_same, pr_mono (fun _ _ r => ⟨r.1, mono st.g r.2⟩) f3⟩) hg (by decide) (by decide) he rfl
/-! ### dicts of one's own -/
theorem own_d {B : Hp × Hp} {σ : Sg} {G H : Hp} {i : Nat} {ps : List Addr} {l : List (κ × β)} (f : Fits B Γ σ G H) (h : Γ[i]? = some (.own ps ⟨(⟨l⟩ : Od κ β)⟩)) :
    ∃ p kvs, σ[i]? = some (some (.ref p)) ∧ ps = [p] ∧ G p = none ∧ H p = some (.dT kvs) ∧ repDT G kvs l := by
  obtain ⟨v, e1, nd, h1, p, vs, rfl, rfl, h2, h3⟩ := f.ok i _ h
  exact ⟨p, vs, e1, rfl, (h1 p (by simp)).1, h2, h3⟩
theorem e_dgetO (i : Nat) {ps : List Addr} {l : List (κ × β)} {j : κ} {y : β} (hr : Room lv X.A) (hb : EJ X b Γ Γ1 ⟨j⟩) (hy : look l j = some y) (h : Γ[i]? = some (.own ps ⟨(⟨l⟩ : Od κ β)⟩) := by rfl) (h' : Γ1[i]? = some (.own ps ⟨(⟨l⟩ : Od κ β)⟩) := by rfl) (hs : NoSl b := by intro _ _; rfl)
    (hN : X.N[i]? = some x := by rfl) (hv : Vis X.env.scope x := by first | exact Or.inl rfl | exact Or.inr (Or.inl rfl) | exact Or.inr (Or.inr rfl)) (hd : (x == ("__debug__" : Str)) = false := by decide) (hcd : (x == ("__classdict__" : Str)) = false := by decide) : EJ X (.Subscript (.Name x p2) b pos) Γ Γ1 ⟨y⟩ :=
  .of (pe_dget (hu_of hr) (pe_var hN hv hd hcd) pe_tE hs) fun B σ G H f Q q => by
    obtain ⟨p, kvs, e1, rfl, g1, h1, h2⟩ := own_d f h
    refine ⟨_, e1, hb B σ G H f _ fun v G1 H1 f1 s1 r1 => ?_⟩
    obtain ⟨p', kvs', e1', e2', g1', h1', h2'⟩ := own_d f1 h'
    have e3 : p = p' := by simpa using e2'
    subst e3
    obtain ⟨t, rfl, h3⟩ := KeyE.to r1
    obtain ⟨u, hu, ru⟩ := (valV_look j h2').1 y hy
    refine ⟨p, u, rfl, ?_, q u G1 H1 f1 s1 ru⟩
    rw [← hu]
    exact DGet.t h1' (f1.sub _ _ h3)
theorem s_dputO (i : Nat) {ps : List Addr} {l : List (κ × β)} {j : κ} {y : β} (hr : Room lv X.A) (he : EJ X e Γ Γ1 ⟨y⟩) (hb : EJ X b Γ1 Γ2 ⟨j⟩) (hl : l.length < 1000000) (k : D.nx (Γ2.set i (.own ps ⟨(⟨putL l j y⟩ : Od κ β)⟩))) (h : Γ1[i]? = some (.own ps ⟨(⟨l⟩ : Od κ β)⟩) := by rfl) (h' : Γ2[i]? = some (.own ps ⟨(⟨l⟩ : Od κ β)⟩) := by rfl)
    (hN : X.N[i]? = some x := by rfl) (hv : Vis X.env.scope x := by first | exact Or.inl rfl | exact Or.inr (Or.inl rfl) | exact Or.inr (Or.inr rfl)) (hd : (x == ("__debug__" : Str)) = false := by decide) (hcd : (x == ("__classdict__" : Str)) = false := by decide)
    (hs : swapsWith e (some (.Subscript (.Name x p2) b p3)) pos.line X.env = pure false := by rfl) : SJ X (.Assign [.Subscript (.Name x p2) b p3] e pos) Γ D :=
  .of (ps_dput (hu_of hr) (pe_var hN hv hd hcd) pe_tE pe_tE hs) fun B σ G H f E q1 q2 q3 => he B σ G H f _ fun v G1 H1 f1 s1 r1 => by
    obtain ⟨p, kvs, e1, rfl, g1, h1, h2⟩ := own_d f1 h
    refine ⟨_, e1, hb B σ G1 H1 f1 _ fun w G2 H2 f2 s2 r2 => ?_⟩
    obtain ⟨p', kvs', e1', e2', g1', h1', h2'⟩ := own_d f2 h'
    have e3 : p = p' := by simpa using e2'
    subst e3
    obtain ⟨t, rfl, h3⟩ := KeyE.to r2
    refine ⟨p, _, rfl, DPut.t h1' (f2.sub _ _ h3) (by rw [pr_len h2']; exact szlt hl), ?_⟩
    refine q1 σ G2 _ _ (f2.mut (y' := ⟨(⟨putL l j y⟩ : Od κ β)⟩) h' e1' (fun a z1 _ => upd_ne (by simpa using z1)) (by simp) (fun a z1 => ⟨.inl z1, ?_⟩) ⟨p, _, rfl, rfl, upd_same, repDT_put j h2' (mono s2 r1)⟩) k
    have e4 : a = p := by simpa using z1
    subst e4
    exact ⟨_, upd_same, nt_dT⟩
/-- sorted(x), x a dict of one's own: its keys -/
theorem n_sortedO [DEnc κ] (i : Nat) {ps : List Addr} {l : List (κ × β)} (hm : X.mg "sorted" = none) (hr : Room lv X.A) (h : Γ[i]? = some (.own ps ⟨(⟨l⟩ : Od κ β)⟩) := by rfl) (hg : Gl X "sorted" := by rfl) (hc : X.calm = true := by rfl)
    (hN : X.N[i]? = some x := by rfl) (hv : Vis X.env.scope x := by first | exact Or.inl rfl | exact Or.inr (Or.inl rfl) | exact Or.inr (Or.inr rfl)) (hd : (x == ("__debug__" : Str)) = false := by decide) (hcd : (x == ("__classdict__" : Str)) = false := by decide) (he : starEach [.Name x p3] X.env = [(false, eval (.Name x p3) X.env)] := by rfl) :
    NJ X (.Call (.Name "sorted" p2) [.Name x p3] [] pos) Γ Γ ⟨(⟨srt (l.map (·.1))⟩ : Ol κ)⟩ :=
  .of (pe_callB (cr_sortedDT (α := κ) hc hr.units fun H b y e => KeyE.of e) hg hm (by decide +kernel) (pa_cons (pe_var hN hv hd hcd) pa_nil he) (by decide) (by decide) he rfl) fun B σ G H f Q q => by
    obtain ⟨p, kvs, e1, rfl, g1, h1, h2⟩ := own_d f h
    refine ⟨_, e1, p, kvs, l.map (·.1), rfl, h1, ?_, fun ws D hD rw1 => ?_⟩
    · rw [List.map_map]
      have g : ∀ {kvs : List (List Key × V)} {l : List (κ × β)}, repDT G kvs l → kvs.map (·.1) = l.map (KeyT.key ∘ fun x => x.1) := by
        intro kvs l h
        induction h with
        | nil => rfl
        | cons h t ih =>
          rw [List.map_cons, List.map_cons, ih, h.1]
          rfl
      exact g h2
    · -- the keys' tuples are known to H; they are let stand
      have st := step_addT f.sub
      exact q _ [D] _ H _ (f.step st) st.g (by simp) (one_new hD) (same_new hD) ⟨D, ws, rfl, rfl, upd_same, reps_addT f.sub rw1⟩
end
end Ty

namespace Ty
open PySem PySem.Spec PyProof.Rows L2 Ty.Enc
/-! ### targets within a block -/
section
variable {X : Cx} {scope : Scope} {pos p2 py pz : Pos} {α β γ : Type} [Enc α] [Enc β] [Enc γ]
theorem gb_name (nd : X.N.Nodup) (i : Nat) {x : Str} (hi : X.N[i]? = some x := by rfl) (hl : ∀ (s : Shared) (H : Hp) (C : Addr) (cl : List (Str × Addr)) (fp : List Addr), Loc (X.blk s H scope (compEnvC scope cl C X.env) fp).env.scope x := by intro _ _ _ _ _; first | exact Or.inl rfl | exact Or.inr rfl)
    (hf : ∀ (s : Shared) (H : Hp) (C : Addr) (cl : List (Str × Addr)) (fp : List Addr), (X.blk s H scope (compEnvC scope cl C X.env) fp).fn x = true ∨ (X.blk s H scope (compEnvC scope cl C X.env) fp).env.scope.names.lookup x = some .local := by intro _ _ _ _ _; first | exact .inl rfl | exact .inr rfl) : GJb (α := α) X scope (.Name x pos) [i] (fun y Γ => Γ.set i (.fro ⟨y⟩)) :=
  ⟨gName i, fun s H C cl fp => pg_name (X := (X.blk s H scope (compEnvC scope cl C X.env) fp)) nd hi (hl s H C cl fp) (hf s H C cl fp), fun B Γ σ G H v y f r Q q => q [(i, v)] rfl (f.put i r)⟩
theorem gb_pair (nd : X.N.Nodup) (i j : Nat) {x y : Str} {kk : Nat} (hc : X.calm = true := by rfl) (hi : X.N[i]? = some x := by rfl) (hj : X.N[j]? = some y := by rfl) (hl : ∀ (s : Shared) (H : Hp) (C : Addr) (cl : List (Str × Addr)) (fp : List Addr), Loc (X.blk s H scope (compEnvC scope cl C X.env) fp).env.scope x := by intro _ _ _ _ _; first | exact Or.inl rfl | exact Or.inr rfl)
    (hf : ∀ (s : Shared) (H : Hp) (C : Addr) (cl : List (Str × Addr)) (fp : List Addr), (X.blk s H scope (compEnvC scope cl C X.env) fp).fn x = true ∨ (X.blk s H scope (compEnvC scope cl C X.env) fp).env.scope.names.lookup x = some .local := by intro _ _ _ _ _; first | exact .inl rfl | exact .inr rfl)
    (hl2 : ∀ (s : Shared) (H : Hp) (C : Addr) (cl : List (Str × Addr)) (fp : List Addr), Loc (X.blk s H scope (compEnvC scope cl C X.env) fp).env.scope y := by intro _ _ _ _ _; first | exact Or.inl rfl | exact Or.inr rfl)
    (hf2 : ∀ (s : Shared) (H : Hp) (C : Addr) (cl : List (Str × Addr)) (fp : List Addr), (X.blk s H scope (compEnvC scope cl C X.env) fp).fn y = true ∨ (X.blk s H scope (compEnvC scope cl C X.env) fp).env.scope.names.lookup y = some .local := by intro _ _ _ _ _; first | exact .inl rfl | exact .inr rfl) :
    GJb (α := α × β) X scope (.Tuple [.Name x pos, .Name y py] kk p2) [i, j] (fun z Γ => (Γ.set i (.fro ⟨z.1⟩)).set j (.fro ⟨z.2⟩)) :=
  ⟨gTup X.K 2 (gCons (gName i) (gCons (gName j) gNil)), fun s H C cl fp => pg_tup (X := (X.blk s H scope (compEnvC scope cl C X.env) fp)) hc (pgs_cons (pg_name nd hi (hl s H C cl fp) (hf s H C cl fp)) (pgs_cons (pg_name nd hj (hl2 s H C cl fp) (hf2 s H C cl fp)) pgs_nil)), fun B Γ σ G H v z f r Q q => by
    obtain ⟨a, u, w, e1, h1, r1, r2⟩ := r
    exact ⟨a, [u, w], e1, .inl (.inl (f.sub _ _ h1)), rfl, u, [w], rfl, w, [], rfl, rfl, q [(i, u), (j, w)] rfl ((f.put (d := ⟨z.1⟩) i r1).put (d := ⟨z.2⟩) j r2)⟩⟩
theorem gb_trip (nd : X.N.Nodup) (i j l : Nat) {x y z : Str} {kk : Nat} (hc : X.calm = true := by rfl) (hi : X.N[i]? = some x := by rfl) (hj : X.N[j]? = some y := by rfl) (hk : X.N[l]? = some z := by rfl) (hl : ∀ (s : Shared) (H : Hp) (C : Addr) (cl : List (Str × Addr)) (fp : List Addr), Loc (X.blk s H scope (compEnvC scope cl C X.env) fp).env.scope x := by intro _ _ _ _ _; first | exact Or.inl rfl | exact Or.inr rfl)
    (hf : ∀ (s : Shared) (H : Hp) (C : Addr) (cl : List (Str × Addr)) (fp : List Addr), (X.blk s H scope (compEnvC scope cl C X.env) fp).fn x = true ∨ (X.blk s H scope (compEnvC scope cl C X.env) fp).env.scope.names.lookup x = some .local := by intro _ _ _ _ _; first | exact .inl rfl | exact .inr rfl)
    (hl2 : ∀ (s : Shared) (H : Hp) (C : Addr) (cl : List (Str × Addr)) (fp : List Addr), Loc (X.blk s H scope (compEnvC scope cl C X.env) fp).env.scope y := by intro _ _ _ _ _; first | exact Or.inl rfl | exact Or.inr rfl)
    (hf2 : ∀ (s : Shared) (H : Hp) (C : Addr) (cl : List (Str × Addr)) (fp : List Addr), (X.blk s H scope (compEnvC scope cl C X.env) fp).fn y = true ∨ (X.blk s H scope (compEnvC scope cl C X.env) fp).env.scope.names.lookup y = some .local := by intro _ _ _ _ _; first | exact .inl rfl | exact .inr rfl)
    (hl3 : ∀ (s : Shared) (H : Hp) (C : Addr) (cl : List (Str × Addr)) (fp : List Addr), Loc (X.blk s H scope (compEnvC scope cl C X.env) fp).env.scope z := by intro _ _ _ _ _; first | exact Or.inl rfl | exact Or.inr rfl)
    (hf3 : ∀ (s : Shared) (H : Hp) (C : Addr) (cl : List (Str × Addr)) (fp : List Addr), (X.blk s H scope (compEnvC scope cl C X.env) fp).fn z = true ∨ (X.blk s H scope (compEnvC scope cl C X.env) fp).env.scope.names.lookup z = some .local := by intro _ _ _ _ _; first | exact .inl rfl | exact .inr rfl) :
    GJb (α := T3 α β γ) X scope (.Tuple [.Name x pos, .Name y py, .Name z pz] kk p2) [i, j, l] (fun t Γ => ((Γ.set i (.fro ⟨t.a⟩)).set j (.fro ⟨t.b⟩)).set l (.fro ⟨t.c⟩)) :=
  ⟨gTup X.K 3 (gCons (gName i) (gCons (gName j) (gCons (gName l) gNil))), fun s H C cl fp => pg_tup (X := (X.blk s H scope (compEnvC scope cl C X.env) fp)) hc (pgs_cons (pg_name nd hi (hl s H C cl fp) (hf s H C cl fp)) (pgs_cons (pg_name nd hj (hl2 s H C cl fp) (hf2 s H C cl fp)) (pgs_cons (pg_name nd hk (hl3 s H C cl fp) (hf3 s H C cl fp)) pgs_nil))), fun B Γ σ G H v t f r Q q => by
    obtain ⟨a, u, w, s, e1, h1, r1, r2, r3⟩ := r
    exact ⟨a, [u, w, s], e1, .inl (.inl (f.sub _ _ h1)), rfl, u, [w, s], rfl, w, [s], rfl, s, [], rfl, rfl, q [(i, u), (j, w), (l, s)] rfl (((f.put (d := ⟨t.a⟩) i r1).put (d := ⟨t.b⟩) j r2).put (d := ⟨t.c⟩) l r3)⟩⟩
end
/-! ### comprehensions without effect -/
section
variable {X : Cx} {elt tg iter c : Expr} {ifs : List Expr} {scope : Scope} {Γ Γ1 Γ' : Env'} {pos spos py : Pos} {α β : Type} [Enc α] [Enc β] {xs : List α} {is : List Nat} {F : α → Env' → Env'}
theorem map_take_succ {α β : Type} {f : α → β} {xs : List α} {i : Nat} {x : α} (h : xs[i]? = some x) : (xs.take (i + 1)).map f = (xs.take i).map f ++ [f x] := by
  rw [List.take_add_one, h, List.map_append]
  rfl
theorem fil_take_succ {α : Type} {p : α → Bool} {xs : List α} {i : Nat} {x : α} (h : xs[i]? = some x) : (xs.take (i + 1)).filter p = (xs.take i).filter p ++ (if p x then [x] else []) := by
  rw [List.take_add_one, h, List.filter_append]
  show _ ++ List.filter p [x] = _
  rw [List.filter_cons]
  rfl
/-- [elt for tg in iter] -/
theorem n_map (nd : X.N.Nodup) (own : List (Str × Nat)) (f : α → β) (hi : IJ X tg iter Γ Γ1 xs) (hg : GJb X scope tg is F)
    (hs : ∀ (i : Nat) x, xs[i]? = some x → ∀ (s : Shared) (H : Hp) (C : Addr) (cl : List (Str × Addr)) (fp : List Addr), EJ (X.blk s H scope (compEnvC scope cl C X.env) fp) elt (F x (wipeE Γ1 (own.map (·.2)))) (F x (wipeE Γ1 (own.map (·.2)))) ⟨f x⟩)
    (hn : xs.length ≤ 100000) (hw : ∀ x, wipeE (F x (wipeE Γ1 (own.map (·.2)))) (own.map (·.2)) = wipeE Γ1 (own.map (·.2)) := by intro _; rfl) (ok : BlkOk X.N X.env.scope scope own := by exact blkOk_by (by rfl))
    (hv : ∀ i ∈ is, i ∈ own.map (·.2) := by decide) (hc : X.calm = true := by rfl) (hsx : ∀ x, foldedSetIterable iter X.env x = pure x := by intro _; rfl) :
    NJ X (.ListComp elt [⟨tg, iter, [], 0⟩] scope pos) Γ (wipeE Γ1 (own.map (·.2))) ⟨(⟨xs.map f⟩ : Ol β)⟩ :=
  n_lc nd own ok hi hg hn (fun i Γ2 ys => Γ2 = wipeE Γ1 (own.map (·.2)) ∧ ys = (xs.take i).map f) ⟨rfl, rfl⟩ (fun i x Γ2 ys e p => by
    obtain ⟨rfl, rfl⟩ := p
    have ww : wipeE (wipeE Γ1 (own.map (·.2))) (own.map (·.2)) = wipeE Γ1 (own.map (·.2)) := by
      apply List.ext_getElem?
      intro j
      have q : ∀ (Γ : Env') (vs : List Nat), (wipeE Γ vs)[j]? = if j ∈ vs ∧ j < Γ.length then some .non else Γ[j]? := by
        intro Γ vs
        induction vs with
        | nil => simp [wipeE]
        | cons v vs ih =>
          unfold wipeE
          by_cases e : v = j
          · subst e
            by_cases hl : v < Γ.length
            · rw [List.getElem?_set_self (by rw [wipeE_len]; exact hl), if_pos ⟨List.mem_cons_self .., hl⟩]
            · rw [List.getElem?_eq_none (by rw [List.length_set, wipeE_len]; omega), if_neg (fun z => hl z.2), List.getElem?_eq_none (by omega)]
          · rw [List.getElem?_set_ne e, ih]
            have e2 : (j ∈ v :: vs) ↔ j ∈ vs := by simp [Ne.symm e]
            simp only [e2]
      rw [q, q, wipeE_len]
      split <;> rfl
    refine ⟨F x (wipeE Γ1 (own.map (·.2))), true, fun s H C cl fp => by rw [ww]; exact .nil, fun _ => ⟨F x (wipeE Γ1 (own.map (·.2))), f x, fun s H C cl fp => hs i x e s H C cl fp, hw x, map_take_succ e ▸ rfl⟩, fun z => nomatch z⟩)
    (fun Γ2 ys p => ⟨p.1, by rw [p.2, List.take_length]⟩) hv hc hsx
/-- [elt for tg in iter if c] -/
theorem n_fil (nd : X.N.Nodup) (own : List (Str × Nat)) (p : α → Bool) (f : α → β) (hi : IJ X tg iter Γ Γ1 xs) (hg : GJb X scope tg is F)
    (ht : ∀ (i : Nat) x, xs[i]? = some x → ∀ (s : Shared) (H : Hp) (C : Addr) (cl : List (Str × Addr)) (fp : List Addr), TJ (X.blk s H scope (compEnvC scope cl C X.env) fp) c (F x (wipeE Γ1 (own.map (·.2)))) (F x (wipeE Γ1 (own.map (·.2)))) (p x))
    (hs : ∀ (i : Nat) x, xs[i]? = some x → p x = true → ∀ (s : Shared) (H : Hp) (C : Addr) (cl : List (Str × Addr)) (fp : List Addr), EJ (X.blk s H scope (compEnvC scope cl C X.env) fp) elt (F x (wipeE Γ1 (own.map (·.2)))) (F x (wipeE Γ1 (own.map (·.2)))) ⟨f x⟩)
    (hn : xs.length ≤ 100000) (hw : ∀ x, wipeE (F x (wipeE Γ1 (own.map (·.2)))) (own.map (·.2)) = wipeE Γ1 (own.map (·.2)) := by intro _; rfl) (ok : BlkOk X.N X.env.scope scope own := by exact blkOk_by (by rfl))
    (hv : ∀ i ∈ is, i ∈ own.map (·.2) := by decide) (hc : X.calm = true := by rfl) (hsx : ∀ x, foldedSetIterable iter X.env x = pure x := by intro _; rfl) :
    NJ X (.ListComp elt [⟨tg, iter, [c], 0⟩] scope pos) Γ (wipeE Γ1 (own.map (·.2))) ⟨(⟨(xs.filter p).map f⟩ : Ol β)⟩ :=
  n_lc nd own ok hi hg hn (fun i Γ2 ys => wipeE Γ2 (own.map (·.2)) = wipeE Γ1 (own.map (·.2)) ∧ Γ2 = wipeE Γ1 (own.map (·.2)) ∧ ys = ((xs.take i).filter p).map f) (by
    refine ⟨?_, rfl, rfl⟩
    apply List.ext_getElem?
    intro j
    have q : ∀ (Γ : Env') (vs : List Nat), (wipeE Γ vs)[j]? = if j ∈ vs ∧ j < Γ.length then some .non else Γ[j]? := by
      intro Γ vs
      induction vs with
      | nil => simp [wipeE]
      | cons v vs ih =>
        unfold wipeE
        by_cases e : v = j
        · subst e
          by_cases hl : v < Γ.length
          · rw [List.getElem?_set_self (by rw [wipeE_len]; exact hl), if_pos ⟨List.mem_cons_self .., hl⟩]
          · rw [List.getElem?_eq_none (by rw [List.length_set, wipeE_len]; omega), if_neg (fun z => hl z.2), List.getElem?_eq_none (by omega)]
        · rw [List.getElem?_set_ne e, ih]
          have e2 : (j ∈ v :: vs) ↔ j ∈ vs := by simp [Ne.symm e]
          simp only [e2]
    rw [q, q, wipeE_len]
    split <;> rfl) (fun i x Γ2 ys e q => by
    obtain ⟨ww, rfl, rfl⟩ := q
    have nx : ((xs.take (i + 1)).filter p).map f = ((xs.take i).filter p).map f ++ (if p x then [f x] else []) := by
      rw [fil_take_succ e, List.map_append]
      cases p x <;> rfl
    refine ⟨F x (wipeE Γ1 (own.map (·.2))), p x, fun s H C cl fp => by rw [ww]; exact .one (ht i x e s H C cl fp), fun hp => ⟨F x (wipeE Γ1 (own.map (·.2))), f x, fun s H C cl fp => hs i x e hp s H C cl fp, ?_, hw x, ?_⟩, fun hp => ⟨?_, hw x, ?_⟩⟩
    · rw [hw x, ww]
    · rw [nx, if_pos hp]
    · rw [hw x, ww]
    · rw [nx, if_neg (by rw [hp]; exact Bool.false_ne_true), List.append_nil])
    (fun Γ2 ys q => ⟨q.2.1, by rw [q.2.2, List.take_length]⟩) hv hc hsx
end
/-! ### own things let stand, unseen -/
/-- own things that may be let stand as data -/
class OFz (β : Type) [OEnc β] (α : outParam Type) [Enc α] where
  to : β → α
  fz : ∀ {G G' H : Hp} {v : V} {ps : List Addr} {y : β}, OEnc.orep G H v ps y → Same G G' → (∀ p ∈ ps, G' p = H p) → rep G' v (to y)
instance {α : Type} [Enc α] : OFz (Ol α) (List α) where
  to y := y.l
  fz := fun h s k => by
    obtain ⟨p, vs, rfl, rfl, h1, h2⟩ := h
    exact ⟨p, vs, rfl, (k p (List.mem_cons_self ..)).trans h1, pr_mono (fun _ _ r => mono s r) h2⟩
instance {κ α : Type} [KeyT κ] [Enc α] : OFz (Od κ α) (DT κ α) where
  to y := ⟨y.l⟩
  fz := fun h s k => by
    obtain ⟨p, vs, rfl, rfl, h1, h2⟩ := h
    exact ⟨p, vs, rfl, (k p (List.mem_cons_self ..)).trans h1, pr_mono (fun _ _ r => ⟨r.1, mono s r.2⟩) h2⟩
instance {α : Type} [Enc α] : OFz (Oll α) (List (List α)) where
  to y := y.l
  fz := fun h s k => by
    obtain ⟨p, qs, rfl, rfl, h1, h2⟩ := h
    refine ⟨p, _, rfl, (k p (List.mem_cons_self ..)).trans h1, pr_of (by rw [List.length_map]; exact pr_len h2) fun i v xs hv hx => ?_⟩
    rw [List.getElem?_map] at hv
    obtain ⟨q, hq, e⟩ := Option.map_eq_some_iff.mp hv
    subst e
    obtain ⟨q', e, vs, h3, h4⟩ := pr_get h2 hx
    rw [hq] at e
    have e2 := Option.some.inj e
    subst e2
    exact ⟨q, vs, rfl, (k q (List.mem_cons_of_mem _ (List.mem_of_getElem? hq))).trans h3, pr_mono (fun _ _ r => mono s r) h4⟩
/-- a dict of one's own whose values are one's own lists -/
structure Odl (κ α : Type) where
  l : List (κ × List α)
instance {κ α : Type} [KeyT κ] [Enc α] : OEnc (Odl κ α) := ⟨fun G H v ps y => ∃ p kvs qs, v = .ref p ∧ ps = p :: qs ∧ H p = some (.dT kvs) ∧ Paired (fun (e : List Key × V) (q : Addr) => e.2 = .ref q) kvs qs ∧
    Paired (fun (e : List Key × V) (z : κ × List α) => e.1 = KeyT.key z.1) kvs y.l ∧ Paired (fun q (z : κ × List α) => ∃ vs, H q = some (.lst vs) ∧ reps G vs z.2) qs y.l,
  fun {G G' H H' v ps y} s k h => by
    obtain ⟨p, kvs, qs, e1, e2, h1, h0, h3, h2⟩ := h
    subst e1 e2
    refine ⟨p, kvs, qs, rfl, rfl, (k p (List.mem_cons_self ..)).trans h1, h0, h3, pr_of (pr_len h2) fun i q xs hq hx => ?_⟩
    obtain ⟨q', e, vs, h3, h4⟩ := pr_get h2 hx
    rw [hq] at e
    have e2 := Option.some.inj e
    subst e2
    exact ⟨vs, (k q (List.mem_cons_of_mem _ (List.mem_of_getElem? hq))).trans h3, pr_mono (fun _ _ r => mono s r) h4⟩⟩
instance {κ α : Type} [KeyT κ] [Enc α] : OFz (Odl κ α) (DT κ (List α)) where
  to y := ⟨y.l⟩
  fz := fun {G G' H v ps y} h s k => by
    obtain ⟨p, kvs, qs, rfl, rfl, h1, h0, h3, h2⟩ := h
    refine ⟨p, kvs, rfl, (k p (List.mem_cons_self ..)).trans h1, pr_of (pr_len h3) fun i e z he hz => ?_⟩
    obtain ⟨q, hq, vs, h5, h6⟩ := pr_get h2 hz
    obtain ⟨e', he', h7⟩ := pr_get h0 hq
    obtain ⟨e2, he2, h8⟩ := pr_get h3 hz
    rw [he] at he' he2
    have x1 := Option.some.inj he'
    have x2 := Option.some.inj he2
    subst x1 x2
    exact ⟨h8, q, vs, h7, (k q (List.mem_cons_of_mem _ (List.mem_of_getElem? hq))).trans h5, pr_mono (fun _ _ r => mono s r) h6⟩
open Classical in
/-- G with the things at ps as they stand -/
noncomputable def addP (G H : Hp) (ps : List Addr) : Hp := fun a => if a ∈ ps then H a else G a
theorem Fits.fz {B : Hp × Hp} {Γ : Env'} {σ : Sg} {G H : Hp} (f : Fits B Γ σ G H) {i : Nat} {ps : List Addr} {α β : Type} [Enc α] [OEnc β] [OFz β α] {y : β} (e : Γ[i]? = some (.own ps ⟨y⟩)) :
    Fits B (Γ.set i (.fro ⟨OFz.to y⟩)) σ (addP G H ps) H ∧ Same G (addP G H ps) := by
  obtain ⟨v, ev, nd, h1, r⟩ := f.ok i _ e
  have hl : i < Γ.length := (List.getElem?_eq_some_iff.mp e).1
  have ai : ads Γ i = ps := by
    unfold ads
    rw [e]
    rfl
  have hin : ∀ a, a ∈ ps → addP G H ps a = H a := fun a h => if_pos h
  have hout : ∀ a, a ∉ ps → addP G H ps a = G a := fun a h => if_neg h
  have sG : Same G (addP G H ps) := fun a o h => by
    rw [hout a (fun z => by rw [(h1 a z).1] at h; cases h)]
    exact h
  have sH : Same (addP G H ps) H := fun a o h => by
    by_cases z : a ∈ ps
    · rw [hin a z] at h
      exact h
    · rw [hout a z] at h
      exact f.sub a o h
  refine ⟨⟨by rw [List.length_set, f.len], sH, fun j s q => ?_, fun j k p z1 z2 => ?_, f.bg.trans sG, f.bh, fun a z1 z2 => ?_, fun j p z => ?_⟩, sG⟩
  · by_cases hj : i = j
    · subst hj
      rw [List.getElem?_set_self hl] at q
      have e2 := Option.some.inj q
      subst e2
      exact ⟨v, ev, OFz.fz r sG fun p hp => hin p hp⟩
    · rw [List.getElem?_set_ne hj] at q
      have z := f.ok j s q
      cases s with
      | non => trivial
      | fro d =>
        obtain ⟨w, e4, r4⟩ := z
        exact ⟨w, e4, r4.mono sG⟩
      | own qs y' =>
        obtain ⟨w, e4, nd4, h4, r4⟩ := z
        refine ⟨w, e4, nd4, fun a ha => ?_, r4.cong sG fun a ha => rfl⟩
        have ap : a ∉ ps := fun e5 => hj (f.apart i j a (by rw [ai]; exact e5) (by
          unfold ads
          rw [q]
          exact ha))
        rw [hout a ap]
        exact h4 a ha
  · rw [ads_set] at z1 z2
    split at z1
    · cases z1
    · split at z2
      · cases z2
      · exact f.apart j k p z1 z2
  · by_cases ha : a ∈ ps
    · exact .inl (f.ob i a (by rw [ai]; exact ha))
    · rw [hout a ha] at z2
      exact f.fresh a z1 z2
  · rw [ads_set] at z
    split at z
    · cases z
    · exact f.ob j p z
section
variable {X : Cx} {e a : Expr} {st : Stmt} {sts : List Stmt} {Γ Γ' : Env'} {d : Dyn} {D : TD} {α β : Type} [Enc α] [OEnc β] [OFz β α] {y : β} {ps : List Addr}
theorem EJ.fzs (i : Nat) (h : EJ X e (Γ.set i (.fro ⟨OFz.to y⟩)) Γ' d) (e1 : Γ[i]? = Option.some (Sl.own ps ⟨y⟩) := by rfl) : EJ X e Γ Γ' d := fun B σ G H f Q q => by
  obtain ⟨f2, s⟩ := f.fz e1
  exact h B σ _ H f2 Q fun v G' H' f' s' r => q v G' H' f' (s.trans s') r
theorem NJ.fzs (i : Nat) {z : ODyn} (h : NJ X e (Γ.set i (.fro ⟨OFz.to y⟩)) Γ' z) (e1 : Γ[i]? = Option.some (Sl.own ps ⟨y⟩) := by rfl) : NJ X e Γ Γ' z := fun B σ G H f Q q => by
  obtain ⟨f2, s⟩ := f.fz e1
  exact h B σ _ H f2 Q fun v qs G' H1 H' f' s' r => q v qs G' H1 H' f' (s.trans s') r
theorem SJ.fzs (i : Nat) (h : SJ X st (Γ.set i (.fro ⟨OFz.to y⟩)) D) (e1 : Γ[i]? = Option.some (Sl.own ps ⟨y⟩) := by rfl) : SJ X st Γ D := fun B σ G H f => by
  obtain ⟨f2, s⟩ := f.fz e1
  exact h B σ _ H f2
theorem SsJ.fzs (i : Nat) (h : SsJ X sts (Γ.set i (.fro ⟨OFz.to y⟩)) D) (e1 : Γ[i]? = Option.some (Sl.own ps ⟨y⟩) := by rfl) : SsJ X sts Γ D := fun B σ G H f => by
  obtain ⟨f2, s⟩ := f.fz e1
  exact h B σ _ H f2
end
end Ty

namespace Ty
open PySem PySem.Spec PyProof.Rows L2 Ty.Enc
/-! ### more stands than before -/
theorem Fits.grow {B : Hp × Hp} {Γ : Env'} {σ : Sg} {G H H' : Hp} (f : Fits B Γ σ G H) (s : Same H H') : Fits B Γ σ G H' where
  len := f.len
  sub := f.sub.trans s
  ok := fun i t e => by
    have q := f.ok i t e
    cases t with
    | non => trivial
    | fro d => exact q
    | own ps y =>
      obtain ⟨v, e1, nd, h1, r⟩ := q
      refine ⟨v, e1, nd, fun a h => ?_, r.cong (Same.refl _) fun a h => ?_⟩
      · obtain ⟨z1, ob, z2, nt⟩ := h1 a h
        exact ⟨z1, ob, s _ _ z2, nt⟩
      · obtain ⟨z1, ob, z2, nt⟩ := h1 a h
        rw [z2]
        exact s _ _ z2
  apart := f.apart
  bg := f.bg
  bh := f.bh.trans s
  fresh := f.fresh
  ob := f.ob
/-- things that no slot owns and nothing keeps are left out -/
theorem Fits.minusL {B : Hp × Hp} {Γ : Env'} {σ : Sg} {G H : Hp} (f : Fits B Γ σ G H) (hs : List Addr) (hg : ∀ p ∈ hs, G p = none ∧ B.2 p = none ∧ ∀ i, p ∉ ads Γ i) : Fits B Γ σ G (fun a => if a ∈ hs then none else H a) where
  len := f.len
  sub := fun a u h => by
    show (if a ∈ hs then none else H a) = some u
    rw [if_neg (fun z => by rw [(hg a z).1] at h; cases h)]
    exact f.sub a u h
  ok := fun i s e => by
    have q := f.ok i s e
    cases s with
    | non => trivial
    | fro d => exact q
    | own ps y =>
      obtain ⟨v, e1, nd, h1, r⟩ := q
      have ne : ∀ a ∈ ps, a ∉ hs := fun a h z => (hg a z).2.2 i (by
        unfold ads
        rw [e]
        exact h)
      refine ⟨v, e1, nd, fun a h => ?_, r.cong (Same.refl _) fun a h => if_neg (ne a h)⟩
      obtain ⟨z1, ob, z2, nt⟩ := h1 a h
      exact ⟨z1, ob, (if_neg (ne a h)).trans z2, nt⟩
  apart := f.apart
  bg := f.bg
  bh := fun a u h => by
    show (if a ∈ hs then none else H a) = some u
    rw [if_neg (fun z => by rw [(hg a z).2.1] at h; cases h)]
    exact f.bh a u h
  fresh := f.fresh
  ob := f.ob
/-! ### a list of new own lists, by a comprehension -/
section
variable {X : Cx} {elt tg iter : Expr} {scope : Scope} {Γ Γ1 Γ' : Env'} {pos spos py : Pos} {α β : Type} [Enc α] [Enc β] {xs : List α} {is : List Nat} {F : α → Env' → Env'}
theorem wipeE_wipeE (Γ : Env') (vs : List Nat) : wipeE (wipeE Γ vs) vs = wipeE Γ vs := by
  apply List.ext_getElem?
  intro j
  have q : ∀ (Γ : Env') (vs : List Nat), (wipeE Γ vs)[j]? = if j ∈ vs ∧ j < Γ.length then some .non else Γ[j]? := by
    intro Γ vs
    induction vs with
    | nil => simp [wipeE]
    | cons v vs ih =>
      unfold wipeE
      by_cases e : v = j
      · subst e
        by_cases hl : v < Γ.length
        · rw [List.getElem?_set_self (by rw [wipeE_len]; exact hl), if_pos ⟨List.mem_cons_self .., hl⟩]
        · rw [List.getElem?_eq_none (by rw [List.length_set, wipeE_len]; omega), if_neg (fun z => hl z.2), List.getElem?_eq_none (by omega)]
      · rw [List.getElem?_set_ne e, ih]
        have e2 : (j ∈ v :: vs) ↔ j ∈ vs := by simp [Ne.symm e]
        simp only [e2]
  rw [q, q, wipeE_len]
  split <;> rfl
/-- a thing that nothing knows: it stands as it is -/
structure Hid (B2 : Hp) (Γ : Env') (G H : Hp) (a : Addr) (o : HO) : Prop where
  g : G a = none
  b : B2 a = none
  own : ∀ i, a ∉ ads Γ i
  h : H a = some o
theorem mapL_ev {own : List (Str × Nat)} {f : α → List β} (hi : IJ X tg iter Γ Γ1 xs) {g : TG} (hgv : ∀ B Γ σ G H v x, Fits B Γ σ G H → rep G v x → ∀ Q : Sg → Hp → Prop, (∀ ws : List (Nat × V), ws.map (·.1) = is → Fits B (F x Γ) (sets σ ws) G H → Q (sets σ ws) H) → g v σ H Q)
    (hs : ∀ (i : Nat) x, xs[i]? = some x → ∀ (s : Shared) (H : Hp) (C : Addr) (cl : List (Str × Addr)) (fp : List Addr), NJ (X.blk s H scope (compEnvC scope cl C X.env) fp) elt (F x (wipeE Γ1 (own.map (·.2)))) (F x (wipeE Γ1 (own.map (·.2)))) ⟨(⟨f x⟩ : Ol β)⟩)
    (hn : xs.length ≤ 100000) (hw : ∀ x, wipeE (F x (wipeE Γ1 (own.map (·.2)))) (own.map (·.2)) = wipeE Γ1 (own.map (·.2)))
    (hv : ∀ i ∈ is, i ∈ own.map (·.2)) : EvN (tLc (tI X tg iter) g tYes (tEb X scope elt) (own.map (·.2))) Γ (wipeE Γ1 (own.map (·.2))) ⟨(⟨xs.map f⟩ : Oll β)⟩ := by
  intro B σ G H ft Q q
  refine hi B σ G H ft _ fun J G1 H1 f1 s1 iv => ?_
  intro Dl hD
  generalize evs : own.map (·.2) = vs at *
  have hbD : B.2 Dl = none := none_of f1.bh hD
  have hgD : G1 Dl = none := none_of f1.sub hD
  have haD : ∀ i, Dl ∉ ads Γ1 i := fun i h => by
    obtain ⟨_, ⟨o, e, _⟩, _⟩ := own_at f1 h
    rw [hD] at e
    cases e
  refine ⟨fun i m H => m = xs.length - i ∧ i ≤ xs.length ∧ ∃ G2 qs, Fits (G1, B.2) (wipeE Γ1 vs) σ G2 H ∧ Hid B.2 (wipeE Γ1 vs) G2 H Dl (.lst (qs.map V.ref)) ∧ (Dl :: qs).Nodup ∧
      Paired (fun q z => ∃ us, Hid B.2 (wipeE Γ1 vs) G2 H q (.lst us) ∧ reps G2 us z) qs ((xs.take i).map f),
    ⟨xs.length, rfl, Nat.zero_le _, G1, [], (f1.from.upd (.lst []) hgD hbD haD).wiped vs rfl, ⟨hgD, hbD, fun i h => haD i (wipeE_ads h), upd_same⟩, by simp, .nil⟩, fun i m H2 w => ?_⟩
  obtain ⟨rfl, hi', G2, qs, f2, hid, nd2, pr⟩ := w
  have lq : qs.length = i := by
    rw [pr_len pr, List.length_map, List.length_take]
    omega
  by_cases hlt : i < xs.length
  · refine .inr ⟨iv.goes i H2 hlt (f2.bg.trans f2.sub), fun H => ∃ G2 qs, Fits (G1, B.2) (wipeE Γ1 vs) σ G2 H ∧ Hid B.2 (wipeE Γ1 vs) G2 H Dl (.lst (qs.map V.ref)) ∧ (Dl :: qs).Nodup ∧
      Paired (fun q z => ∃ us, Hid B.2 (wipeE Γ1 vs) G2 H q (.lst us) ∧ reps G2 us z) qs ((xs.take (i + 1)).map f), fun H' z => ⟨xs.length - (i + 1), by omega, rfl, hlt, z⟩, fun v H' yl => ?_⟩
    have e1 : xs[i]? = some xs[i] := List.getElem?_eq_getElem hlt
    obtain ⟨G3, st, r⟩ := iv.yields i _ H2 v H' e1 (f2.bg.trans f2.sub) yl G2 f2.bg f2.sub
    have f3 := f2.step st
    have keep3 : ∀ {a us}, Hid B.2 (wipeE Γ1 vs) G2 H2 a (.lst us) → Hid B.2 (wipeE Γ1 vs) G3 H' a (.lst us) := fun {a us} h => ⟨by
      cases e : G3 a with
      | none => rfl
      | some o => exact ((st.n a h.g (by rw [e]; exact fun z => nomatch z)).no h.h nt_lst).elim, h.b, h.own, st.h _ _ h.h⟩
    have fw : Fits (G1, B.2) (wipeE Γ1 vs) (wipe σ vs) G3 H' := by
      have z := f3.wiped vs (wipe_wipe σ vs)
      rw [wipeE_wipeE] at z
      exact z
    refine hgv _ (wipeE Γ1 vs) (wipe σ vs) G3 H' v _ fw.frame r _ fun ws ew f4 => ?_
    have ewv : wipe (sets (wipe σ vs) ws) vs = wipe σ vs := by
      rw [wipe_sets (fun i h => hv i (by rw [← ew]; exact h)), wipe_wipe]
    refine ⟨ewv, ?_⟩
    show tEb X scope elt _ H' _
    intro s0 H0 C0 cl0 fp0
    refine hs i _ e1 s0 H0 C0 cl0 fp0 _ _ G3 H' f4 _ fun v6 ps6 G6 H6 H7 f6 s6 nd6 n6 sm6 r6 => ?_
    obtain ⟨q6, us6, rfl, rfl, h6, r6⟩ := r6
    have hidF : ∀ {a us}, Hid B.2 (wipeE Γ1 vs) G3 H' a (.lst us) → H6 a = some (.lst us) := fun {a us} h => f6.bh a _ (noOwn_some.mpr ⟨fun ⟨i, hi⟩ => h.own i hi, h.h⟩)
    have hq6 := (n6 q6 (by simp)).1
    have u6 := fw.unframe f6
    have f8 : Fits (G1, B.2) (wipeE Γ1 vs) σ G6 H6 := by
      have z := u6.wiped vs ewv.symm
      rw [hw] at z
      exact z
    have own6 : ∀ {a us}, Hid B.2 (wipeE Γ1 vs) G3 H' a (.lst us) → G6 a = none := fun {a us} h => by
      cases e : G6 a with
      | none => rfl
      | some o => exact (Fr0.no (H := noOwn (wipeE Γ1 vs) H') (f6.fresh a h.g (by rw [e]; exact fun z => nomatch z)) (noOwn_some.mpr ⟨fun ⟨i, hi⟩ => h.own i hi, h.h⟩) nt_lst).elim
    have hD7 : H7 Dl = some (.lst (qs.map V.ref)) := sm6 _ _ (hidF (keep3 hid))
    refine ⟨qs.map V.ref, hD7, Nat.lt_of_lt_of_le (show _ < 100001 by rw [List.length_map]; omega) (by decide), G6, qs ++ [q6], ?_, ⟨own6 (keep3 hid), hid.b, hid.own, ?_⟩, ?_, ?_⟩
    · exact (f8.grow sm6).upd _ (own6 (keep3 hid)) hid.b hid.own
    · rw [List.map_append]
      exact upd_same
    · have nq : q6 ∉ Dl :: qs := fun z => by
        rcases List.mem_cons.mp z with z | z
        · rw [z, hidF (keep3 hid)] at hq6
          cases hq6
        · obtain ⟨i, hi⟩ := List.mem_iff_getElem?.mp z
          obtain ⟨y, _, us, h, _⟩ := pr_get' pr hi
          rw [hidF (keep3 h)] at hq6
          cases hq6
      rw [← List.cons_append]
      rw [List.nodup_append]
      exact ⟨nd2, by simp, fun a ha b hb e => nq (by
        have e9 : b = q6 := by simpa using hb
        rw [← e9, ← e]
        exact ha)⟩
    · have ne : ∀ {a us}, Hid B.2 (wipeE Γ1 vs) G2 H2 a (.lst us) → a ∈ qs → a ≠ Dl := fun h ha z => by
        rw [List.nodup_cons] at nd2
        exact nd2.1 (z ▸ ha)
      rw [map_take_succ e1]
      refine pr_app (pr_of (pr_len pr) fun j a z ha hz => ?_) (.cons ⟨us6, ⟨?_, none_of f8.bh hq6, fun i h => ?_, ?_⟩, r6⟩ .nil)
      · obtain ⟨a', ha', us, h, hr⟩ := pr_get pr hz
        rw [ha] at ha'
        have e2 := Option.some.inj ha'
        subst e2
        refine ⟨us, ⟨own6 (keep3 h), h.b, h.own, ?_⟩, pr_mono (fun _ _ r => mono (st.g.trans s6) r) hr⟩
        rw [upd_ne (ne h (List.mem_of_getElem? ha))]
        exact sm6 _ _ (hidF (keep3 h))
      · exact none_of f6.sub hq6
      · obtain ⟨_, ⟨o, e, _⟩, _⟩ := own_at f8 h
        rw [hq6] at e
        cases e
      · rw [upd_ne (fun z => by rw [z, hidF (keep3 hid)] at hq6; cases hq6)]
        exact h6
  · have e1 : i = xs.length := by omega
    subst e1
    rw [List.take_length] at pr
    have f4 : Fits B (wipeE Γ1 vs) σ G2 H2 := f1.unfrom f2
    have hidA : ∀ a ∈ Dl :: qs, ∃ us, Hid B.2 (wipeE Γ1 vs) G2 H2 a (.lst us) := fun a ha => by
      rcases List.mem_cons.mp ha with z | z
      · subst z
        exact ⟨_, hid⟩
      · obtain ⟨i, hi⟩ := List.mem_iff_getElem?.mp z
        obtain ⟨y, _, us, h, _⟩ := pr_get' pr hi
        exact ⟨us, h⟩
    refine .inl ⟨iv.stops H2 (f2.bg.trans f2.sub), q (.ref Dl) (Dl :: qs) G2 _ H2 (f4.minusL (Dl :: qs) fun a ha => ?_) (s1.trans f2.bg) nd2 (fun p hp => ?_) (fun a o h => ?_) ⟨Dl, qs, rfl, rfl, hid.h, ?_⟩⟩
    · obtain ⟨us, h⟩ := hidA a ha
      exact ⟨h.g, h.b, h.own⟩
    · obtain ⟨us, h⟩ := hidA p hp
      exact ⟨if_pos hp, _, h.h, nt_lst⟩
    · have h' : (if a ∈ Dl :: qs then none else H2 a) = some o := h
      split at h'
      · cases h'
      · exact h'
    · exact pr_mono (fun a z h => by
        obtain ⟨us, h1, h2⟩ := h
        exact ⟨us, h1.h, h2⟩) pr
theorem n_mapL (nd : X.N.Nodup) (own : List (Str × Nat)) (f : α → List β) (hi : IJ X tg iter Γ Γ1 xs) (hg : GJb X scope tg is F)
    (hs : ∀ (i : Nat) x, xs[i]? = some x → ∀ (s : Shared) (H : Hp) (C : Addr) (cl : List (Str × Addr)) (fp : List Addr), NJ (X.blk s H scope (compEnvC scope cl C X.env) fp) elt (F x (wipeE Γ1 (own.map (·.2)))) (F x (wipeE Γ1 (own.map (·.2)))) ⟨(⟨f x⟩ : Ol β)⟩)
    (hn : xs.length ≤ 100000) (hw : ∀ x, wipeE (F x (wipeE Γ1 (own.map (·.2)))) (own.map (·.2)) = wipeE Γ1 (own.map (·.2)) := by intro _; rfl) (ok : BlkOk X.N X.env.scope scope own := by exact blkOk_by (by rfl))
    (hv : ∀ i ∈ is, i ∈ own.map (·.2) := by decide) (hc : X.calm = true := by rfl) (hsx : ∀ x, foldedSetIterable iter X.env x = pure x := by intro _; rfl) :
    NJ X (.ListComp elt [⟨tg, iter, [], 0⟩] scope pos) Γ (wipeE Γ1 (own.map (·.2))) ⟨(⟨xs.map f⟩ : Oll β)⟩ := by
  obtain ⟨g, pg, hgv⟩ := hg
  exact .of (pe_lc hc nd pi_tI ok pg (fun s H C cl fp => pts_nil) pe_tEb hsx) (mapL_ev hi hgv hs hn hw hv)
theorem s_mapL {D : TD} (nd : X.N.Nodup) (i : Nat) {x : Str} (own : List (Str × Nat)) (f : α → List β) (hi : IJ X tg iter Γ Γ1 xs) (hg : GJb X scope tg is F)
    (hs : ∀ (i : Nat) x, xs[i]? = some x → ∀ (s : Shared) (H : Hp) (C : Addr) (cl : List (Str × Addr)) (fp : List Addr), NJ (X.blk s H scope (compEnvC scope cl C X.env) fp) elt (F x (wipeE Γ1 (own.map (·.2)))) (F x (wipeE Γ1 (own.map (·.2)))) ⟨(⟨f x⟩ : Ol β)⟩)
    (hn : xs.length ≤ 100000) (k : ∀ ps, D.nx ((wipeE Γ1 (own.map (·.2))).set i (.own ps ⟨(⟨xs.map f⟩ : Oll β)⟩))) (hw : ∀ x, wipeE (F x (wipeE Γ1 (own.map (·.2)))) (own.map (·.2)) = wipeE Γ1 (own.map (·.2)) := by intro _; rfl) (ok : BlkOk X.N X.env.scope scope own := by exact blkOk_by (by rfl))
    (hv : ∀ i ∈ is, i ∈ own.map (·.2) := by decide) (hc : X.calm = true := by rfl)
    (hi1 : X.N[i]? = some x := by rfl) (hyl : X.env.scope.names.lookup x = some .local := by rfl) (hsw : swapsWith (.ListComp elt [⟨tg, iter, [], 0⟩] scope pos) (some (.Name x py)) spos.line X.env = pure true := by exact (sw_true rfl rfl rfl (by decide +kernel)))
    (hsx : ∀ x, foldedSetIterable iter X.env x = pure x := by intro _; rfl) :
    SJ X (.Assign [.Name x py] (.ListComp elt [⟨tg, iter, [], 0⟩] scope pos) spos) Γ D := by
  obtain ⟨g, pg, hgv⟩ := hg
  refine .of (ps_setLc (i := i) hc nd hi1 hyl hsw pi_tI ok pg (fun s H C cl fp => pts_nil) pe_tEb hsx) fun B σ G H f E q1 q2 q3 => ?_
  exact mapL_ev hi hgv hs hn hw hv B σ G H f _ fun v ps G' H1 H' f' s nd' n sm r => q1 _ G' H' _ (f'.putN i sm nd' n r) (k ps)
end
end Ty

namespace Ty
open PySem PySem.Spec PyProof.Rows L2 Ty.Enc
section
variable {X : Cx} {e a b c o : Expr} {es : List Expr} {Γ Γ1 Γ2 Γ3 Γ4 Γ' : Env'} {d d1 d2 d3 d4 : Dyn} {te ta tb : TE} {p2 p3 p4 apos pos pos' : Pos} {k : Bool} {r : R2} {D : TD} {x : Str} {ds : List Dyn} {α β : Type} [Enc α] [Enc β] {lv : Nat}
/-! ### a list of one's own lists -/
theorem own_ll {B : Hp × Hp} {σ : Sg} {G H : Hp} {i : Nat} {ps : List Addr} {ls : List (List α)} (f : Fits B Γ σ G H) (h : Γ[i]? = some (.own ps ⟨(⟨ls⟩ : Oll α)⟩)) :
    ∃ p qs, σ[i]? = some (some (.ref p)) ∧ ps = p :: qs ∧ ps.Nodup ∧ H p = some (.lst (qs.map V.ref)) ∧ Paired (fun q xs => ∃ vs, H q = some (.lst vs) ∧ reps G vs xs) qs ls := by
  obtain ⟨v, e1, nd, h1, p, qs, rfl, rfl, h2, h3⟩ := f.ok i _ h
  exact ⟨p, qs, e1, rfl, nd, h2, h3⟩
theorem mutL {B : Hp × Hp} {σ : Sg} {G H : Hp} {i n : Nat} {ps : List Addr} {p q : Addr} {qs : List Addr} {ls : List (List α)} {zs : List α} {vs : List V} (f : Fits B Γ σ G H) (h : Γ[i]? = some (.own ps ⟨(⟨ls⟩ : Oll α)⟩)) (hp : ps = p :: qs)
    (e : qs[n]? = some q) (r : reps G vs zs) : Fits B (Γ.set i (.own ps ⟨(⟨ls.set n zs⟩ : Oll α)⟩)) σ G (upd H q (.lst vs)) := by
  obtain ⟨p', qs', e1, e2, nd, h1, h2⟩ := own_ll f h
  rw [hp] at e2
  obtain ⟨rfl, rfl⟩ := List.cons.inj e2
  have hq : q ∈ qs := List.mem_of_getElem? e
  have ne : p ≠ q := fun z => by
    rw [hp, List.nodup_cons] at nd
    exact nd.1 (z ▸ hq)
  have hn : n < qs.length := (List.getElem?_eq_some_iff.mp e).1
  refine f.mut h e1 (fun a h1 _ => upd_ne (fun z => h1 (by rw [z, hp]; exact List.mem_cons_of_mem _ hq))) nd (fun a ha => ⟨.inl ha, ?_⟩) ⟨p, qs, rfl, hp, by rw [upd_ne ne]; exact h1, ?_⟩
  · by_cases z : a = q
    · subst z
      exact ⟨_, upd_same, nt_lst⟩
    · rw [upd_ne z]
      obtain ⟨_, _, _, o, _⟩ := f.ok i _ h
      exact (o a ha).2
  · refine pr_of (by rw [List.length_set]; exact pr_len h2) fun j a xs ha hx => ?_
    by_cases hj : n = j
    · subst hj
      rw [List.getElem?_set_self (by rw [← pr_len h2]; exact hn)] at hx
      have e5 := Option.some.inj hx
      rw [e] at ha
      have e6 := Option.some.inj ha
      subst e5 e6
      exact ⟨vs, upd_same, r⟩
    · rw [List.getElem?_set_ne hj] at hx
      obtain ⟨a', ha', us, h4, h5⟩ := pr_get h2 hx
      rw [ha] at ha'
      have e6 := Option.some.inj ha'
      subst e6
      refine ⟨us, ?_, h5⟩
      rw [upd_ne (fun z => hj ?_)]
      · exact h4
      · -- no address twice
        rw [hp, List.nodup_cons] at nd
        have hja : j < qs.length := (List.getElem?_eq_some_iff.mp ha).1
        rw [List.getElem?_eq_getElem hja] at ha
        rw [List.getElem?_eq_getElem hn] at e
        have w1 := Option.some.inj ha
        have w2 := Option.some.inj e
        exact ((List.getElem?_inj hn nd.2).mp (by rw [List.getElem?_eq_getElem hn, List.getElem?_eq_getElem hja, w1, w2, z]))
/-- x[a].append(b) -/
theorem s_appL (i : Nat) {ps : List Addr} {ls : List (List α)} {n : Nat} {zs : List α} {y : α} (ha : EJ X a Γ Γ ⟨n⟩) (hb : EJ X b Γ Γ ⟨y⟩) (hz : ls[n]? = some zs) (hl : zs.length < 1000000) (k : D.nx (Γ.set i (.own ps ⟨(⟨ls.set n (zs ++ [y])⟩ : Oll α)⟩)))
    (h : Γ[i]? = some (.own ps ⟨(⟨ls⟩ : Oll α)⟩) := by rfl)
    (hN : X.N[i]? = some x := by rfl) (hv : Vis X.env.scope x := by first | exact Or.inl rfl | exact Or.inr (Or.inl rfl) | exact Or.inr (Or.inr rfl)) (hd : (x == ("__debug__" : Str)) = false := by decide) (hcd : (x == ("__classdict__" : Str)) = false := by decide) (hs1 : PlainIx a := by intro _ _; rfl)
    (hbase : attributeBase (.Subscript (.Name x p2) a p3) "append" X.env (eval (.Subscript (.Name x p2) a p3) X.env) = eval (.Subscript (.Name x p2) a p3) X.env := by rfl)
    (hfew : ((backTo pos (starEach [b] X.env)).all (fun x => !x.1) && (backToKw pos (keywordEach [] X.env)).all (fun x => x.1.isSome) && decide ([b].length + ([] : List Keyword).length + (if ([] : List Keyword).isEmpty then 0 else 1) < 30)) = true := by rfl)
    (hline : (apos.endLine == pos.line) = true := by rfl) (hs : starEach [b] X.env = [(false, eval b X.env)] := by rfl) (hsw : swapsWith (.Call (.Attribute (.Subscript (.Name x p2) a p3) "append" apos) [b] [] pos) none pos'.line X.env = pure false := by rfl) :
    SJ X (.Expr (.Call (.Attribute (.Subscript (.Name x p2) a p3) "append" apos) [b] [] pos) pos') Γ D :=
  .of (ps_expr (pe_bm PySem.F.plainAttrs_list PySem.F.slot_list_append PySem.F.type_list_append mt_append (pe_ix ix_list (pe_var hN hv hd hcd) pe_tE hs1) pa_tA hbase hfew hline hs rfl) hsw) fun B σ G H f E q1 q2 q3 => by
    obtain ⟨p, qs, e1, e2, nd, h1, h2⟩ := own_ll f h
    refine ⟨_, e1, ha B σ G H f _ fun v G1 H1 f1 s1 r1 => ?_⟩
    obtain ⟨p', qs', e1', e2', nd', h1', h2'⟩ := own_ll f1 h
    rw [e2] at e2'
    obtain ⟨rfl, rfl⟩ := List.cons.inj e2'
    have e4 : v = V.int (n : Int) := r1
    subst e4
    obtain ⟨q0, hq0, us, h5, h6⟩ := pr_get h2' hz
    refine ⟨p, qs.map V.ref, (n : Int), .ref q0, rfl, rfl, .inl (.inl h1'), atI_nat (by rw [List.getElem?_map, hq0] <;> rfl), .inl ⟨rfl, _, .inl (.inl h5)⟩, a_1 hb hs B σ G1 H1 f1 _ fun ws G2 H2 f2 s2 r2 => ?_⟩
    match ws, r2 with
    | [w], ⟨r2, _⟩ =>
      obtain ⟨p', qs', e1', e2', nd', h1', h2'⟩ := own_ll f2 h
      rw [e2] at e2'
      obtain ⟨rfl, rfl⟩ := List.cons.inj e2'
      obtain ⟨q9, hq9, us, h5, h6⟩ := pr_get h2' hz
      rw [hq0] at hq9
      have e7 := Option.some.inj hq9
      subst e7
      refine ⟨q0, us, w, rfl, rfl, h5, by rw [pr_len h6]; exact szlt hl, ?_⟩
      exact q1 σ G2 _ _ (mutL f2 h e2 hq0 (pr_app h6 (.cons r2 .nil))) k
/-- x[a].pop(b) -/
theorem e_popL (i : Nat) {ps : List Addr} {ls : List (List α)} {n m : Nat} {zs : List α} {y : α} (ha : EJ X a Γ Γ ⟨n⟩) (hb : EJ X b Γ Γ1 ⟨m⟩) (hz : ls[n]? = some zs) (hy : zs[m]? = some y) (hm : m < 1000000)
    (h : Γ[i]? = some (.own ps ⟨(⟨ls⟩ : Oll α)⟩) := by rfl) (h' : Γ1[i]? = some (.own ps ⟨(⟨ls⟩ : Oll α)⟩) := by rfl)
    (hN : X.N[i]? = some x := by rfl) (hv : Vis X.env.scope x := by first | exact Or.inl rfl | exact Or.inr (Or.inl rfl) | exact Or.inr (Or.inr rfl)) (hd : (x == ("__debug__" : Str)) = false := by decide) (hcd : (x == ("__classdict__" : Str)) = false := by decide) (hs1 : PlainIx a := by intro _ _; rfl)
    (hbase : attributeBase (.Subscript (.Name x p2) a p3) "pop" X.env (eval (.Subscript (.Name x p2) a p3) X.env) = eval (.Subscript (.Name x p2) a p3) X.env := by rfl)
    (hfew : ((backTo pos (starEach [b] X.env)).all (fun x => !x.1) && (backToKw pos (keywordEach [] X.env)).all (fun x => x.1.isSome) && decide ([b].length + ([] : List Keyword).length + (if ([] : List Keyword).isEmpty then 0 else 1) < 30)) = true := by rfl)
    (hline : (apos.endLine == pos.line) = true := by rfl) (hs : starEach [b] X.env = [(false, eval b X.env)] := by rfl) :
    EJ X (.Call (.Attribute (.Subscript (.Name x p2) a p3) "pop" apos) [b] [] pos) Γ (Γ1.set i (.own ps ⟨(⟨ls.set n (zs.eraseIdx m)⟩ : Oll α)⟩)) ⟨y⟩ :=
  .of (pe_bm PySem.F.plainAttrs_list PySem.F.slot_list_pop PySem.F.type_list_pop mt_popAt (pe_ix ix_list (pe_var hN hv hd hcd) pe_tE hs1) pa_tA hbase hfew hline hs rfl) fun B σ G H f Q q => by
    obtain ⟨p, qs, e1, e2, nd, h1, h2⟩ := own_ll f h
    refine ⟨_, e1, ha B σ G H f _ fun v G1 H1 f1 s1 r1 => ?_⟩
    obtain ⟨p', qs', e1', e2', nd', h1', h2'⟩ := own_ll f1 h
    rw [e2] at e2'
    obtain ⟨rfl, rfl⟩ := List.cons.inj e2'
    have e4 : v = V.int (n : Int) := r1
    subst e4
    obtain ⟨q0, hq0, us, h5, h6⟩ := pr_get h2' hz
    refine ⟨p, qs.map V.ref, (n : Int), .ref q0, rfl, rfl, .inl (.inl h1'), atI_nat (by rw [List.getElem?_map, hq0] <;> rfl), .inl ⟨rfl, _, .inl (.inl h5)⟩, a_1 hb hs B σ G1 H1 f1 _ fun ws G2 H2 f2 s2 r2 => ?_⟩
    match ws, r2 with
    | [w], ⟨r2, _⟩ =>
      obtain ⟨p', qs', e1', e2', nd', h1', h2'⟩ := own_ll f2 h'
      rw [e2] at e2'
      obtain ⟨rfl, rfl⟩ := List.cons.inj e2'
      obtain ⟨q9, hq9, us, h5, h6⟩ := pr_get h2' hz
      rw [hq0] at hq9
      have e7 := Option.some.inj hq9
      subst e7
      have e4 : w = V.int (m : Int) := r2
      subst e4
      obtain ⟨u, hu, ru⟩ := pr_get h6 hy
      have hl : m < us.length := (List.getElem?_eq_some_iff.mp hu).1
      refine ⟨q0, us, (m : Int), m, u, rfl, rfl, h5, by omega, by omega, ?_, hu, ?_⟩
      · rw [seqIndex_of (by omega) (by omega), Int.toNat_natCast]
      · exact q u G2 _ (mutL f2 h' e2 hq0 (pr_erase m h6)) (s1.trans s2) ru
/-- len(x[a]) -/
theorem e_lenL (i : Nat) {ps : List Addr} {ls : List (List α)} {n : Nat} {zs : List α} (hm : X.mg "len" = none) (ha : EJ X a Γ Γ ⟨n⟩) (hz : ls[n]? = some zs) (h : Γ[i]? = some (.own ps ⟨(⟨ls⟩ : Oll α)⟩) := by rfl) (hg : Gl X "len" := by rfl)
    (hN : X.N[i]? = some x := by rfl) (hv : Vis X.env.scope x := by first | exact Or.inl rfl | exact Or.inr (Or.inl rfl) | exact Or.inr (Or.inr rfl)) (hd : (x == ("__debug__" : Str)) = false := by decide) (hcd : (x == ("__classdict__" : Str)) = false := by decide) (hs1 : PlainIx a := by intro _ _; rfl)
    (he : starEach [.Subscript (.Name x p2) a p3] X.env = [(false, eval (.Subscript (.Name x p2) a p3) X.env)] := by rfl) : EJ X (.Call (.Name "len" p4) [.Subscript (.Name x p2) a p3] [] pos) Γ Γ ⟨zs.length⟩ :=
  .of (pe_callB call_len_seq hg hm PySem.boot_len (pa_cons (pe_ix ix_list (pe_var hN hv hd hcd) pe_tE hs1) pa_nil he) (by decide) (by decide) he rfl) fun B σ G H f Q q => by
    obtain ⟨p, qs, e1, e2, nd, h1, h2⟩ := own_ll f h
    refine ⟨_, e1, ha B σ G H f _ fun v G1 H1 f1 s1 r1 => ?_⟩
    obtain ⟨p', qs', e1', e2', nd', h1', h2'⟩ := own_ll f1 h
    rw [e2] at e2'
    obtain ⟨rfl, rfl⟩ := List.cons.inj e2'
    have e4 : v = V.int (n : Int) := r1
    subst e4
    obtain ⟨q0, hq0, us, h5, h6⟩ := pr_get h2' hz
    refine ⟨p, qs.map V.ref, (n : Int), .ref q0, rfl, rfl, .inl (.inl h1'), atI_nat (by rw [List.getElem?_map, hq0] <;> rfl), ?_⟩
    refine ⟨q0, us, rfl, .inl (.inl (.inl h5)), q _ G1 H1 f1 s1 ?_⟩
    rw [pr_len h6]
    rfl
/-! ### a dict of one's own lists -/
section
variable {κ : Type} [Enc κ] [KeyT κ] [KeyE κ] [DecidableEq κ]
theorem n_dnewL : NJ X (.Dict [] [] pos) Γ Γ ⟨(⟨[]⟩ : Odl κ β)⟩ := .of pe_dnewT fun B σ G H f Q q p hp => q (.ref p) [p] G H _ f (Same.refl _) (by simp) (one_new hp nt_dT) (same_new hp) ⟨p, [], [], rfl, rfl, upd_same, .nil, .nil, .nil⟩
/-- y added to the list at the key -/
def addL (l : List (κ × List β)) (j : κ) (y : β) : List (κ × List β) := if (look l j).isSome then l.map fun p => if p.1 = j then (p.1, p.2 ++ [y]) else p else l ++ [(j, [y])]
theorem own_dl {B : Hp × Hp} {σ : Sg} {G H : Hp} {i : Nat} {ps : List Addr} {l : List (κ × List β)} (f : Fits B Γ σ G H) (h : Γ[i]? = some (.own ps ⟨(⟨l⟩ : Odl κ β)⟩)) :
    ∃ p kvs qs, σ[i]? = some (some (.ref p)) ∧ ps = p :: qs ∧ ps.Nodup ∧ H p = some (.dT kvs) ∧ Paired (fun (e : List Key × V) (q : Addr) => e.2 = .ref q) kvs qs ∧
      Paired (fun (e : List Key × V) (z : κ × List β) => e.1 = KeyT.key z.1) kvs l ∧ Paired (fun q (z : κ × List β) => ∃ vs, H q = some (.lst vs) ∧ reps G vs z.2) qs l := by
  obtain ⟨v, e1, nd, h1, p, kvs, qs, rfl, rfl, h2, h3, h4, h5⟩ := f.ok i _ h
  exact ⟨p, kvs, qs, e1, rfl, nd, h2, h3, h4, h5⟩
theorem keys_at : ∀ {kvs : List (List Key × V)} {l : List (κ × List β)} (j : κ), Paired (fun (e : List Key × V) (z : κ × List β) => e.1 = KeyT.key z.1) kvs l → (valV kvs (KeyT.key j) = none ∧ look l j = none) ∨
    ∃ (n : Nat) (e : List Key × V) (z : κ × List β), kvs[n]? = some e ∧ l[n]? = some z ∧ z.1 = j ∧ valV kvs (KeyT.key j) = some e.2 ∧ look l j = some z.2
  | _, _, j, .nil => .inl ⟨rfl, rfl⟩
  | e :: kvs, z :: l, j, .cons r t => by
    by_cases h : z.1 = j
    · exact .inr ⟨0, e, z, rfl, rfl, h, valV_pos (by rw [r, h]), by rw [look_cons, if_pos h]⟩
    · have h2 : ¬ e.1 = KeyT.key j := fun q => h (KeyT.inj (r.symm.trans q))
      rcases keys_at j t with ⟨q1, q2⟩ | ⟨n, e', z', q1, q2, q3, q4, q5⟩
      · exact .inl ⟨by rw [valV_neg h2]; exact q1, by rw [look_cons, if_neg h]; exact q2⟩
      · exact .inr ⟨n + 1, e', z', q1, q2, q3, by rw [valV_neg h2]; exact q4, by rw [look_cons, if_neg h]; exact q5⟩
theorem mutDL {B : Hp × Hp} {σ : Sg} {G H : Hp} {i n : Nat} {ps : List Addr} {p q : Addr} {qs : List Addr} {l : List (κ × List β)} {z : κ × List β} {zs : List β} {vs : List V} (f : Fits B Γ σ G H) (h : Γ[i]? = some (.own ps ⟨(⟨l⟩ : Odl κ β)⟩)) (hp : ps = p :: qs)
    (e : qs[n]? = some q) (ez : l[n]? = some z) (r : reps G vs zs) : Fits B (Γ.set i (.own ps ⟨(⟨l.set n (z.1, zs)⟩ : Odl κ β)⟩)) σ G (upd H q (.lst vs)) := by
  obtain ⟨p', kvs, qs', e1, e2, nd, h1, h0, h3, h2⟩ := own_dl f h
  rw [hp] at e2
  obtain ⟨rfl, rfl⟩ := List.cons.inj e2
  have hq : q ∈ qs := List.mem_of_getElem? e
  have ne : p ≠ q := fun z => by
    rw [hp, List.nodup_cons] at nd
    exact nd.1 (z ▸ hq)
  have hn : n < qs.length := (List.getElem?_eq_some_iff.mp e).1
  refine f.mut h e1 (fun a h1 _ => upd_ne (fun z => h1 (by rw [z, hp]; exact List.mem_cons_of_mem _ hq))) nd (fun a ha => ⟨.inl ha, ?_⟩) ⟨p, kvs, qs, rfl, hp, by rw [upd_ne ne]; exact h1, h0, ?_, ?_⟩
  · by_cases z : a = q
    · subst z
      exact ⟨_, upd_same, nt_lst⟩
    · rw [upd_ne z]
      obtain ⟨_, _, _, o, _⟩ := f.ok i _ h
      exact (o a ha).2
  · refine pr_of (by rw [List.length_set]; exact pr_len h3) fun j a xs ha hx => ?_
    by_cases hj : n = j
    · subst hj
      rw [List.getElem?_set_self (by rw [← pr_len h2]; exact hn)] at hx
      have e5 := Option.some.inj hx
      subst e5
      obtain ⟨a', ha', h4⟩ := pr_get h3 ez
      rw [ha] at ha'
      have e6 := Option.some.inj ha'
      subst e6
      exact h4
    · rw [List.getElem?_set_ne hj] at hx
      obtain ⟨a', ha', h4⟩ := pr_get h3 hx
      rw [ha] at ha'
      have e6 := Option.some.inj ha'
      subst e6
      exact h4
  · refine pr_of (by rw [List.length_set]; exact pr_len h2) fun j a xs ha hx => ?_
    by_cases hj : n = j
    · subst hj
      rw [List.getElem?_set_self (by rw [← pr_len h2]; exact hn)] at hx
      have e5 := Option.some.inj hx
      rw [e] at ha
      have e6 := Option.some.inj ha
      subst e5 e6
      exact ⟨vs, upd_same, r⟩
    · rw [List.getElem?_set_ne hj] at hx
      obtain ⟨a', ha', us, h4, h5⟩ := pr_get h2 hx
      rw [ha] at ha'
      have e6 := Option.some.inj ha'
      subst e6
      refine ⟨us, ?_, h5⟩
      rw [upd_ne (fun z => hj ?_)]
      · exact h4
      · rw [hp, List.nodup_cons] at nd
        exact (List.getElem?_inj hn nd.2).mp (by rw [e, ha, z])
theorem addL_none {l : List (κ × List β)} {j : κ} {y : β} (h : look l j = none) : addL l j y = l ++ [(j, [y])] := by
  unfold addL
  rw [h]
  exact if_neg (fun z => nomatch z)
theorem addL_some {l : List (κ × List β)} {j : κ} {y : β} {n : Nat} {z : κ × List β} (nk : (l.map (·.1)).Nodup) (e : l[n]? = some z) (ej : z.1 = j) (h : look l j = some z.2) : addL l j y = l.set n (z.1, z.2 ++ [y]) := by
  unfold addL
  rw [h, if_pos (show (some z.snd).isSome = true from rfl)]
  apply List.ext_getElem?
  intro m
  have hn : n < l.length := (List.getElem?_eq_some_iff.mp e).1
  rw [List.getElem?_map]
  by_cases hm : n = m
  · subst hm
    rw [List.getElem?_set_self hn, e]
    show some (if z.1 = j then (z.1, z.2 ++ [y]) else z) = _
    rw [if_pos ej]
  · rw [List.getElem?_set_ne hm]
    cases e2 : l[m]? with
    | none => rfl
    | some w =>
      show some (if w.1 = j then (w.1, w.2 ++ [y]) else w) = _
      rw [if_neg]
      intro ew
      refine hm ((List.getElem?_inj (by rw [List.length_map]; exact hn) nk).mp ?_)
      rw [List.getElem?_map, List.getElem?_map, e, e2]
      show some z.1 = some w.1
      rw [ej, ew]
/-- x.setdefault(a, []).append(b) -/
theorem s_sdapp (i : Nat) {ps : List Addr} {l : List (κ × List β)} {j : κ} {y : β} (hr : Room lv X.A) (nk : (l.map (·.1)).Nodup) (ha : EJ X a Γ Γ ⟨j⟩) (hb : ∀ ps' y', EJ X b (Γ.set i (.own ps' y')) (Γ.set i (.own ps' y')) ⟨y⟩) (hl : l.length < 1000000) (hl2 : ∀ p ∈ l, p.2.length < 1000000)
    (k : ∀ ps', D.nx (Γ.set i (.own ps' ⟨(⟨addL l j y⟩ : Odl κ β)⟩))) (h : Γ[i]? = some (.own ps ⟨(⟨l⟩ : Odl κ β)⟩) := by rfl)
    (hN : X.N[i]? = some x := by rfl) (hv : Vis X.env.scope x := by first | exact Or.inl rfl | exact Or.inr (Or.inl rfl) | exact Or.inr (Or.inr rfl)) (hd : (x == ("__debug__" : Str)) = false := by decide) (hcd : (x == ("__classdict__" : Str)) = false := by decide) {sp ap lp : Pos}
    (hbase0 : attributeBase (.Name x p2) "setdefault" X.env (eval (.Name x p2) X.env) = eval (.Name x p2) X.env := by rfl)
    (hfew0 : ((backTo sp (starEach [a, .List [] lp] X.env)).all (fun x => !x.1) && (backToKw sp (keywordEach [] X.env)).all (fun x => x.1.isSome) && decide ([a, .List [] lp].length + ([] : List Keyword).length + (if ([] : List Keyword).isEmpty then 0 else 1) < 30)) = true := by rfl)
    (hline0 : (ap.endLine == sp.line) = true := by rfl) (hs0 : starEach [a, .List [] lp] X.env = [(false, eval a X.env), (false, eval (.List [] lp) X.env)] := by rfl) (hs00 : starEach [.List [] lp] X.env = [(false, eval (.List [] lp) X.env)] := by rfl) (hpl0 : (backTo sp (starEach [.List [] lp] X.env)).any (·.1) = false := by rfl)
    (hbase : attributeBase (.Call (.Attribute (.Name x p2) "setdefault" ap) [a, .List [] lp] [] sp) "append" X.env (eval (.Call (.Attribute (.Name x p2) "setdefault" ap) [a, .List [] lp] [] sp) X.env) = eval (.Call (.Attribute (.Name x p2) "setdefault" ap) [a, .List [] lp] [] sp) X.env := by rfl)
    (hfew : ((backTo pos (starEach [b] X.env)).all (fun x => !x.1) && (backToKw pos (keywordEach [] X.env)).all (fun x => x.1.isSome) && decide ([b].length + ([] : List Keyword).length + (if ([] : List Keyword).isEmpty then 0 else 1) < 30)) = true := by rfl)
    (hline : (apos.endLine == pos.line) = true := by rfl) (hs : starEach [b] X.env = [(false, eval b X.env)] := by rfl)
    (hsw : swapsWith (.Call (.Attribute (.Call (.Attribute (.Name x p2) "setdefault" ap) [a, .List [] lp] [] sp) "append" apos) [b] [] pos) none pos'.line X.env = pure false := by rfl) :
    SJ X (.Expr (.Call (.Attribute (.Call (.Attribute (.Name x p2) "setdefault" ap) [a, .List [] lp] [] sp) "append" apos) [b] [] pos) pos') Γ D :=
  .of (ps_expr (pe_bm PySem.F.plainAttrs_list PySem.F.slot_list_append PySem.F.type_list_append mt_append
    (pe_bm PySem.F.plainAttrs_dict PySem.F.slot_dict_setdefault PySem.F.type_dict_setdefault (mt_setdT (hu_of hr)) (pe_var hN hv hd hcd) (pa_cons pe_tE (pa_cons (pe_lst pa_nil) pa_nil hs00) (by rw [hs0, hs00])) hbase0 hfew0 hline0 (by rw [hs0, hs00]) hpl0) pa_tA hbase hfew hline hs rfl) hsw) fun B σ G H f E q1 q2 q3 => by
    obtain ⟨p, kvs, qs, e1, e2, nd, h1, h0, h3, h2⟩ := own_dl f h
    refine ⟨_, e1, .inr (.inr (.inl ⟨rfl, .inr ⟨_, h1⟩⟩)), ha B σ G H f _ fun v G1 H1 f1 s1 r1 => ⟨Nat.zero_le _, fun p' hp' => ?_⟩⟩
    obtain ⟨p1, kvs1, qs1, e1', e2', nd1, h1', h0', h3', h2'⟩ := own_dl f1 h
    rw [e2] at e2'
    obtain ⟨rfl, rfl⟩ := List.cons.inj e2'
    obtain ⟨t, rfl, ht⟩ := KeyE.to r1
    have npp : p ≠ p' := fun z => by
      rw [← z, h1'] at hp'
      cases hp'
    refine ⟨p, t, kvs1, KeyT.key j, .ref p', rfl, rfl, by rw [upd_ne npp]; exact h1', ?_, by rw [pr_len h3']; exact szlt hl, fun u hu => ?_, fun hno => ?_⟩
    · rw [upd_ne (ne_of_none (f1.sub _ _ ht) hp')]
      exact f1.sub _ _ ht
    · rcases keys_at j h3' with ⟨q1', _⟩ | ⟨n, en, z, w1, w2, w3, w4, w5⟩
      · rw [q1'] at hu
        cases hu
      · rw [w4] at hu
        have eu := Option.some.inj hu
        subst eu
        obtain ⟨q0, hq0, eq0⟩ := pr_get' h0' w1
        rw [eq0]
        have f2 := f1.grow (same_new (o := .lst []) hp')
        obtain ⟨q9, hq9, us, h5, h6⟩ := pr_get h2' w2
        rw [hq0] at hq9
        have e7 := Option.some.inj hq9
        subst e7
        have e8 : (upd H1 p' (.lst [])) q0 = some (.lst us) := by
          rw [upd_ne (ne_of_none h5 hp')]
          exact h5
        have fs : Γ.set i (.own ps ⟨(⟨l⟩ : Odl κ β)⟩) = Γ := by
          apply List.ext_getElem?
          intro m
          by_cases hm : i = m
          · subst hm
            rw [List.getElem?_set_self (List.getElem?_eq_some_iff.mp h).1, h]
          · rw [List.getElem?_set_ne hm]
        refine ⟨.inl ⟨rfl, _, .inl (.inl e8)⟩, a_1 (by have z := hb ps ⟨(⟨l⟩ : Odl κ β)⟩; rw [fs] at z; exact z) hs B σ G1 _ f2 _ fun ws G2 H2 f3 s2 r2 => ?_⟩
        match ws, r2 with
        | [w], ⟨r2, _⟩ =>
          obtain ⟨p2', kvs2, qs2, e1'', e2'', nd2, h1'', h0'', h3'', h2''⟩ := own_dl f3 h
          rw [e2] at e2''
          obtain ⟨rfl, rfl⟩ := List.cons.inj e2''
          obtain ⟨q9, hq9, us2, h7, h8⟩ := pr_get h2'' w2
          rw [hq0] at hq9
          have e7 := Option.some.inj hq9
          subst e7
          refine ⟨q0, us2, w, rfl, rfl, h7, by rw [pr_len h8]; exact szlt (hl2 z (List.mem_of_getElem? w2)), ?_⟩
          have kk := k ps
          rw [addL_some nk w2 w3 w5] at kk
          exact q1 σ G2 _ _ (mutDL f3 h e2 hq0 w2 (pr_app h8 (.cons r2 .nil))) kk
    · rcases keys_at j h3' with ⟨_, lno⟩ | ⟨n, en, z, w1, w2, w3, w4, w5⟩
      · have np : p' ∉ ps := fun z => by
          obtain ⟨_, _, _, o, _⟩ := f1.ok i _ h
          obtain ⟨_, ob, z2, _⟩ := o p' z
          rw [hp'] at z2
          cases z2
        have hil : i < Γ.length := (List.getElem?_eq_some_iff.mp h).1
        have f2 : Fits B (Γ.set i (.own (ps ++ [p']) ⟨(⟨l ++ [(j, [])]⟩ : Odl κ β)⟩)) σ G1 (upd (upd H1 p' (.lst [])) p (.dT (kvs1 ++ [(KeyT.key j, .ref p')]))) := by
          refine f1.mut h e1' (fun a z1 z2 => ?_) (by
            rw [List.nodup_append]
            exact ⟨nd1, by simp, fun a ha b hb2 z => np (by
              have e9 : b = p' := by simpa using hb2
              rw [← e9, ← z]
              exact ha)⟩) (fun a ha' => ?_) ⟨p, kvs1 ++ [(KeyT.key j, .ref p')], qs ++ [p'], rfl, by rw [e2]; rfl, upd_same, pr_app h0' (.cons rfl .nil), pr_app h3' (.cons rfl .nil), pr_app (pr_of (pr_len h2') fun m a xs hm hx => ?_) (.cons ⟨[], ?_, .nil⟩ .nil)⟩
          · rw [upd_ne (fun z => z1 (by rw [z, e2]; exact List.mem_cons_self ..)), upd_ne (fun z => z2 (by rw [z]; exact List.mem_append_right _ (by simp)))]
          · by_cases za : a = p
            · subst za
              exact ⟨.inl (by rw [e2]; exact List.mem_cons_self ..), _, upd_same, nt_dT⟩
            · rw [upd_ne za]
              rcases List.mem_append.mp ha' with z | z
              · obtain ⟨_, _, _, o, _⟩ := f1.ok i _ h
                obtain ⟨_, ob, z2, z3⟩ := o a z
                exact ⟨.inl z, ob, by rw [upd_ne (ne_of_none z2 hp')]; exact z2, z3⟩
              · have e9 : a = p' := by simpa using z
                subst e9
                exact ⟨.inr hp', _, upd_same, nt_lst⟩
          · obtain ⟨a', ha2, us, h5, h6⟩ := pr_get h2' hx
            rw [hm] at ha2
            have e9 := Option.some.inj ha2
            subst e9
            refine ⟨us, ?_, h6⟩
            have nap : a ≠ p := fun z => by
              rw [e2, List.nodup_cons] at nd1
              exact nd1.1 (z ▸ List.mem_of_getElem? hm)
            rw [upd_ne nap, upd_ne (ne_of_none h5 hp')]
            exact h5
          · rw [upd_ne (Ne.symm npp)]
            exact upd_same
        refine ⟨.inl ⟨rfl, [], .inl (.inl (by rw [upd_ne (Ne.symm npp)]; exact upd_same))⟩, a_1 (hb _ _) hs B σ G1 _ f2 _ fun ws G2 H2 f3 s2 r2 => ?_⟩
        match ws, r2 with
        | [w], ⟨r2, _⟩ =>
          have h' : (Γ.set i (.own (ps ++ [p']) ⟨(⟨l ++ [(j, [])]⟩ : Odl κ β)⟩))[i]? = some (.own (ps ++ [p']) ⟨(⟨l ++ [(j, [])]⟩ : Odl κ β)⟩) := List.getElem?_set_self hil
          obtain ⟨p2', kvs2, qs2, e1'', e2'', nd2, h1'', h0'', h3'', h2''⟩ := own_dl f3 h'
          have e2b : ps ++ [p'] = p :: (qs ++ [p']) := by rw [e2]; rfl
          rw [e2b] at e2''
          obtain ⟨rfl, rfl⟩ := List.cons.inj e2''
          have lq : qs.length = l.length := pr_len h2'
          have hq0 : (qs ++ [p'])[l.length]? = some p' := by rw [← lq]; simp
          have hz0 : (l ++ [(j, [])])[l.length]? = some (j, ([] : List β)) := by simp
          obtain ⟨q9, hq9, us2, h7, h8⟩ := pr_get h2'' hz0
          rw [hq0] at hq9
          have e7 := Option.some.inj hq9
          subst e7
          refine ⟨p', us2, w, rfl, rfl, h7, by rw [pr_len h8]; exact szlt (show 0 < 1000000 by decide), ?_⟩
          have kk := k (ps ++ [p'])
          rw [addL_none lno] at kk
          have f4 := mutDL f3 h' e2b hq0 hz0 (pr_app h8 (.cons r2 .nil))
          rw [List.set_set] at f4
          have e10 : (l ++ [(j, [])]).set l.length (j, [] ++ [y]) = l ++ [(j, [y])] := by
            rw [List.set_append_right _ _ (Nat.le_refl _), Nat.sub_self]
            rfl
          rw [e10] at f4
          exact q1 σ G2 _ _ f4 kk
      · rw [w4] at hno
        cases hno
end
end
end Ty

namespace Ty
open PySem PySem.Spec PyProof.Rows L2 Ty.Enc
section
variable {X : Cx} {e a b c o : Expr} {es : List Expr} {Γ Γ1 Γ2 Γ3 Γ4 Γ' : Env'} {d d1 d2 d3 d4 : Dyn} {te ta tb : TE} {p2 p3 p4 apos pos pos' : Pos} {k : Bool} {r : R2} {D : TD} {x : Str} {ds : List Dyn} {α β : Type} [Enc α] [Enc β] {lv : Nat}
/-! ### [x[h] for h in x], x a dict that stands -/
theorem valV_nd {κ : Type} [DecidableEq κ] : ∀ {kvs : List (κ × V)} {k : κ} {v : V}, (kvs.map (·.1)).Nodup → (k, v) ∈ kvs → valV kvs k = some v
  | [], _, _, _, h => by cases h
  | p :: kvs, k, v, nd, h => by
    rw [List.map_cons, List.nodup_cons] at nd
    rcases List.mem_cons.mp h with e | h
    · rw [← e]
      exact valV_pos rfl
    · rw [valV_neg]
      · exact valV_nd nd.2 h
      · intro e
        exact nd.1 (List.mem_map.mpr ⟨_, h, e.symm⟩)
theorem n_lcVals {κ : Type} [Enc κ] [KeyT κ] [KeyE κ] [DecidableEq κ] {scope : Scope} (nd : X.N.Nodup) (i j : Nat) {h x : Str} {l : List (κ × β)} {hp hp2 xp xp2 sp : Pos} (hr : Room lv X.A) (nk : (l.map (·.1)).Nodup) (hl : l.length ≤ 100000) (e1 : Γ[i]? = some (.fro ⟨(⟨l⟩ : DT κ β)⟩) := by rfl) {sj : Sl} (hjl : Γ[j]? = some sj := by rfl)
    (ij : i ≠ j := by decide) (ok : BlkOk X.N X.env.scope scope [(h, j)] := by exact blkOk_by (by rfl)) (hN : X.N[i]? = some x := by rfl) (hNj : X.N[j]? = some h := by rfl) (hv : Vis X.env.scope x := by first | exact Or.inl rfl | exact Or.inr (Or.inl rfl) | exact Or.inr (Or.inr rfl)) (hd : (x == ("__debug__" : Str)) = false := by decide) (hcd : (x == ("__classdict__" : Str)) = false := by decide)
    (hdh : (h == ("__debug__" : Str)) = false := by decide) (hcdh : (h == ("__classdict__" : Str)) = false := by decide)
    (hvb : ∀ (s : Shared) (H : Hp) (C : Addr) (cl : List (Str × Addr)) (fp : List Addr), Vis (X.blk s H scope (compEnvC scope cl C X.env) fp).env.scope x := by intro _ _ _ _ _; first | exact Or.inl rfl | exact Or.inr (Or.inl rfl) | exact Or.inr (Or.inr rfl))
    (hvh : ∀ (s : Shared) (H : Hp) (C : Addr) (cl : List (Str × Addr)) (fp : List Addr), Vis (X.blk s H scope (compEnvC scope cl C X.env) fp).env.scope h := by intro _ _ _ _ _; first | exact Or.inl rfl | exact Or.inr (Or.inl rfl) | exact Or.inr (Or.inr rfl))
    (hlo : ∀ (s : Shared) (H : Hp) (C : Addr) (cl : List (Str × Addr)) (fp : List Addr), Loc (X.blk s H scope (compEnvC scope cl C X.env) fp).env.scope h := by intro _ _ _ _ _; first | exact Or.inl rfl | exact Or.inr rfl)
    (hf : ∀ (s : Shared) (H : Hp) (C : Addr) (cl : List (Str × Addr)) (fp : List Addr), (X.blk s H scope (compEnvC scope cl C X.env) fp).fn h = true ∨ (X.blk s H scope (compEnvC scope cl C X.env) fp).env.scope.names.lookup h = some .local := by intro _ _ _ _ _; first | exact .inl rfl | exact .inr rfl)
    (hc : X.calm = true := by rfl) (hsx : ∀ z, foldedSetIterable (.Name x xp2) X.env z = pure z := by intro _; rfl) (hns : NoSl (.Name h hp2) := by intro _ _; rfl) :
    NJ X (.ListComp (.Subscript (.Name x xp) (.Name h hp2) sp) [⟨.Name h hp, .Name x xp2, [], 0⟩] scope pos) Γ Γ ⟨(⟨l.map (·.2)⟩ : Ol β)⟩ := by
  refine .of (pe_lock (pe_lc hc nd (pi_keys (pe_var hN hv hd hcd)) ok (fun s H C cl fp => pg_name (X := X.blk s H scope (compEnvC scope cl C X.env) fp) nd hNj (hlo s H C cl fp) (hf s H C cl fp)) (fun s H C cl fp => pts_nil)
    (fun s H C cl fp => pe_dget (X := X.blk s H scope (compEnvC scope cl C X.env) fp) (hu_of hr) (pe_var hN (hvb s H C cl fp) hd hcd) (pe_var hNj (hvh s H C cl fp) hdh hcdh) hns) hsx)) fun B σ G H f Q q => ?_
  obtain ⟨v, ev, p, kvs, rfl, h1, h2⟩ := f.ok i _ e1
  have hp' := f.sub _ _ h1
  have h3 : Paired (fun (p : List Key × V) (q : κ × β) => p.1 = KeyT.key q.1 ∧ rep G p.2 q.2) kvs l := h2
  have hi : i < σ.length := (List.getElem?_eq_some_iff.mp ev).1
  have hj : j < σ.length := by
    rw [f.len]
    exact (List.getElem?_eq_some_iff.mp hjl).1
  refine ⟨p, .dT kvs, hp', trivial, fun od => ?_⟩
  refine ⟨_, ev, p, od, rfl, .inr ⟨kvs, upd_same, fun Dl hD => ?_⟩⟩
  have npD : p ≠ Dl := fun z => by
    rw [← z, upd_same] at hD
    cases hD
  have hHD : H Dl = none := by
    rw [upd_ne (Ne.symm npD)] at hD
    exact hD
  refine ⟨fun n m H2 => m = kvs.length - n ∧ n ≤ kvs.length ∧ H2 = upd (upd H p (.frz od (.dT kvs))) Dl (.lst ((kvs.take n).map (·.2))), ⟨kvs.length, rfl, Nat.zero_le _, rfl⟩, fun n m H2 w => ?_⟩
  obtain ⟨rfl, hn, rfl⟩ := w
  have eP : (upd (upd H p (.frz od (.dT kvs))) Dl (.lst ((kvs.take n).map (·.2)))) p = some (.frz od (.dT kvs)) := by
    rw [upd_ne npD, upd_same]
  by_cases hlt : n < kvs.length
  · refine .inr ⟨⟨eP, hlt⟩, fun H' => H' = upd (upd H p (.frz od (.dT kvs))) Dl (.lst ((kvs.take (n + 1)).map (·.2))), fun H' z => ⟨kvs.length - (n + 1), by omega, rfl, hlt, z⟩, fun y H' yl => ?_⟩
    obtain ⟨rfl, kk, vv, t, hkv, rfl, ht⟩ := yl
    show wipe ((wipe σ [j]).set j (some (.ref t))) [j] = wipe σ [j] ∧ _
    refine ⟨?_, ?_⟩
    · show ((σ.set j none).set j (some (.ref t))).set j none = σ.set j none
      rw [List.set_set, List.set_set]
    · have ex : ((wipe σ [j]).set j (some (.ref t)))[i]? = some (some (.ref p)) := by
        rw [List.getElem?_set_ne (Ne.symm ij)]
        show (σ.set j none)[i]? = _
        rw [List.getElem?_set_ne (Ne.symm ij)]
        exact ev
      have eh : ((wipe σ [j]).set j (some (.ref t)))[j]? = some (some (.ref t)) := List.getElem?_set_self (by rw [wipe_length]; exact hj)
      refine ⟨_, ex, _, eh, p, vv, rfl, .inr ⟨kvs, kk, t, .inr ⟨od, eP⟩, rfl, ht, ?_⟩, ?_⟩
      · -- the value at the key
        have ndk : (kvs.map (·.1)).Nodup := by
          have g : ∀ {kvs : List (List Key × V)} {l : List (κ × β)}, Paired (fun (p : List Key × V) (q : κ × β) => p.1 = KeyT.key q.1 ∧ rep G p.2 q.2) kvs l → kvs.map (·.1) = (l.map (·.1)).map KeyT.key := by
            intro kvs l h
            induction h with
            | nil => rfl
            | cons h t ih => rw [List.map_cons, List.map_cons, List.map_cons, ih, h.1]
          rw [g h3, List.Nodup, List.pairwise_map]
          exact List.Pairwise.imp (fun h z => h (KeyT.inj z)) nk
        exact (valV_nd ndk (List.mem_of_getElem? hkv)).symm
      · refine ⟨_, upd_same, ?_, ?_⟩
        · rw [List.length_map, List.length_take]
          have z : kvs.length = l.length := pr_len h3
          exact szlt (by omega)
        · rw [upd_upd, map_take_succ hkv]
  · have e2 : n = kvs.length := by omega
    subst e2
    refine .inl ⟨⟨eP, Nat.le_refl _⟩, eP, ?_⟩
    rw [List.take_length]
    have e3 : upd (upd (upd H p (.frz od (.dT kvs))) Dl (.lst (kvs.map (·.2)))) p (.dT kvs) = upd H Dl (.lst (kvs.map (·.2))) := by
      funext a
      by_cases z : a = p
      · subst z
        rw [upd_same, upd_ne npD, hp']
      · rw [upd_ne z]
        by_cases z2 : a = Dl
        · subst z2
          rw [upd_same, upd_same]
        · rw [upd_ne z2, upd_ne z2, upd_ne z]
    rw [e3]
    exact q _ [Dl] G H _ f (Same.refl _) (by simp) (one_new hHD) (same_new hHD) ⟨Dl, _, rfl, rfl, upd_same, pr_map (fun _ _ h => h.2) h3⟩
end
end Ty

namespace Ty
open PySem PySem.Spec PyProof.Rows L2 Ty.Enc
/-! ### defs that change a pool, a list of two whole numbers of the caller's own -/
abbrev pl (w : Nat × Nat) : ODyn := ⟨(⟨[w.1, w.2]⟩ : Ol Nat)⟩
open Classical in
noncomputable def less1 (H : Hp) (p : Addr) : Hp := fun a => if a = p then none else H a
theorem less1_ne {H : Hp} {p a : Addr} (h : a ≠ p) : less1 H p a = H a := if_neg h
theorem less1_at {H : Hp} {p : Addr} : less1 H p p = none := if_pos rfl
def spP {ι : Type} (ds : ι → List Dyn) (pre : ι → Nat × Nat → Prop) (res : ι → Nat × Nat → Dyn) (nxt : ι → Nat × Nat → Nat × Nat) : Sp := fun vs H Q _ => ∃ i G p us w, vs = .ref p :: us ∧ Same G H ∧ G p = none ∧ H p = some (.lst [.int (w.1 : Nat), .int (w.2 : Nat)]) ∧ repD G us (ds i) ∧ pre i w ∧
  ∀ v G' H', Same G G' → Same G' H' → G' p = none → Same (less1 H p) H' → (∀ a, G a = none → G' a ≠ none → Fr0 (less1 H p a)) → H' p = some (.lst [.int ((nxt i w).1 : Nat), .int ((nxt i w).2 : Nat)]) → (res i w).rep G' v → Q v H'
section
variable {X : Cx} {e a b c o : Expr} {es : List Expr} {Γ Γ1 Γ2 Γ3 Γ4 Γ' : Env'} {d d1 d2 d3 d4 : Dyn} {te ta tb : TE} {p2 p3 p4 apos pos pos' : Pos} {k : Bool} {r : R2} {D : TD} {x pn : Str} {ds : List Dyn} {α β : Type} [Enc α] [Enc β] {lv : Nat} {ps : List Str}
theorem pl_reps {G : Hp} {w : Nat × Nat} {vs : List V} (h : reps G vs [w.1, w.2]) : vs = [.int (w.1 : Nat), .int (w.2 : Nat)] := by
  cases h with
  | cons h1 t =>
    cases t with
    | cons h2 t =>
      cases t
      rw [show _ = V.int _ from h1, show _ = V.int _ from h2]
theorem e_callP (j : Nat) {ι : Type} {ds : ι → List Dyn} {pre : ι → Nat × Nat → Prop} {res : ι → Nat × Nat → Dyn} {nxt : ι → Nat × Nat → Nat × Nat} (i : ι) {w w0 : Nat × Nat} {qs : List Addr} (kn : Kn (wd X) lv x ps (spP ds pre res nxt)) (hr : Room lv X.A) (ha : AJ X es Γ Γ' (ds i)) (hp : pre i w)
    (h0 : Γ[j]? = some (.own qs (pl w0)) := by rfl) (h1 : Γ'[j]? = some (.own qs (pl w)) := by rfl) (hg : Gl X x := by rfl) (hdb : (x == ("__debug__" : Str)) = false := by decide)
    (hN : X.N[j]? = some pn := by rfl) (hv : Vis X.env.scope pn := by first | exact Or.inl rfl | exact Or.inr (Or.inl rfl) | exact Or.inr (Or.inr rfl)) (hd : (pn == ("__debug__" : Str)) = false := by decide) (hcd : (pn == ("__classdict__" : Str)) = false := by decide)
    (he : starEach (.Name pn p3 :: es) X.env = (false, eval (.Name pn p3) X.env) :: starEach es X.env := by rfl) (hpl : (backTo pos (starEach es X.env)).any (·.1) = false := by rfl) : EJ X (.Call (.Name x p2) (.Name pn p3 :: es) [] pos) Γ (Γ'.set j (.own qs (pl (nxt i w)))) (res i w) := by
  obtain ⟨f, fd, k1, k2, k3, k4⟩ := kn
  refine .of (pe_call k1 hr hg k2 k3 k4 .nil pass0 (pa_cons (pe_var hN hv hd hcd) pa_tA he) hdb he hpl) fun B σ G H ft Q q => ?_
  obtain ⟨p, vs, e1, e2, g1, z1, z2⟩ := own_l ft h0
  refine ⟨_, e1, ha B σ G H ft _ fun us G1 H1 f1 s1 r1 => ?_⟩
  obtain ⟨p', vs', e1', e2', g1', z1', z2'⟩ := own_l f1 h1
  rw [e2] at e2'
  have e3 : p = p' := by simpa using e2'
  subst e3
  rw [pl_reps z2'] at z1'
  show spP _ _ _ _ (((.ref p) :: us) ++ []) H1 Q E0
  rw [List.append_nil]
  refine ⟨i, G1, p, us, w, rfl, f1.sub, g1', z1', r1, hp, fun v G' H' sG sH gp sF fr hp' rv => ?_⟩
  let H2 : Hp := upd H' p (.lst [.int (w.1 : Nat), .int (w.2 : Nat)])
  have st : Step G1 H1 G' H2 := ⟨sG, fun a o h => by
    by_cases z : a = p
    · subst z
      show upd _ _ _ _ = _
      rw [upd_same, ← z1', h]
    · show upd _ _ _ _ = _
      rw [upd_ne z]
      exact sF a o ((less1_ne z).trans h), fun a o h => by
    have z : a ≠ p := fun z => by
      rw [z, gp] at h
      cases h
    show upd _ _ _ _ = _
    rw [upd_ne z]
    exact sH a o h, fun a h1 h2 => by
    have z : a ≠ p := fun z => h2 (by rw [z]; exact gp)
    have y := fr a h1 h2
    rw [less1_ne z] at y
    exact y⟩
  have f2 := mut1 (β := Nat) (ys := [(nxt i w).1, (nxt i w).2]) (vs := [.int ((nxt i w).1 : Nat), .int ((nxt i w).2 : Nat)]) (f1.step st) h1 e2 (.cons rfl (.cons rfl .nil))
  have eH : upd H2 p (.lst [.int ((nxt i w).1 : Nat), .int ((nxt i w).2 : Nat)]) = H' := by
    funext a
    by_cases z : a = p
    · subst z
      rw [upd_same, hp']
    · rw [upd_ne z]
      show upd _ _ _ _ = _
      rw [upd_ne z]
  rw [eH] at f2
  exact q v G' H' f2 (s1.trans sG) rv
/-- THE RULE for such a def -/
theorem kn_ofP {W : Wd} {x pn : Str} {args : Arguments} {body : List Stmt} {scope : Scope} {ι : Type} {ds : ι → List Dyn} {pre : ι → Nat × Nat → Prop} {res : ι → Nat × Nat → Dyn} {nxt : ι → Nat × Nat → Nat × Nat} {N ps : List Str} {k n : Nat} (T : ∃ f fd, FunD W.K x x args body scope [] [] f fd ∧ W.mg x = some (.ref f)) (S : FnScope N (pn :: ps) scope) (hn : N.length = ps.length + 1 + n)
    (hl : ∀ i, (ds i).length = ps.length)
    (hb : ∀ (kV doc pm : Value) (an : Option Addr) (cdv ct : Value) (us : List Value), us.length = (pn :: ps).length → bindArgs (PySem.W.fnOf x x args body scope .none kV doc pm an cdv ct) ⟨us, []⟩ = pure ((pn :: ps).zip us))
    (hbody : ∀ (f : Addr) (cdv : Value) (A : Around) (outer : List Env) (s : Shared) (H : Hp) (E : XK), Room k (A.deeper (envOfC x scope s.heap.objs.size f cdv)) → ∀ i w qs, pre i w →
      SsJ (cxOf CX0 W.P W.w W.K W.mg W.base N x scope f cdv A outer s H E).nox body (.own qs (pl w) :: starts (ds i) n) ⟨fun _ => False, fun Γ' d => d = res i w ∧ Γ'[0]? = some (.own qs (pl (nxt i w))), fun _ _ => False⟩) : Kn W (k + 1) x (pn :: ps) (spP ds pre res nxt) := by
  obtain ⟨f, fd, F, gm⟩ := T
  refine ⟨f, fd, F.ok S (fun vs H Q E h => ?_) (fun cdv A outer s H vs Q E hr h => ?_), gm, F.kp, F.bindsN hb⟩
  · obtain ⟨i, G, p, us, w, rfl, _, _, _, h2, _⟩ := h
    rw [List.length_cons, List.length_cons, repD_len h2, hl i]
  · obtain ⟨i, G, p, us, w, rfl, sm, gp, hp, h2, h3, q⟩ := h
    have f0 := fits_start (N := us.map (fun _ => x) ++ List.replicate n x) (n := n) sm h2 (by rw [List.length_append, List.length_map, List.length_replicate])
    have e0 : L2.start N (.ref p :: us) = some (.ref p) :: L2.start (us.map (fun _ => x) ++ List.replicate n x) us := by
      unfold L2.start
      have z : us.length = ps.length := by rw [repD_len h2, hl i]
      have z2 : N.length - (us.length + 1) = n := by omega
      have z3 : (us.map (fun _ => x) ++ List.replicate n x).length - us.length = n := by
        rw [List.length_append, List.length_map, List.length_replicate]
        omega
      simp only [List.map_cons, List.length_cons, z2, z3, List.cons_append]
    have ft : Fits (G, less1 H p) (.own [p] (pl w) :: starts (ds i) n) (L2.start N (.ref p :: us)) G H := by
      rw [e0]
      have ad : ∀ j q, q ∈ ads (.own [p] (pl w) :: starts (ds i) n) j → j = 0 ∧ q = p := fun j q h => by
        cases j with
        | zero =>
          have h' : q ∈ [p] := h
          exact ⟨rfl, by simpa using h'⟩
        | succ j =>
          have h' : q ∈ ads (starts (ds i) n) j := h
          rw [ads_starts] at h'
          cases h'
      refine ⟨by rw [List.length_cons, List.length_cons, f0.len], sm, fun j t e => ?_, fun j l q h1 h2 => (ad j q h1).1.trans (ad l q h2).1.symm, Same.refl _, fun a o h => ?_, fun a h h' => absurd h h', fun j q h => ?_⟩
      · cases j with
        | zero =>
          have e2 := Option.some.inj e
          subst e2
          exact ⟨.ref p, rfl, by simp, fun a ha => by
            have e3 : a = p := by simpa using ha
            subst e3
            exact ⟨gp, _, hp, nt_lst⟩, p, _, rfl, rfl, hp, .cons rfl (.cons rfl .nil)⟩
        | succ j => exact f0.ok j t e
      · have h2 : less1 H p a = some o := h
        have z : a ≠ p := fun z => by
          rw [z, less1_at] at h2
          cases h2
        rw [less1_ne z] at h2
        exact h2
      · rw [(ad j q h).2]
        exact less1_at
    refine ⟨_, PSs.nox pss_tSs, hbody f cdv A outer s H E hr i w [p] h3 (G, less1 H p) _ G H ft _ (fun σ' G' H' Γ' f' n => n.elim) (fun v σ' G' H' Γ' d f' r n => ?_) fun v ps σ' G' H1 H' Γ' y f' nd k sm r n => n.elim⟩
    obtain ⟨rfl, n2⟩ := n
    obtain ⟨p', vs', e1', e2', g1', z1', z2'⟩ := own_l f' n2
    have e3 : p = p' := by simpa using e2'
    subst e3
    rw [pl_reps z2'] at z1'
    exact q v G' H' f'.bg f'.sub g1' f'.bh f'.fresh z1' r
/-! ### what else is needed -/
theorem s_try {body : List Stmt} {h₀ : ExceptHandler} {hs : List ExceptHandler} (h : SsJ X.nox body Γ D) : SJ X (.Try body (h₀ :: hs) [] [] pos) Γ D := .of (ps_try_thru0 pss_tSs) h
theorem iv_rangeC {lo : Int} {n : Nat} {xs : List Nat} {G : Hp} (hl : xs.length = n) (h : ∀ (i x : Nat), xs[i]? = some x → (x : Int) = lo + (i : Nat) * (-1)) : IvT (Itc lo (-1) n) xs G where
  goes := fun i H hi s => by
    show i < n
    omega
  stops := fun H s => by
    show n ≤ xs.length
    omega
  yields := fun i x H v H' e s y G1 s1 s2 => by
    obtain ⟨rfl, rfl⟩ := y
    exact ⟨G1, Step.refl s2, by show V.int _ = V.int _; rw [h i x e]⟩
/-- range(n - 1, -1, -1) -/
theorem i_rangeDown {tg : Expr} {n j1 j2 : Nat} {q1 q2 q3 q4 : Pos} (hm : X.mg "range" = none) (h : EJ X a Γ Γ' ⟨(n : Int) - 1⟩) (hn : n ≤ 1000000) (hg : Gl X "range" := by rfl)
    (hs : starEach [a, .UnaryOp .USub (.Constant (.int 1) j1 q1) q2, .UnaryOp .USub (.Constant (.int 1) j2 q3) q4] X.env = (false, eval a X.env) :: starEach [.UnaryOp .USub (.Constant (.int 1) j1 q1) q2, .UnaryOp .USub (.Constant (.int 1) j2 q3) q4] X.env := by rfl)
    (hs2 : starEach [.UnaryOp .USub (.Constant (.int 1) j1 q1) q2, .UnaryOp .USub (.Constant (.int 1) j2 q3) q4] X.env = [(false, eval (.UnaryOp .USub (.Constant (.int 1) j1 q1) q2) X.env), (false, eval (.UnaryOp .USub (.Constant (.int 1) j2 q3) q4) X.env)] := by rfl)
    (hs3 : starEach [.UnaryOp .USub (.Constant (.int 1) j2 q3) q4] X.env = [(false, eval (.UnaryOp .USub (.Constant (.int 1) j2 q3) q4) X.env)] := by rfl)
    (hpl : (backTo pos (starEach [.UnaryOp .USub (.Constant (.int 1) j1 q1) q2, .UnaryOp .USub (.Constant (.int 1) j2 q3) q4] X.env)).any (·.1) = false := by rfl) :
    IJ X tg (.Call (.Name "range" p2) [a, .UnaryOp .USub (.Constant (.int 1) j1 q1) q2, .UnaryOp .USub (.Constant (.int 1) j2 q3) q4] [] pos) Γ Γ' (List.range n).reverse :=
  .of (pi_range3 hg hm pa_tA hs hpl) fun B σ G H f R q => (a_cons h (a_2 (e_negI (e_i 1)) (e_negI (e_i 1)) hs2 hs3) hs) B σ G H f _ fun vs G' H' f' s r => by
    match vs, r with
    | [v, w, u], ⟨r1, r2, r3, _⟩ =>
      have e1 : v = V.int ((n : Int) - 1) := r1
      have e2 : w = V.int (-1) := r2
      have e3 : u = V.int (-1) := r3
      subst e1 e2 e3
      refine ⟨(n : Int) - 1, -1, -1, ((n : Int) - 1 - (-1)).toNat, rfl, RgC.neg (by omega) (by omega) (by omega) (by omega), q _ G' H' f' s (iv_rangeC (by rw [List.length_reverse, List.length_range]; omega) fun i x e => ?_)⟩
      obtain ⟨hl, e⟩ := List.getElem?_eq_some_iff.mp e
      rw [List.getElem_reverse, List.getElem_range] at e
      rw [List.length_reverse, List.length_range] at hl
      rw [List.length_range] at e
      omega
/-- t <= u, pairs of ints -/
theorem t_leP {i j i' j' : Int} (hr : Room lv X.A) (ha : EJ X a Γ Γ1 ⟨(i, j)⟩) (hb : EJ X b Γ1 Γ2 ⟨(i', j')⟩) : TJ X (.Compare a [.LtE] [b] pos) Γ Γ2 (decide (i < i' ∨ (i = i' ∧ j ≤ j'))) :=
  t_cmp (op_leT (by have := hr.units; omega)) ha hb (fun G H v w s r1 r2 Q q => by
    obtain ⟨p, x, y, rfl, h1, h2, h3⟩ := r1
    obtain ⟨p', x', y', rfl, h1', h2', h3'⟩ := r2
    have e1 : x = V.int i := h2
    have e2 : y = V.int j := h3
    have e3 : x' = V.int i' := h2'
    have e4 : y' = V.int j' := h3'
    subst e1 e2 e3 e4
    refine ⟨p, p', [i, j], [i', j'], rfl, rfl, .inl (.inl (s _ _ h1)), .inl (.inl (s _ _ h1')), q _ G H (Step.refl s) ?_⟩
    show V.bl _ = V.bl _
    congr 1
    show Ob.lexAt _ _ _ 0 2 = _
    rw [Ob.lexAt_succ, Ob.lexAt_succ, Ob.lexAt_zero]
    show (if decide (i = i') = true then (if decide (j = j') = true then decide (2 ≤ 2) else decide (j ≤ j')) else decide (i ≤ i')) = _
    by_cases c1 : i = i'
    · by_cases c2 : j = j'
      · simp [c1, c2]
      · simp [c1, c2]
    · rw [if_neg (by simpa using c1)]
      by_cases c3 : i ≤ i'
      · rw [decide_eq_true c3, decide_eq_true (.inl (by omega))]
      · rw [decide_eq_false c3, decide_eq_false (by omega)]) (nomark _)
theorem EJ.pI {p : Nat × Nat} (h : EJ X e Γ Γ' ⟨p⟩) : EJ X e Γ Γ' ⟨((p.1 : Int), (p.2 : Int))⟩ := fun B σ G H f Q q => h B σ G H f Q fun v G' H' f' s r => q v G' H' f' s r
/-- t + u, pairs -/
theorem e_cat22 {p q : α × α} (ha : EJ X a Γ Γ1 ⟨p⟩) (hb : EJ X b Γ1 Γ2 ⟨q⟩) : EJ X (.BinOp a .Add b pos) Γ Γ2 ⟨(⟨[p.1, p.2, q.1, q.2]⟩ : Tp α)⟩ :=
  e_bin op_catT ha hb (fun G H v w s r1 r2 Q qq => by
    obtain ⟨l, x, y, rfl, h1, h2, h3⟩ := r1
    obtain ⟨l', x', y', rfl, h1', h2', h3'⟩ := r2
    refine ⟨l, l', [x, y], [x', y'], rfl, rfl, .inl (.inl (s _ _ h1)), .inl (.inl (s _ _ h1')), (fun z => nomatch z), by show 4 ≤ sizeLine; decide, (fun z => nomatch z), fun _ t ht => ?_⟩
    have st := Step.new (o := .tup [x, y, x', y']) s ht
    exact qq _ _ _ st ⟨t, _, rfl, upd_same, .cons (mono st.g h2) (.cons (mono st.g h3) (.cons (mono st.g h2') (.cons (mono st.g h3') .nil)))⟩)
/-! ### the script -/
structure Scr (K : PySem.W.Frag) where
  l : List Int
theorem sqL_mono {K : PySem.W.Frag} {H H' : Hp} (s : Same H H') {a : Addr} {xs : List V} (h : SqL K H a xs) : SqL K H' a xs := by
  rcases h with (h | ⟨o, h⟩) | h
  · exact .inl (.inl (s _ _ h))
  · exact .inl (.inr ⟨o, s _ _ h⟩)
  · exact .inr h
instance {K : PySem.W.Frag} : Enc (Scr K) := ⟨fun H v y => ∃ a, v = .ref a ∧ SqL K H a (y.l.map V.int), fun s h => by
  obtain ⟨a, e, h⟩ := h
  exact ⟨a, e, sqL_mono s h⟩⟩
theorem rct_lenS {K : PySem.W.Frag} (y : Scr K) : RCT (fun xs H Q => ∃ a vs, xs = [.ref a] ∧ (SqL K H a vs ∨ SqT K H a vs) ∧ Q (.int (vs.length : Nat)) H) [⟨y⟩] ⟨y.l.length⟩ := fun G H vs s r Q q => by
  cases vs with
  | nil => exact r.elim
  | cons v vs =>
    cases vs with
    | cons => exact r.2.elim
    | nil =>
      obtain ⟨p, rfl, h1⟩ := r.1
      refine ⟨p, _, rfl, .inl (sqL_mono s h1), q _ G H (Step.refl s) ?_⟩
      rw [List.length_map]
      rfl
theorem e_lenS {y : Scr X.K} (hm : X.mg "len" = none) (ha : EJ X a Γ Γ1 ⟨y⟩) (hg : Gl X "len" := by rfl) (he : starEach [a] X.env = [(false, eval a X.env)] := by rfl) : EJ X (.Call (.Name "len" p2) [a] [] pos) Γ Γ1 ⟨y.l.length⟩ :=
  e_bi call_len_seq hm PySem.boot_len (a_1 ha he) (rct_lenS y) hg (by decide) (by decide) he rfl
theorem e_ixS {y : Scr X.K} {n : Nat} {i : Int} (ha : EJ X a Γ Γ1 ⟨y⟩) (hb : EJ X b Γ1 Γ2 ⟨n⟩) (hx : y.l[n]? = some i) (hs : PlainIx b := by intro _ _; rfl) : EJ X (.Subscript a b pos) Γ Γ2 ⟨i⟩ :=
  e_ixG ix_list ha hb (fun G H v w s r1 r2 Q q => by
    obtain ⟨p, rfl, h1⟩ := r1
    have e2 : w = V.int (n : Int) := r2
    subst e2
    exact ⟨p, _, (n : Int), .int i, rfl, rfl, sqL_mono s h1, atI_nat (by rw [List.getElem?_map, hx] <;> rfl), q _ G H (Step.refl s) rfl⟩) hs
end
end Ty

namespace Ty
open PySem PySem.Spec PyProof.Rows L2 Ty.Enc
section
variable {X : Cx} {elt tg iter c e a b : Expr} {ifs : List Expr} {scope : Scope} {Γ Γ1 Γ2 Γ' : Env'} {pos spos py : Pos} {α β : Type} [Enc α] [Enc β] {xs : List α} {is : List Nat} {F : α → Env' → Env'} {D : TD}
/-- name = [elt for tg in iter] -/
theorem s_map (nd : X.N.Nodup) (i : Nat) {x : Str} (own : List (Str × Nat)) (f : α → β) (hi : IJ X tg iter Γ Γ1 xs) (hg : GJb X scope tg is F)
    (hs : ∀ (i : Nat) x, xs[i]? = some x → ∀ (s : Shared) (H : Hp) (C : Addr) (cl : List (Str × Addr)) (fp : List Addr), EJ (X.blk s H scope (compEnvC scope cl C X.env) fp) elt (F x (wipeE Γ1 (own.map (·.2)))) (F x (wipeE Γ1 (own.map (·.2)))) ⟨f x⟩)
    (hn : xs.length ≤ 100000) (k : ∀ ps, D.nx ((wipeE Γ1 (own.map (·.2))).set i (.own ps ⟨(⟨xs.map f⟩ : Ol β)⟩))) (hw : ∀ x, wipeE (F x (wipeE Γ1 (own.map (·.2)))) (own.map (·.2)) = wipeE Γ1 (own.map (·.2)) := by intro _; rfl) (ok : BlkOk X.N X.env.scope scope own := by exact blkOk_by (by rfl))
    (hv : ∀ i ∈ is, i ∈ own.map (·.2) := by decide) (hc : X.calm = true := by rfl)
    (hi1 : X.N[i]? = some x := by rfl) (hyl : X.env.scope.names.lookup x = some .local := by rfl) (hsw : swapsWith (.ListComp elt [⟨tg, iter, [], 0⟩] scope pos) (some (.Name x py)) spos.line X.env = pure true := by exact (sw_true rfl rfl rfl (by decide +kernel)))
    (hsx : ∀ x, foldedSetIterable iter X.env x = pure x := by intro _; rfl) :
    SJ X (.Assign [.Name x py] (.ListComp elt [⟨tg, iter, [], 0⟩] scope pos) spos) Γ D :=
  s_lc nd i own ok hi hg hn (fun i Γ2 ys => Γ2 = wipeE Γ1 (own.map (·.2)) ∧ ys = (xs.take i).map f) ⟨rfl, rfl⟩ (fun i x Γ2 ys e p => by
    obtain ⟨rfl, rfl⟩ := p
    refine ⟨F x (wipeE Γ1 (own.map (·.2))), true, fun s H C cl fp => by rw [wipeE_wipeE]; exact .nil, fun _ => ⟨F x (wipeE Γ1 (own.map (·.2))), f x, fun s H C cl fp => hs i x e s H C cl fp, hw x, map_take_succ e ▸ rfl⟩, fun z => nomatch z⟩)
    (fun Γ2 ys p => ⟨p.1, by rw [p.2, List.take_length]⟩) k hv hc hi1 hyl hsw hsx
/-- name = [elt for tg in iter if c] -/
theorem s_fil (nd : X.N.Nodup) (i : Nat) {x : Str} (own : List (Str × Nat)) (p : α → Bool) (f : α → β) (hi : IJ X tg iter Γ Γ1 xs) (hg : GJb X scope tg is F)
    (ht : ∀ (i : Nat) x, xs[i]? = some x → ∀ (s : Shared) (H : Hp) (C : Addr) (cl : List (Str × Addr)) (fp : List Addr), TJ (X.blk s H scope (compEnvC scope cl C X.env) fp) c (F x (wipeE Γ1 (own.map (·.2)))) (F x (wipeE Γ1 (own.map (·.2)))) (p x))
    (hs : ∀ (i : Nat) x, xs[i]? = some x → p x = true → ∀ (s : Shared) (H : Hp) (C : Addr) (cl : List (Str × Addr)) (fp : List Addr), EJ (X.blk s H scope (compEnvC scope cl C X.env) fp) elt (F x (wipeE Γ1 (own.map (·.2)))) (F x (wipeE Γ1 (own.map (·.2)))) ⟨f x⟩)
    (hn : xs.length ≤ 100000) (k : ∀ ps, D.nx ((wipeE Γ1 (own.map (·.2))).set i (.own ps ⟨(⟨(xs.filter p).map f⟩ : Ol β)⟩))) (hw : ∀ x, wipeE (F x (wipeE Γ1 (own.map (·.2)))) (own.map (·.2)) = wipeE Γ1 (own.map (·.2)) := by intro _; rfl) (ok : BlkOk X.N X.env.scope scope own := by exact blkOk_by (by rfl))
    (hv : ∀ i ∈ is, i ∈ own.map (·.2) := by decide) (hc : X.calm = true := by rfl)
    (hi1 : X.N[i]? = some x := by rfl) (hyl : X.env.scope.names.lookup x = some .local := by rfl) (hsw : swapsWith (.ListComp elt [⟨tg, iter, [c], 0⟩] scope pos) (some (.Name x py)) spos.line X.env = pure true := by exact (sw_true rfl rfl rfl (by decide +kernel)))
    (hsx : ∀ x, foldedSetIterable iter X.env x = pure x := by intro _; rfl) :
    SJ X (.Assign [.Name x py] (.ListComp elt [⟨tg, iter, [c], 0⟩] scope pos) spos) Γ D :=
  s_lc nd i own ok hi hg hn (fun i Γ2 ys => wipeE Γ2 (own.map (·.2)) = wipeE Γ1 (own.map (·.2)) ∧ Γ2 = wipeE Γ1 (own.map (·.2)) ∧ ys = ((xs.take i).filter p).map f) ⟨wipeE_wipeE _ _, rfl, rfl⟩ (fun i x Γ2 ys e q => by
    obtain ⟨ww, rfl, rfl⟩ := q
    have nx : ((xs.take (i + 1)).filter p).map f = ((xs.take i).filter p).map f ++ (if p x then [f x] else []) := by
      rw [fil_take_succ e, List.map_append]
      cases p x <;> rfl
    refine ⟨F x (wipeE Γ1 (own.map (·.2))), p x, fun s H C cl fp => by rw [ww]; exact .one (ht i x e s H C cl fp), fun hp => ⟨F x (wipeE Γ1 (own.map (·.2))), f x, fun s H C cl fp => hs i x e hp s H C cl fp, ?_, hw x, ?_⟩, fun hp => ⟨?_, hw x, ?_⟩⟩
    · rw [hw x, ww]
    · rw [nx, if_pos hp]
    · rw [hw x, ww]
    · rw [nx, if_neg (by rw [hp]; exact Bool.false_ne_true), List.append_nil])
    (fun Γ2 ys q => ⟨q.2.1, by rw [q.2.2, List.take_length]⟩) k hv hc hi1 hyl hsw hsx
/-- a product whose right side is small -/
theorem e_mulNr {m n : Nat} (ha : EJ X a Γ Γ1 ⟨m⟩) (hb : EJ X b Γ1 Γ2 ⟨n⟩) (h : n < 2 ^ 64) : EJ X (.BinOp a .Mult b pos) Γ Γ2 ⟨m * n⟩ :=
  e_bin op_mul ha hb (r2_ofC (i := (m : Int)) (j := (n : Int)) (fun _ _ h => h) (fun _ _ h => h) (.inr ⟨by omega, by omega⟩) (by rw [← Int.natCast_mul]) fun _ => rfl)
/-- x += e -/
theorem s_augN (nd : X.N.Nodup) (i : Nat) {x : Str} {m n : Nat} (he : EJ X e Γ Γ1 ⟨n⟩) (k : D.nx (Γ1.set i (.fro ⟨m + n⟩))) (h : Γ[i]? = some (.fro ⟨m⟩) := by rfl) (hi : X.N[i]? = some x := by rfl) (hx : Loc X.env.scope x := by first | exact Or.inl rfl | exact Or.inr rfl)
    (hf : X.fn x = true ∨ X.env.scope.names.lookup x = some .local := by first | exact .inl rfl | exact .inr rfl) : SJ X (.AugAssign (.Name x py) .Add e pos) Γ D :=
  .of (ps_aug nd hi hx pe_tE ip_add hf) fun B σ G H f E q1 q2 q3 => by
    obtain ⟨v, e1, r1⟩ := f.ok i _ h
    refine ⟨v, e1, he B σ G H f _ fun w G1 H1 f1 s1 r2 => ?_⟩
    have e2 : v = V.int (m : Int) := r1
    have e3 : w = V.int (n : Int) := r2
    subst e2 e3
    refine ⟨_, _, rfl, rfl, q1 _ G1 H1 _ (f1.put i ?_) k⟩
    show V.int _ = V.int _
    rw [Int.natCast_add]
end
/-! things of one's own let stand, by their kinds -/
section
variable {X : Cx} {e : Expr} {sts : List Stmt} {Γ Γ' : Env'} {d : Dyn} {z : ODyn} {D : TD} {α : Type} [Enc α] {ps : List Addr}
theorem EJ.fzl (i : Nat) {xs : List α} (h : EJ X e (Γ.set i (.fro ⟨xs⟩)) Γ' d) (e1 : Γ[i]? = Option.some (Sl.own ps ⟨(⟨xs⟩ : Ol α)⟩) := by rfl) : EJ X e Γ Γ' d := EJ.fzs i h e1
theorem NJ.fzl (i : Nat) {xs : List α} (h : NJ X e (Γ.set i (.fro ⟨xs⟩)) Γ' z) (e1 : Γ[i]? = Option.some (Sl.own ps ⟨(⟨xs⟩ : Ol α)⟩) := by rfl) : NJ X e Γ Γ' z := NJ.fzs i h e1
theorem SsJ.fzl (i : Nat) {xs : List α} (h : SsJ X sts (Γ.set i (.fro ⟨xs⟩)) D) (e1 : Γ[i]? = Option.some (Sl.own ps ⟨(⟨xs⟩ : Ol α)⟩) := by rfl) : SsJ X sts Γ D := SsJ.fzs i h e1
theorem EJ.fzll (i : Nat) {xs : List (List α)} (h : EJ X e (Γ.set i (.fro ⟨xs⟩)) Γ' d) (e1 : Γ[i]? = Option.some (Sl.own ps ⟨(⟨xs⟩ : Oll α)⟩) := by rfl) : EJ X e Γ Γ' d := EJ.fzs i h e1
theorem SsJ.fzll (i : Nat) {xs : List (List α)} (h : SsJ X sts (Γ.set i (.fro ⟨xs⟩)) D) (e1 : Γ[i]? = Option.some (Sl.own ps ⟨(⟨xs⟩ : Oll α)⟩) := by rfl) : SsJ X sts Γ D := SsJ.fzs i h e1
theorem SsJ.fzd {κ : Type} [KeyT κ] (i : Nat) {l : List (κ × α)} (h : SsJ X sts (Γ.set i (.fro ⟨(⟨l⟩ : DT κ α)⟩)) D) (e1 : Γ[i]? = Option.some (Sl.own ps ⟨(⟨l⟩ : Od κ α)⟩) := by rfl) : SsJ X sts Γ D := SsJ.fzs i h e1
theorem SsJ.fzdl {κ : Type} [KeyT κ] (i : Nat) {l : List (κ × List α)} (h : SsJ X sts (Γ.set i (.fro ⟨(⟨l⟩ : DT κ (List α))⟩)) D) (e1 : Γ[i]? = Option.some (Sl.own ps ⟨(⟨l⟩ : Odl κ α)⟩) := by rfl) : SsJ X sts Γ D := SsJ.fzs i h e1
end
theorem rng_at {n j x : Nat} (h : (List.range n)[j]? = some x) : x = j ∧ j < n := by
  obtain ⟨h1, h2⟩ := List.getElem?_eq_some_iff.mp h
  rw [List.getElem_range] at h2
  rw [List.length_range] at h1
  exact ⟨h2.symm, h1⟩
/-- a loop whose state is a fold -/
theorem take_len_succ {α : Type} {xs : List α} {i : Nat} {x : α} (h : xs[i]? = some x) : xs.take (i + 1) = xs.take i ++ [x] := by
  rw [List.take_add_one, h]
  rfl
theorem fold_take {α σ : Type} {f : σ → α → σ} {s : σ} {xs : List α} {i : Nat} {x : α} (h : xs[i]? = some x) : (xs.take (i + 1)).foldl f s = f ((xs.take i).foldl f s) x := by
  rw [take_len_succ h, List.foldl_append]
  rfl
end Ty

namespace Ty
open PySem PySem.Spec PyProof.Rows L2 Ty.Enc
/-! ### defs that answer a new thing of the caller's own -/
def spN {ι : Type} (ds : ι → List Dyn) (pre : ι → Prop) (y : ι → ODyn) : Sp := fun vs H Q _ => ∃ i G, Same G H ∧ repD G vs (ds i) ∧ pre i ∧
  ∀ v ps G' H1 H', Step G H G' H1 → ps.Nodup → (∀ p ∈ ps, H1 p = none ∧ ∃ ob, H' p = some ob ∧ Nt ob) → Same H1 H' → (y i).orep G' H' v ps → Q v H'
section
variable {X : Cx} {e a b c o : Expr} {es : List Expr} {Γ Γ1 Γ2 Γ3 Γ4 Γ' : Env'} {d d1 d2 d3 d4 : Dyn} {te ta tb : TE} {p2 p3 p4 apos pos pos' : Pos} {k : Bool} {r : R2} {D : TD} {x pn : Str} {ds : List Dyn} {α β : Type} [Enc α] [Enc β] {lv : Nat} {ps : List Str}
theorem kn_ofN {W : Wd} {x : Str} {args : Arguments} {body : List Stmt} {scope : Scope} {ι : Type} {ds : ι → List Dyn} {pre : ι → Prop} {y : ι → ODyn} {N ps : List Str} {k n : Nat} (T : ∃ f fd, FunD W.K x x args body scope [] [] f fd ∧ W.mg x = some (.ref f)) (S : FnScope N ps scope) (hn : N.length = ps.length + n)
    (hl : ∀ i, (ds i).length = ps.length)
    (hb : ∀ (kV doc pm : Value) (an : Option Addr) (cdv ct : Value) (us : List Value), us.length = ps.length → bindArgs (PySem.W.fnOf x x args body scope .none kV doc pm an cdv ct) ⟨us, []⟩ = pure (ps.zip us))
    (hbody : ∀ (f : Addr) (cdv : Value) (A : Around) (outer : List Env) (s : Shared) (H : Hp) (E : XK), Room k (A.deeper (envOfC x scope s.heap.objs.size f cdv)) → ∀ i, pre i →
      SsJ (cxOf CX0 W.P W.w W.K W.mg W.base N x scope f cdv A outer s H E).nox body (starts (ds i) n) ⟨fun _ => False, fun _ _ => False, fun _ z => z = y i⟩) : Kn W (k + 1) x ps (spN ds pre y) := by
  obtain ⟨f, fd, F, gm⟩ := T
  refine ⟨f, fd, F.ok S (fun vs H Q E h => ?_) (fun cdv A outer s H vs Q E hr h => ?_), gm, F.kp, F.bindsN hb⟩
  · obtain ⟨i, G, _, h2, _⟩ := h
    rw [repD_len h2, hl i]
  · obtain ⟨i, G, h1, h2, h3, q⟩ := h
    refine ⟨_, PSs.nox pss_tSs, hbody f cdv A outer s H E hr i h3 (G, H) _ G H (fits_start h1 h2 (by rw [repD_len h2, hl i]; exact hn)) _ (fun σ' G' H' Γ' f' n => n.elim) (fun v σ' G' H' Γ' d f' r n => n.elim) fun v qs σ' G' H1 H' Γ' z f' nd k sm r n => ?_⟩
    subst n
    exact q v qs G' H1 H' ⟨f'.bg, f'.bh, f'.sub, f'.fresh⟩ nd k sm r
theorem n_callG {ι : Type} {ds : ι → List Dyn} {pre : ι → Prop} {y : ι → ODyn} (i : ι) (kn : Kn (wd X) lv x ps (spN ds pre y)) (hr : Room lv X.A) (ha : AJ X (e :: es) Γ Γ' (ds i)) (hp : pre i) (hg : Gl X x := by rfl) (hdb : (x == ("__debug__" : Str)) = false := by decide)
    (he : starEach (e :: es) X.env = (false, eval e X.env) :: starEach es X.env := by rfl) (hpl : (backTo pos (starEach es X.env)).any (·.1) = false := by rfl) : NJ X (.Call (.Name x p2) (e :: es) [] pos) Γ Γ' (y i) := by
  obtain ⟨f, fd, h1, h2, h3, h4⟩ := kn
  refine .of (pe_call h1 hr hg h2 h3 h4 .nil pass0 pa_tA hdb he hpl) fun B σ G H ft Q q => ha B σ G H ft _ fun vs G1 H1 f1 s1 r1 => ?_
  rw [List.append_nil]
  exact ⟨i, G1, f1.sub, r1, hp, fun v qs G' H2 H' st nd n sm r => q v qs G' H2 H' (f1.step st) (s1.trans st.g) nd n sm r⟩
/-- a call with a new pool that is not kept -/
theorem e_callPN {ι : Type} {ds : ι → List Dyn} {pre : ι → Nat × Nat → Prop} {res : ι → Nat × Nat → Dyn} {nxt : ι → Nat × Nat → Nat × Nat} (i : ι) {w : Nat × Nat} (kn : Kn (wd X) lv x ps (spP ds pre res nxt)) (hr : Room lv X.A) (ha : NJ X a Γ Γ' (pl w)) (hds : ds i = []) (hp : pre i w)
    (hg : Gl X x := by rfl) (hdb : (x == ("__debug__" : Str)) = false := by decide) (he : starEach [a] X.env = (false, eval a X.env) :: starEach [] X.env := by rfl) (hpl : (backTo pos (starEach [] X.env)).any (·.1) = false := by rfl) : EJ X (.Call (.Name x p2) [a] [] pos) Γ Γ' (res i w) := by
  obtain ⟨f, fd, k1, k2, k3, k4⟩ := kn
  refine .of (pe_call k1 hr hg k2 k3 k4 .nil pass0 (pa_cons pe_tE pa_nil he) hdb he hpl) fun B σ G H ft Q q => ?_
  refine ha B σ G H ft _ fun v qs G1 H1 H2 f1 s1 nd n sm r => ?_
  obtain ⟨p, vs, rfl, rfl, h1, h2⟩ := r
  obtain ⟨n1, _⟩ := n p (by simp)
  have g1 : G1 p = none := none_of f1.sub n1
  rw [pl_reps h2] at h1
  show spP _ _ _ _ ([.ref p] ++ []) H2 Q E0
  rw [List.append_nil]
  refine ⟨i, G1, p, [], w, rfl, f1.sub.trans sm, g1, h1, by rw [hds]; trivial, hp, fun v G' H' sG sH gp sF fr hp' rv => ?_⟩
  have sl : Same H1 (less1 H2 p) := fun a o h => by
    have z : a ≠ p := fun z => by
      rw [z, n1] at h
      cases h
    rw [less1_ne z]
    exact sm a o h
  have st : Step G1 H1 G' H' := ⟨sG, sl.trans sF, sH, fun a h1 h2 => (fr a h1 h2).back sl⟩
  exact q v G' H' (f1.step st) (s1.trans sG) rv
end
/-! ### a thing of one kind or of another -/
inductive Cl (α β : Type) where
  | l (x : α)
  | r (y : β)
instance {α β : Type} [Enc α] [Enc β] : Enc (Cl α β) := ⟨fun H v z => match z with
  | .l x => rep H v x
  | .r y => rep H v y, fun {H H' v z} s h => by
    cases z with
    | l x => exact mono (α := α) s h
    | r y => exact mono (α := β) s h⟩
section
variable {X : Cx} {e a b c o : Expr} {es : List Expr} {Γ Γ1 Γ2 Γ3 Γ4 Γ' : Env'} {p2 p3 p4 py pz pt pos pos' : Pos} {α β : Type} [Enc α] [Enc β]
theorem EJ.cl {x : α} (h : EJ X e Γ Γ' ⟨x⟩) : EJ X e Γ Γ' ⟨(.l x : Cl α β)⟩ := h
theorem EJ.cr {y : β} (h : EJ X e Γ Γ' ⟨y⟩) : EJ X e Γ Γ' ⟨(.r y : Cl α β)⟩ := h
/-- (a, b, c, d) = a list: three of the one kind, one of the other -/
theorem s_four (nd : X.N.Nodup) (i j k l : Nat) {D : TD} {x1 x2 x3 : α} {x4 : β} {n1 n2 n3 n4 : Str} {kk : Nat} (h : EJ X e Γ Γ1 ⟨([.l x1, .l x2, .l x3, .r x4] : List (Cl α β))⟩) (hk : D.nx ((((Γ1.set i (.fro ⟨x1⟩)).set j (.fro ⟨x2⟩)).set k (.fro ⟨x3⟩)).set l (.fro ⟨x4⟩)))
    (hi : X.N[i]? = some n1 := by rfl) (hj : X.N[j]? = some n2 := by rfl) (hkk : X.N[k]? = some n3 := by rfl) (hl : X.N[l]? = some n4 := by rfl)
    (h1 : Loc X.env.scope n1 := by first | exact Or.inl rfl | exact Or.inr rfl) (h2 : Loc X.env.scope n2 := by first | exact Or.inl rfl | exact Or.inr rfl) (h3 : Loc X.env.scope n3 := by first | exact Or.inl rfl | exact Or.inr rfl) (h4 : Loc X.env.scope n4 := by first | exact Or.inl rfl | exact Or.inr rfl)
    (f1 : X.fn n1 = true ∨ X.env.scope.names.lookup n1 = some .local := by first | exact .inl rfl | exact .inr rfl) (f2 : X.fn n2 = true ∨ X.env.scope.names.lookup n2 = some .local := by first | exact .inl rfl | exact .inr rfl)
    (f3 : X.fn n3 = true ∨ X.env.scope.names.lookup n3 = some .local := by first | exact .inl rfl | exact .inr rfl) (f4 : X.fn n4 = true ∨ X.env.scope.names.lookup n4 = some .local := by first | exact .inl rfl | exact .inr rfl) (hc : X.calm = true := by rfl)
    (hs : swapsWithSole [.Tuple [.Name n1 p2, .Name n2 py, .Name n3 pz, .Name n4 pt] kk p3] e pos.line X.env = pure false := by rfl) (hw : swappedStores [.Tuple [.Name n1 p2, .Name n2 py, .Name n3 pz, .Name n4 pt] kk p3] e X.env = pure none := by rfl)
    (ha : (assignEach [.Tuple [.Name n1 p2, .Name n2 py, .Name n3 pz, .Name n4 pt] kk p3] X.env).map (·.2) = [assign (.Tuple [.Name n1 p2, .Name n2 py, .Name n3 pz, .Name n4 pt] kk p3) X.env] := by rfl) :
    SJ X (.Assign [.Tuple [.Name n1 p2, .Name n2 py, .Name n3 pz, .Name n4 pt] kk p3] e pos) Γ D :=
  .of (ps_asg pe_tE (pg_unl hc (pgs_cons (pg_name nd hi h1 f1) (pgs_cons (pg_name nd hj h2 f2) (pgs_cons (pg_name nd hkk h3 f3) (pgs_cons (pg_name nd hl h4 f4) pgs_nil))))) hs hw ha) fun B σ G H f E q1 q2 q3 => h B σ G H f _ fun v G' H' f' s r => by
    obtain ⟨p, vs, rfl, g1, g2⟩ := r
    match vs, g2 with
    | [v1, v2, v3, v4], .cons r1 (.cons r2 (.cons r3 (.cons r4 .nil))) =>
      exact ⟨p, [v1, v2, v3, v4], rfl, .inl (.inl (f'.sub _ _ g1)), rfl, v1, _, rfl, v2, _, rfl, v3, _, rfl, v4, _, rfl, rfl, q1 _ G' H' _ ((((f'.put (d := ⟨x1⟩) i r1).put (d := ⟨x2⟩) j r2).put (d := ⟨x3⟩) k r3).put (d := ⟨x4⟩) l r4) hk⟩
end
end Ty

/-! What the defs compute, in plain Lean: webs. -/
namespace M
abbrev Tie := Nat × Nat
abbrev Web := Nat × List Tie
def isTie (m : Nat) (t : Tie) : Bool := decide (t.1 < m ∧ t.2 < m ∧ t.1 < t.2)
def ltT (a b : Tie) : Prop := a.1 < b.1 ∨ (a.1 = b.1 ∧ a.2 < b.2)
theorem ltT_irrefl (a : Tie) : ¬ ltT a a := fun h => by
  unfold ltT at h
  omega
structure Valid (w : Web) : Prop where
  pos : 1 ≤ w.1
  le : w.1 ≤ 40
  few : w.2.length ≤ 120
  tie : ∀ t ∈ w.2, t.1 < t.2 ∧ t.2 < w.1
  inc : w.2.Pairwise ltT
theorem Valid.nodup {w : Web} (h : Valid w) : w.2.Nodup := h.inc.imp fun {a b} q e => by
  subst e
  exact ltT_irrefl a q
def isPlace (w : Web) (x : Nat) : Bool := decide (x < w.1)
def tieOf (a b : Nat) : Tie := (min a b, max a b)
/-- the ends that ties add at p, in their order -/
def rawNb (ties : List Tie) (p : Nat) : List Nat := ties.flatMap fun t => (if t.1 = p then [t.2] else []) ++ (if t.2 = p then [t.1] else [])
theorem rawNb_len (ties : List Tie) (p : Nat) : (rawNb ties p).length ≤ 2 * ties.length := by
  unfold rawNb
  induction ties with
  | nil => simp
  | cons t ts ih =>
    rw [List.flatMap_cons, List.length_append, List.length_cons]
    have : ((if t.1 = p then [t.2] else []) ++ (if t.2 = p then [t.1] else []) : List Nat).length ≤ 2 := by
      split <;> split <;> simp
    omega
theorem rawNb_app (a b : List Tie) (p : Nat) : rawNb (a ++ b) p = rawNb a p ++ rawNb b p := by
  unfold rawNb
  rw [List.flatMap_append]
theorem set_map_range {α : Type} (f : Nat → α) (n i : Nat) (y : α) : ((List.range n).map f).set i y = (List.range n).map fun j => if j = i then y else f j := by
  apply List.ext_getElem?
  intro j
  by_cases hj : j < n
  · by_cases h : i = j
    · subst h
      rw [List.getElem?_set_self (by simpa using hj)]
      simp [hj]
    · rw [List.getElem?_set_ne h]
      simp [hj, Ne.symm h]
  · rw [List.getElem?_eq_none (by simp; omega), List.getElem?_eq_none (by simp; omega)]
theorem get_map_range {α : Type} (f : Nat → α) {n i : Nat} (h : i < n) : ((List.range n).map f)[i]? = some (f i) := by
  simp [h]
theorem rawNb_step {n : Nat} {ts : List Tie} {t : Tie} (h1 : t.1 < t.2) : (List.range n).map (rawNb (ts ++ [t])) = (((List.range n).map (rawNb ts)).set t.1 (rawNb ts t.1 ++ [t.2])).set t.2 (rawNb ts t.2 ++ [t.1]) := by
  rw [set_map_range, set_map_range]
  apply List.map_congr_left
  intro j _
  rw [rawNb_app]
  have e : rawNb [t] j = (if t.1 = j then [t.2] else []) ++ (if t.2 = j then [t.1] else []) := by simp [rawNb]
  rw [e]
  by_cases c1 : j = t.2
  · subst c1
    rw [if_pos rfl, if_neg (by omega), if_pos rfl]
    simp
  · rw [if_neg c1]
    by_cases c2 : j = t.1
    · subst c2
      rw [if_pos rfl, if_pos rfl, if_neg (by omega)]
      simp
    · rw [if_neg c2, if_neg (Ne.symm c2), if_neg (Ne.symm c1)]
      simp
def nbs (w : Web) (p : Nat) : List Nat := (rawNb w.2 p).mergeSort fun m n => decide (m ≤ n)
def besideAll (w : Web) : List (List Nat) := (List.range w.1).map (nbs w)
end M

/-! What the defs compute, in plain Lean: ways. -/
namespace M
/-- a way of k steps from p -/
inductive Way (nb : Nat → List Nat) (p : Nat) : Nat → Nat → Prop
  | nil : Way nb p 0 p
  | step {k u v : Nat} : Way nb p k u → v ∈ nb u → Way nb p (k + 1) v
theorem Way.trans {nb : Nat → List Nat} {p q r k l : Nat} (a : Way nb p k q) (b : Way nb q l r) : Way nb p (k + l) r := by
  induction b with
  | nil => exact a
  | step _ h ih => exact .step ih h
theorem least {P : Nat → Prop} (h : ∃ k, P k) : ∃ k, P k ∧ ∀ j, P j → k ≤ j := by
  obtain ⟨k, hk⟩ := h
  induction k using Nat.strongRecOn with
  | ind k ih =>
    by_cases e : ∃ j, j < k ∧ P j
    · obtain ⟨j, hj, hp⟩ := e
      exact ih j hj hp
    · exact ⟨k, hk, fun j hj => Nat.le_of_not_lt fun z => e ⟨j, z, hj⟩⟩
def Rch (nb : Nat → List Nat) (p q : Nat) : Prop := ∃ k, Way nb p k q
open Classical in
/-- how far, if there is a way -/
noncomputable def far (nb : Nat → List Nat) (p q : Nat) : Option Nat := if h : Rch nb p q then some (least h).choose else none
theorem far_none {nb : Nat → List Nat} {p q : Nat} : far nb p q = none ↔ ¬ Rch nb p q := by
  unfold far
  split
  · rename_i h
    simp [h]
  · rename_i h
    simp [h]
theorem far_some {nb : Nat → List Nat} {p q d : Nat} : far nb p q = some d ↔ Way nb p d q ∧ ∀ k, Way nb p k q → d ≤ k := by
  unfold far
  split
  · rename_i h
    have s := (least h).choose_spec
    constructor
    · intro e
      have e2 := Option.some.inj e
      rw [← e2]
      exact s
    · intro ⟨h1, h2⟩
      have := h2 _ s.1
      have := s.2 _ h1
      congr 1
      omega
  · rename_i h
    exact ⟨(fun z => by cases z), fun z => absurd ⟨d, z.1⟩ h⟩
theorem far_isSome {nb : Nat → List Nat} {p q : Nat} : (far nb p q).isSome = true ↔ Rch nb p q := by
  cases e : far nb p q with
  | none => simpa using far_none.mp e
  | some d => simpa using ⟨d, (far_some.mp e).1⟩
theorem Rch.refl {nb : Nat → List Nat} (p : Nat) : Rch nb p p := ⟨0, .nil⟩
theorem Rch.trans {nb : Nat → List Nat} {p q r : Nat} (a : Rch nb p q) (b : Rch nb q r) : Rch nb p r := by
  obtain ⟨k, a⟩ := a
  obtain ⟨l, b⟩ := b
  exact ⟨_, a.trans b⟩
/-! ### the walk in breadth -/
def valF (fo : List (Option Nat)) (a : Nat) : Nat := (fo[a]?.join).getD 0
structure BI (n : Nat) (nb : Nat → List Nat) (p : Nat) (i : Nat) (dn : List Nat) (fo : List (Option Nat)) (ro : List Nat) : Prop where
  len : fo.length = n
  rlt : ∀ q ∈ ro, q < n
  nd : ro.Nodup
  mem : ∀ q, q ∈ ro ↔ ∃ d, fo[q]? = some (some d)
  snd : ∀ q d, fo[q]? = some (some d) → Way nb p d q
  st : p ∈ ro ∧ valF fo p = 0
  mono : ∀ (j k a b : Nat), j ≤ k → ro[j]? = some a → ro[k]? = some b → valF fo a ≤ valF fo b
  top : ∀ (j a : Nat), ro[j]? = some a → ∀ u, ro[i]? = some u → valF fo a ≤ valF fo u + 1
  done : ∀ (j u : Nat), j < i → ro[j]? = some u → ∀ v ∈ nb u, v ∈ ro ∧ valF fo v ≤ valF fo u + 1
  now : ∀ u, ro[i]? = some u → ∀ v ∈ dn, v ∈ ro ∧ valF fo v ≤ valF fo u + 1
theorem nodup_le {n : Nat} {ro : List Nat} (h : ∀ q ∈ ro, q < n) (nd : ro.Nodup) : ro.length ≤ n := by
  have h1 := List.Nodup.length_le_of_subset nd (l₂ := List.range n) fun q hq => List.mem_range.mpr (h q hq)
  simpa using h1
theorem BI.start {n : Nat} {nb : Nat → List Nat} {p : Nat} (hp : p < n) : BI n nb p 0 [] ((List.replicate n none).set p (some 0)) [p] := by
  have g : ∀ q d, ((List.replicate n (none : Option Nat)).set p (some 0))[q]? = some (some d) ↔ q = p ∧ d = 0 := fun q d => by
    by_cases h : p = q
    · subst h
      rw [List.getElem?_set_self (by simpa using hp)]
      simp [eq_comm]
    · rw [List.getElem?_set_ne h, List.getElem?_replicate]
      split <;> simp [Ne.symm h]
  have v : valF ((List.replicate n (none : Option Nat)).set p (some 0)) p = 0 := by
    unfold valF
    rw [(g p 0).mpr ⟨rfl, rfl⟩]
    rfl
  refine ⟨by simp, fun q hq => ?_, by simp, fun q => ?_, fun q d e => ?_, ⟨by simp, v⟩, fun j k a b _ h1 h2 => ?_, fun j a h1 u h2 => ?_, fun j u h => by omega, fun u _ v h => by cases h⟩
  · have : q = p := by simpa using hq
    omega
  · constructor
    · intro h
      exact ⟨0, (g q 0).mpr ⟨by simpa using h, rfl⟩⟩
    · intro ⟨d, h⟩
      simpa using ((g q d).mp h).1
  · obtain ⟨rfl, rfl⟩ := (g q d).mp e
    exact .nil
  · have e1 : a = p := by
      have := List.mem_of_getElem? h1
      simpa using this
    have e2 : b = p := by
      have := List.mem_of_getElem? h2
      simpa using this
    rw [e1, e2]
    exact Nat.le_refl _
  · have e1 : a = p := by
      have := List.mem_of_getElem? h1
      simpa using this
    rw [e1, v]
    omega
/-- a neighbour is known already -/
theorem BI.old {n : Nat} {nb : Nat → List Nat} {p i u v : Nat} {dn : List Nat} {fo : List (Option Nat)} {ro : List Nat} (h : BI n nb p i dn fo ro) (hu : ro[i]? = some u) (hv : v ∈ ro) : BI n nb p i (dn ++ [v]) fo ro :=
  ⟨h.len, h.rlt, h.nd, h.mem, h.snd, h.st, h.mono, h.top, h.done, fun w hw x hx => by
    rcases List.mem_append.mp hx with z | z
    · exact h.now w hw x z
    · have e : x = v := by simpa using z
      subst e
      obtain ⟨j, hj⟩ := List.mem_iff_getElem?.mp hv
      exact ⟨hv, h.top j x hj w hw⟩⟩
/-- .. or is new -/
theorem BI.new {n : Nat} {nb : Nat → List Nat} {p i u v d : Nat} {dn : List Nat} {fo : List (Option Nat)} {ro : List Nat} (h : BI n nb p i dn fo ro) (hu : ro[i]? = some u) (hd : fo[u]? = some (some d)) (hv : v < n) (hn : fo[v]? = some none) (ha : v ∈ nb u) :
    BI n nb p i (dn ++ [v]) (fo.set v (some (d + 1))) (ro ++ [v]) := by
  have nv : v ∉ ro := fun z => by
    obtain ⟨e, he⟩ := (h.mem v).mp z
    rw [hn] at he
    cases he
  have g : ∀ q, q ≠ v → (fo.set v (some (d + 1)))[q]? = fo[q]? := fun q z => List.getElem?_set_ne (Ne.symm z)
  have gv : (fo.set v (some (d + 1)))[v]? = some (some (d + 1)) := List.getElem?_set_self (by rw [h.len]; exact hv)
  have vl : ∀ q, q ≠ v → valF (fo.set v (some (d + 1))) q = valF fo q := fun q z => by
    unfold valF
    rw [g q z]
  have vv : valF (fo.set v (some (d + 1))) v = d + 1 := by
    unfold valF
    rw [gv]
    rfl
  have vu : valF fo u = d := by
    unfold valF
    rw [hd]
    rfl
  have old : ∀ {j a : Nat}, (ro ++ [v])[j]? = some a → (ro[j]? = some a ∧ a ≠ v) ∨ (a = v ∧ j = ro.length) := fun {j a} e => by
    by_cases z : j < ro.length
    · rw [List.getElem?_append_left z] at e
      exact .inl ⟨e, fun z2 => nv (z2 ▸ List.mem_of_getElem? e)⟩
    · rw [List.getElem?_append_right (by omega)] at e
      cases z3 : j - ro.length with
      | zero =>
        rw [z3] at e
        exact .inr ⟨(Option.some.inj e).symm, by omega⟩
      | succ k =>
        rw [z3] at e
        simp at e
  have hi : i < ro.length := (List.getElem?_eq_some_iff.mp hu).1
  have ui : ∀ {w : Nat}, (ro ++ [v])[i]? = some w → w = u := fun {w} e => by
    rw [List.getElem?_append_left hi, hu] at e
    exact (Option.some.inj e).symm
  have unv : u ≠ v := fun z => nv (z ▸ List.mem_of_getElem? hu)
  refine ⟨by rw [List.length_set, h.len], fun q hq => ?_, ?_, fun q => ?_, fun q e he => ?_, ⟨List.mem_append_left _ h.st.1, ?_⟩, fun j k a b hjk h1 h2 => ?_, fun j a h1 w hw => ?_, fun j w hj hw x hx => ?_, fun w hw x hx => ?_⟩
  · rcases List.mem_append.mp hq with z | z
    · exact h.rlt q z
    · have e : q = v := by simpa using z
      omega
  · rw [List.nodup_append]
    exact ⟨h.nd, by simp, fun a ha b hb e => nv (by
      have e2 : b = v := by simpa using hb
      rw [← e2, ← e]
      exact ha)⟩
  · by_cases z : q = v
    · subst z
      exact ⟨fun _ => ⟨_, gv⟩, fun _ => by simp⟩
    · rw [g q z, ← h.mem q]
      simp [z]
  · by_cases z : q = v
    · subst z
      rw [gv] at he
      have e2 := Option.some.inj (Option.some.inj he)
      rw [← e2]
      exact .step (h.snd u d hd) ha
    · rw [g q z] at he
      exact h.snd q e he
  · rw [vl p (fun z => nv (z ▸ h.st.1))]
    exact h.st.2
  · rcases old h1 with ⟨h1, n1⟩ | ⟨e1, l1⟩
    · rcases old h2 with ⟨h2, n2⟩ | ⟨e2, l2⟩
      · rw [vl a n1, vl b n2]
        exact h.mono j k a b hjk h1 h2
      · rw [e2, vv, vl a n1, ← vu]
        exact h.top j a h1 u hu
    · rcases old h2 with ⟨h2, n2⟩ | ⟨e2, l2⟩
      · have := (List.getElem?_eq_some_iff.mp h2).1
        omega
      · rw [e1, e2]
        exact Nat.le_refl _
  · rw [ui hw, vl u unv]
    rcases old h1 with ⟨h1, n1⟩ | ⟨e1, l1⟩
    · rw [vl a n1]
      exact h.top j a h1 u hu
    · rw [e1, vv, vu]
      exact Nat.le_refl _
  · have hj2 : j < ro.length := by omega
    rw [List.getElem?_append_left hj2] at hw
    obtain ⟨z1, z2⟩ := h.done j w hj hw x hx
    refine ⟨List.mem_append_left _ z1, ?_⟩
    rw [vl x (fun z => nv (z ▸ z1)), vl w (fun z => nv (z ▸ List.mem_of_getElem? hw))]
    exact z2
  · have e0 := ui hw
    subst e0
    rcases List.mem_append.mp hx with z | z
    · obtain ⟨z1, z2⟩ := h.now w hu x z
      refine ⟨List.mem_append_left _ z1, ?_⟩
      rw [vl x (fun z => nv (z ▸ z1)), vl w unv]
      exact z2
    · have e : x = v := by simpa using z
      subst e
      refine ⟨by simp, ?_⟩
      rw [vv, vl w unv, vu]
      exact Nat.le_refl _
theorem BI.next {n : Nat} {nb : Nat → List Nat} {p i u : Nat} {fo : List (Option Nat)} {ro : List Nat} (h : BI n nb p i (nb u) fo ro) (hu : ro[i]? = some u) : BI n nb p (i + 1) [] fo ro :=
  ⟨h.len, h.rlt, h.nd, h.mem, h.snd, h.st, h.mono, fun j a h1 w hw => by
    have z1 := h.top j a h1 u hu
    have z2 := h.mono i (i + 1) u w (by omega) hu hw
    omega, fun j w hj hw x hx => by
    by_cases z : j = i
    · subst z
      rw [hu] at hw
      have e := Option.some.inj hw
      subst e
      exact h.now u hu x hx
    · exact h.done j w (by omega) hw x hx, fun w _ x hx => by cases hx⟩
theorem BI.fin {n : Nat} {nb : Nat → List Nat} {p i : Nat} {fo : List (Option Nat)} {ro : List Nat} (h : BI n nb p i [] fo ro) (hi : ro.length ≤ i) : fo = (List.range n).map (far nb p) := by
  have g : ∀ k q, Way nb p k q → q ∈ ro ∧ valF fo q ≤ k := fun k q w => by
    induction w with
    | nil => exact ⟨h.st.1, Nat.le_of_eq h.st.2⟩
    | @step k u v w hv ih =>
      obtain ⟨j, hj⟩ := List.mem_iff_getElem?.mp ih.1
      have hjl : j < ro.length := (List.getElem?_eq_some_iff.mp hj).1
      obtain ⟨z1, z2⟩ := h.done j u (by omega) hj v hv
      exact ⟨z1, by omega⟩
  apply List.ext_getElem?
  intro q
  by_cases hq : q < n
  · rw [get_map_range _ hq]
    have hl : q < fo.length := by rw [h.len]; exact hq
    cases e : fo[q]? with
    | none =>
      rw [List.getElem?_eq_none_iff] at e
      omega
    | some o =>
      congr 1
      cases o with
      | none =>
        refine (far_none.mpr fun ⟨k, w⟩ => ?_).symm
        obtain ⟨d, hd⟩ := (h.mem q).mp (g k q w).1
        rw [e] at hd
        cases hd
      | some d =>
        refine (far_some.mpr ⟨h.snd q d e, fun k w => ?_⟩).symm
        have z := (g k q w).2
        have e2 : valF fo q = d := by
          unfold valF
          rw [e]
          rfl
        omega
  · rw [List.getElem?_eq_none (by rw [h.len]; omega), List.getElem?_eq_none (by simp; omega)]
/-! ### the defs -/
def nbOf (bs : List (List Nat)) (u : Nat) : List Nat := bs.getD u []
/-- the lists of a beside-table -/
def BsOk (bs : List (List Nat)) : Prop := bs.length ≤ 40 ∧ ∀ u, ∀ v ∈ nbOf bs u, v < bs.length
theorem nbOf_beside {w : Web} {p : Nat} (h : p < w.1) : nbOf (besideAll w) p = nbs w p := by
  unfold nbOf besideAll
  rw [List.getD_eq_getElem?_getD, get_map_range _ h]
  rfl
theorem mem_rawNb {ties : List Tie} {p q : Nat} : q ∈ rawNb ties p ↔ (p, q) ∈ ties ∨ (q, p) ∈ ties := by
  unfold rawNb
  rw [List.mem_flatMap]
  constructor
  · intro ⟨t, ht, h⟩
    rcases List.mem_append.mp h with h | h
    · by_cases e : t.1 = p
      · rw [if_pos e] at h
        have e2 : q = t.2 := by simpa using h
        exact .inl (by rw [e2, ← e]; exact ht)
      · rw [if_neg e] at h
        cases h
    · by_cases e : t.2 = p
      · rw [if_pos e] at h
        have e2 : q = t.1 := by simpa using h
        exact .inr (by rw [e2, ← e]; exact ht)
      · rw [if_neg e] at h
        cases h
  · rintro (h | h)
    · exact ⟨_, h, List.mem_append_left _ (by simp)⟩
    · exact ⟨_, h, List.mem_append_right _ (by simp)⟩
theorem mem_nbs {w : Web} {p q : Nat} : q ∈ nbs w p ↔ (p, q) ∈ w.2 ∨ (q, p) ∈ w.2 := by
  unfold nbs
  rw [List.mem_mergeSort, mem_rawNb]
theorem bsOk_beside {w : Web} (h : Valid w) : BsOk (besideAll w) := by
  refine ⟨by simpa [besideAll] using h.le, fun u v hv => ?_⟩
  have l : (besideAll w).length = w.1 := by simp [besideAll]
  rw [l]
  by_cases hu : u < w.1
  · rw [nbOf_beside hu, mem_nbs] at hv
    rcases hv with hv | hv
    · exact (h.tie _ hv).2
    · have := h.tie _ hv
      omega
  · unfold nbOf at hv
    rw [List.getD_eq_getElem?_getD, List.getElem?_eq_none (by omega)] at hv
    cases hv
noncomputable def farBy (bs : List (List Nat)) (p : Nat) : List (Option Nat) := (List.range bs.length).map (far (nbOf bs) p)
/-- a web's own neighbours -/
abbrev nbW (w : Web) : Nat → List Nat := nbOf (besideAll w)
noncomputable def farTable (w : Web) : List (List (Option Nat)) := (List.range w.1).map (farBy (besideAll w))
def Conn (w : Web) : Prop := ∀ q, q < w.1 → Rch (nbW w) 0 q
noncomputable def comp (w : Web) (p : Nat) : List Nat := (List.range w.1).filter fun q => (far (nbW w) p q).isSome
noncomputable def isHead (w : Web) (p : Nat) : Bool := (List.range p).all fun q => (far (nbW w) q p).isNone
noncomputable def piecesOf (w : Web) : List (List Nat) := ((List.range w.1).filter (isHead w)).map (comp w)
noncomputable def seenBy (w : Web) (i q : Nat) : Bool := (List.range i).any fun p => (far (nbW w) p q).isSome
theorem seenBy_head (w : Web) (p : Nat) : seenBy w p p = !isHead w p := by
  unfold seenBy isHead
  rw [List.not_all_eq_any_not]
  congr 1
  funext q
  cases far (nbW w) q p <;> rfl
theorem seenBy_succ (w : Web) (i q : Nat) : seenBy w (i + 1) q = (seenBy w i q || (far (nbW w) i q).isSome) := by
  unfold seenBy
  rw [List.range_succ, List.any_append]
  simp
theorem seenBy_no {w : Web} {i : Nat} (h : isHead w i = false) (q : Nat) : seenBy w (i + 1) q = seenBy w i q := by
  rw [seenBy_succ]
  by_cases e : (far (nbW w) i q).isSome = true
  · have h1 : seenBy w i i = true := by rw [seenBy_head, h]; rfl
    unfold seenBy at h1
    rw [List.any_eq_true] at h1
    obtain ⟨p, hp, hp2⟩ := h1
    have h2 : seenBy w i q = true := by
      unfold seenBy
      rw [List.any_eq_true]
      exact ⟨p, hp, far_isSome.mpr ((far_isSome.mp hp2).trans (far_isSome.mp e))⟩
    rw [h2, e]
    rfl
  · rw [Bool.not_eq_true] at e
    rw [e, Bool.or_false]
def leT (p q : Tie) : Bool := decide (p.1 < q.1 ∨ (p.1 = q.1 ∧ p.2 ≤ q.2))
def withinBy (w : Web) (places : List Nat) : Web :=
  (places.length, ((w.2.filter fun t => decide (t.1 ∈ places) && decide (t.2 ∈ places)).map fun t => tieOf (places.idxOf t.1) (places.idxOf t.2)).mergeSort leT)
structure PlOk (w : Web) (places : List Nat) : Prop where
  ne : places ≠ []
  lt : ∀ p ∈ places, p < w.1
  inc : places.Pairwise (· < ·)
theorem PlOk.nodup {w : Web} {ps : List Nat} (h : PlOk w ps) : ps.Nodup := h.inc.imp fun {a b} q e => by omega
theorem PlOk.len {w : Web} {ps : List Nat} (h : PlOk w ps) : ps.length ≤ w.1 := nodup_le h.lt h.nodup
end M

/-! What the defs compute, in plain Lean: links, chains, classes, factors. -/
namespace M
open Ty (en T3 addL look srt)
/-! ### places and their numbers -/
theorem en_swap_keys {α : Type} (xs : List α) : ((en xs).map fun p => (p.2, p.1)).map (·.1) = xs := by
  rw [List.map_map]
  unfold en
  rw [show ((fun x : α × Nat => x.1) ∘ fun p : Nat × α => (p.2, p.1)) = Prod.snd from rfl, List.map_snd_zip (by simp)]
theorem idxOf_get {xs : List Nat} (nd : xs.Nodup) {k x : Nat} (h : xs[k]? = some x) : xs.idxOf x = k := by
  obtain ⟨hk, e⟩ := List.getElem?_eq_some_iff.mp h
  have hx : x ∈ xs := List.mem_of_getElem? h
  have h1 : xs.idxOf x < xs.length := List.idxOf_lt_length_of_mem hx
  have h2 : xs[xs.idxOf x]? = some x := by
    rw [List.getElem?_eq_getElem h1]
    congr 1
    exact List.getElem_idxOf h1
  exact ((List.getElem?_inj h1 nd).mp (h2.trans h.symm))
theorem look_en {xs : List Nat} (nd : xs.Nodup) {x : Nat} (h : x ∈ xs) : look ((en xs).map fun p => (p.2, p.1)) x = some (xs.idxOf x) := by
  refine Ty.look_of ?_ ?_
  · rw [en_swap_keys]
    exact nd
  · obtain ⟨k, hk⟩ := List.mem_iff_getElem?.mp h
    rw [idxOf_get nd hk]
    refine List.mem_map.mpr ⟨(k, x), ?_, rfl⟩
    unfold en
    refine List.mem_iff_getElem?.mpr ⟨k, ?_⟩
    rw [List.getElem?_zip_eq_some]
    exact ⟨by rw [List.getElem?_range (List.getElem?_eq_some_iff.mp hk).1], hk⟩
/-! ### links -/
def HasD (table : List (List (Option Nat))) (a b : Nat) : Prop := ∃ row d, table[a]? = some row ∧ row[b]? = some (some d)
def tb (table : List (List (Option Nat))) (a b : Nat) : Nat := ((((table[a]?).getD [])[b]?).join).getD 0
theorem tb_of {table : List (List (Option Nat))} {a b d : Nat} {row : List (Option Nat)} (h1 : table[a]? = some row) (h2 : row[b]? = some (some d)) : tb table a b = d := by
  unfold tb
  rw [h1]
  show ((row[b]?).join).getD 0 = d
  rw [h2]
  rfl
def farIn (table : List (List (Option Nat))) (t o : Tie) : Bool := !decide (tb table t.1 o.1 + tb table t.2 o.2 = tb table t.1 o.2 + tb table t.2 o.1)
def sharedOf (t o : Tie) : List Nat := [t.1, t.2].filter fun p => decide (p ∈ [o.1, o.2])
def endsOf (t o : Tie) : List Nat := [t.1, t.2, o.1, o.2].filter fun p => !decide (p ∈ sharedOf t o)
def cornerIn (bs : List (List Nat)) (t o : Tie) : Bool :=
  if (sharedOf t o).length = 1 then decide (((nbOf bs ((endsOf t o).getD 0 0)).filter fun p => decide (p ∈ nbOf bs ((endsOf t o).getD 1 0))) = sharedOf t o) else false
theorem ends_two {t o : Tie} (h1 : t.1 < t.2) (h2 : o.1 < o.2) (h : (sharedOf t o).length = 1) : ∃ a b, endsOf t o = [a, b] ∧ a ∈ [t.1, t.2, o.1, o.2] ∧ b ∈ [t.1, t.2, o.1, o.2] := by
  obtain ⟨a, b⟩ := t
  obtain ⟨c, d⟩ := o
  unfold endsOf
  have e : sharedOf (a, b) (c, d) = (if a = c ∨ a = d then [a] else []) ++ (if b = c ∨ b = d then [b] else []) := by
    unfold sharedOf
    by_cases h3 : a = c ∨ a = d <;> by_cases h4 : b = c ∨ b = d <;> simp [h3, h4, List.filter_cons]
  rw [e] at h ⊢
  simp only at h1 h2
  by_cases h3 : a = c ∨ a = d
  · by_cases h4 : b = c ∨ b = d
    · rw [if_pos h3, if_pos h4] at h
      simp at h
    · rw [if_pos h3, if_neg h4, List.append_nil]
      rcases h3 with h3 | h3
      · subst h3
        have : b ≠ a := by omega
        have : d ≠ a := by omega
        exact ⟨b, d, by simp [List.filter_cons, *], by simp, by simp⟩
      · subst h3
        have : b ≠ a := by omega
        have : c ≠ a := by omega
        exact ⟨b, c, by simp [List.filter_cons, *], by simp, by simp⟩
  · by_cases h4 : b = c ∨ b = d
    · rw [if_neg h3, if_pos h4, List.nil_append]
      rcases h4 with h4 | h4
      · subst h4
        have : a ≠ b := by omega
        have : d ≠ b := by omega
        exact ⟨a, d, by simp [List.filter_cons, *], by simp, by simp⟩
      · subst h4
        have : a ≠ b := by omega
        have : c ≠ b := by omega
        exact ⟨a, c, by simp [List.filter_cons, *], by simp, by simp⟩
    · rw [if_neg h3, if_neg h4] at h
      simp at h
/-! ### chains -/
abbrev Link := T3 PySem.Str Tie Tie
def hdStep (hd : Tie → Tie) (l : Link) : Tie → Tie := fun t => if hd t = hd l.c then hd l.b else hd t
def headsOf (links : List Link) : Tie → Tie := links.foldl hdStep id
/-- a dict from ties, by a function -/
def byF (ties : List Tie) (hd : Tie → Tie) : List (Tie × Tie) := ties.map fun t => (t, hd t)
theorem byF_congr {ties : List Tie} {f g : Tie → Tie} (h : ∀ u ∈ ties, f u = g u) : byF ties f = byF ties g := by
  unfold byF
  apply List.map_congr_left
  intro u hu
  rw [h u hu]
theorem byF_keys (ties : List Tie) (hd : Tie → Tie) : (byF ties hd).map (·.1) = ties := by
  unfold byF
  rw [List.map_map]
  exact List.map_id _
theorem byF_nodup {ties : List Tie} (h : ties.Nodup) : ((ties.map fun t => (t, t)).map (·.1)).Nodup := by
  rw [List.map_map, show ((fun x : Tie × Tie => x.1) ∘ fun t : Tie => (t, t)) = id from rfl, List.map_id]
  exact h
theorem look_byF {ties : List Tie} {hd : Tie → Tie} {t : Tie} (h : t ∈ ties) : look (byF ties hd) t = some (hd t) := by
  unfold byF
  induction ties with
  | nil => cases h
  | cons u ties ih =>
    rw [List.map_cons, Ty.look_cons]
    by_cases e : u = t
    · rw [if_pos e, e]
    · rw [if_neg e]
      exact ih (by
        rcases List.mem_cons.mp h with z | z
        · exact absurd z.symm e
        · exact z)
theorem put_byF {ties : List Tie} {hd : Tie → Tie} {t v : Tie} (h : t ∈ ties) : Ty.putL (byF ties hd) t v = byF ties fun u => if u = t then v else hd u := by
  unfold Ty.putL
  rw [look_byF h, if_pos (show (some (hd t)).isSome = true from rfl)]
  unfold byF
  rw [List.map_map]
  apply List.map_congr_left
  intro u _
  show (if u = t then (u, v) else (u, hd u)) = (u, if u = t then v else hd u)
  split <;> rfl
def groups (ties : List Tie) (hd : Tie → Tie) : List (Tie × List Tie) := ties.foldl (fun l t => addL l (hd t) t) []
theorem addL_keys {κ β : Type} [DecidableEq κ] (l : List (κ × List β)) (k : κ) (y : β) : (addL l k y).map (·.1) = if k ∈ l.map (·.1) then l.map (·.1) else l.map (·.1) ++ [k] := by
  unfold addL
  rw [Ty.look_some]
  by_cases h : k ∈ l.map (·.1)
  · rw [decide_eq_true h, if_pos rfl, if_pos h, List.map_map]
    apply List.map_congr_left
    intro p _
    show (if p.1 = k then (p.1, p.2 ++ [y]) else p).1 = p.1
    split <;> rfl
  · rw [decide_eq_false h, if_neg Bool.false_ne_true, if_neg h, List.map_append]
    rfl
theorem addL_nodup {κ β : Type} [DecidableEq κ] {l : List (κ × List β)} {k : κ} {y : β} (h : (l.map (·.1)).Nodup) : ((addL l k y).map (·.1)).Nodup := by
  rw [addL_keys]
  split
  · exact h
  · rename_i hk
    rw [List.nodup_append]
    exact ⟨h, by simp, fun a ha b hb e => hk (by
      have e2 : b = k := by simpa using hb
      rw [← e2, ← e]
      exact ha)⟩
theorem addL_len {κ β : Type} [DecidableEq κ] {l : List (κ × List β)} {k : κ} {y : β} {n : Nat} (h : ∀ p ∈ l, p.2.length ≤ n) (hl : l.length ≤ n) : (∀ p ∈ addL l k y, p.2.length ≤ n + 1) ∧ (addL l k y).length ≤ n + 1 := by
  unfold addL
  split
  · refine ⟨fun p hp => ?_, by rw [List.length_map]; omega⟩
    obtain ⟨q, hq, e⟩ := List.mem_map.mp hp
    have := h q hq
    subst e
    split
    · show (q.2 ++ [y]).length ≤ _
      rw [List.length_append]
      simp
      omega
    · omega
  · refine ⟨fun p hp => ?_, by rw [List.length_append]; simp; omega⟩
    rcases List.mem_append.mp hp with z | z
    · have := h p z
      omega
    · have e : p = (k, [y]) := by simpa using z
      subst e
      simp
theorem groups_ok (ties : List Tie) (hd : Tie → Tie) : ((groups ties hd).map (·.1)).Nodup ∧ (∀ p ∈ groups ties hd, p.2.length ≤ ties.length) ∧ (groups ties hd).length ≤ ties.length := by
  unfold groups
  have g : ∀ (ts : List Tie) (l : List (Tie × List Tie)) (n : Nat), (l.map (·.1)).Nodup → (∀ p ∈ l, p.2.length ≤ n) → l.length ≤ n → (((ts.foldl (fun l t => addL l (hd t) t) l).map (·.1)).Nodup ∧
      (∀ p ∈ ts.foldl (fun l t => addL l (hd t) t) l, p.2.length ≤ n + ts.length) ∧ (ts.foldl (fun l t => addL l (hd t) t) l).length ≤ n + ts.length) := by
    intro ts
    induction ts with
    | nil => exact fun l n h1 h2 h3 => ⟨h1, h2, h3⟩
    | cons t ts ih =>
      intro l n h1 h2 h3
      have z := addL_len (k := hd t) (y := t) h2 h3
      have w := ih (addL l (hd t) t) (n + 1) (addL_nodup h1) z.1 z.2
      rw [List.length_cons]
      rw [show n + (ts.length + 1) = n + 1 + ts.length by omega]
      exact w
  have := g ties [] 0 (by simp) (by simp) (by simp)
  rw [Nat.zero_add] at this
  exact this
def hungIn (ties : List Tie) (links : List Link) : List (List Tie) := srt ((groups ties (headsOf links)).map (·.2))
/-! ### classes -/
def wordOf (table : List (List (Option Nat))) (bs : List (List Nat)) (t o : Tie) : Option PySem.Str := if farIn table t o then some (PySem.Str.ofString "far") else if cornerIn bs t o then some (PySem.Str.ofString "corner") else none
abbrev LkS := List Nat × List Link
def lkStep (table : List (List (Option Nat))) (bs : List (List Nat)) (ties : List Tie) (i : Nat) (s : LkS) (j : Nat) : LkS :=
  if s.1.getD j 0 = s.1.getD i 0 then s else
    match wordOf table bs (ties.getD j (0, 0)) (ties.getD i (0, 0)) with
    | none => s
    | some w => (s.1.map fun x => if x = s.1.getD i 0 then s.1.getD j 0 else x, s.2 ++ [⟨w, ties.getD j (0, 0), ties.getD i (0, 0)⟩])
def lkRow (table : List (List (Option Nat))) (bs : List (List Nat)) (ties : List Tie) (s : LkS) (i : Nat) : LkS := (List.range i).foldl (lkStep table bs ties i) s
noncomputable def linkedIn (w : Web) : List Link := ((List.range w.2.length).foldl (lkRow (farTable w) (besideAll w) w.2) (List.range w.2.length, [])).2
noncomputable def classesIn (w : Web) : List (List Tie) := hungIn w.2 (linkedIn w)
theorem lkStep_len {table : List (List (Option Nat))} {bs : List (List Nat)} {ties : List Tie} {i j : Nat} {s : LkS} : (lkStep table bs ties i s j).1.length = s.1.length ∧ (lkStep table bs ties i s j).2.length ≤ s.2.length + 1 := by
  unfold lkStep
  split
  · exact ⟨rfl, by omega⟩
  · split
    · exact ⟨rfl, by omega⟩
    · simp
theorem lkFold_len {table : List (List (Option Nat))} {bs : List (List Nat)} {ties : List Tie} {i : Nat} : ∀ (js : List Nat) (s : LkS), (js.foldl (lkStep table bs ties i) s).1.length = s.1.length ∧ (js.foldl (lkStep table bs ties i) s).2.length ≤ s.2.length + js.length
  | [], s => ⟨rfl, by simp⟩
  | j :: js, s => by
    have h1 := lkStep_len (table := table) (bs := bs) (ties := ties) (i := i) (j := j) (s := s)
    have h2 := lkFold_len (table := table) (bs := bs) (ties := ties) (i := i) js (lkStep table bs ties i s j)
    rw [List.foldl_cons, List.length_cons]
    exact ⟨h2.1.trans h1.1, by omega⟩
theorem lkRows_len {table : List (List (Option Nat))} {bs : List (List Nat)} {ties : List Tie} {n : Nat} : ∀ (is : List Nat) (s : LkS), (∀ i ∈ is, i ≤ n) → (is.foldl (lkRow table bs ties) s).1.length = s.1.length ∧ (is.foldl (lkRow table bs ties) s).2.length ≤ s.2.length + n * is.length
  | [], s, _ => ⟨rfl, by simp⟩
  | i :: is, s, h => by
    have h1 := lkFold_len (table := table) (bs := bs) (ties := ties) (i := i) (List.range i) s
    have h2 := lkRows_len (table := table) (bs := bs) (ties := ties) (n := n) is (lkRow table bs ties s i) fun j hj => h j (List.mem_cons_of_mem _ hj)
    have h3 := h i (List.mem_cons_self ..)
    rw [List.length_range] at h1
    rw [List.foldl_cons, List.length_cons, Nat.mul_succ]
    exact ⟨h2.1.trans h1.1, by
      have := h2.2
      have : (lkRow table bs ties s i).2.length ≤ s.2.length + i := h1.2
      omega⟩
/-! ### factors -/
def apartOf (w : Web) (some : List Tie) : List Tie := w.2.filter fun t => !decide (t ∈ some)
noncomputable def layerOf (w : Web) (c : List Tie) : List Nat := (piecesOf (w.1, c)).headD []
def standOf (layer piece : List Nat) : List Nat := ((en layer).filter fun p => decide (p.2 ∈ piece)).map (·.1)
def addAt (v : Nat) (rows : List (List Nat)) (p : Nat) : List (List Nat) := rows.set p (rows.getD p [] ++ [v])
def addPiece (layer : List Nat) (rows : List (List Nat)) (piece : List Nat) : List (List Nat) := piece.foldl (addAt ((standOf layer piece).headD 0)) rows
noncomputable def addClass (w : Web) (rows : List (List Nat)) (c : List Tie) : List (List Nat) := (piecesOf (w.1, apartOf w c)).foldl (addPiece (layerOf w c)) rows
noncomputable def facIn (w : Web) : List Web × List (List Nat) := ((classesIn w).map fun c => withinBy w (layerOf w c), (classesIn w).foldl (addClass w) (List.replicate w.1 []))
end M

/-! What the defs compute, in plain Lean: bounds of links and rows; namings. -/
namespace M
open Ty (en T3 addL look srt)
def LkIn (ties : List Tie) (s : LkS) : Prop := ∀ l ∈ s.2, l.b ∈ ties ∧ l.c ∈ ties
theorem lkIn_fold {table : List (List (Option Nat))} {bs : List (List Nat)} {ties : List Tie} {i : Nat} (hi : i < ties.length) : ∀ (js : List Nat) (s : LkS), (∀ j ∈ js, j < ties.length) → LkIn ties s → LkIn ties (js.foldl (lkStep table bs ties i) s)
  | [], s, _, h => h
  | j :: js, s, hj, h => by
    rw [List.foldl_cons]
    refine lkIn_fold hi js _ (fun k hk => hj k (List.mem_cons_of_mem _ hk)) ?_
    have hjl := hj j (List.mem_cons_self ..)
    unfold lkStep
    split
    · exact h
    · split
      · exact h
      · intro l hl
        rcases List.mem_append.mp hl with z | z
        · exact h l z
        · have e : l = _ := List.mem_singleton.mp z
          subst e
          rw [List.getD_eq_getElem?_getD, List.getD_eq_getElem?_getD, List.getElem?_eq_getElem hjl, List.getElem?_eq_getElem hi]
          exact ⟨List.getElem_mem _, List.getElem_mem _⟩
theorem linkedIn_ok {w : Web} (h : Valid w) : (linkedIn w).length ≤ 100000 ∧ ∀ l ∈ linkedIn w, l.b ∈ w.2 ∧ l.c ∈ w.2 := by
  constructor
  · have := (lkRows_len (table := farTable w) (bs := besideAll w) (ties := w.2) (n := w.2.length) (List.range w.2.length) (List.range w.2.length, []) fun i hi => by
      have := List.mem_range.mp hi
      omega).2
    have h2 : w.2.length * (List.range w.2.length).length ≤ 120 * 120 := by
      rw [List.length_range]
      exact Nat.mul_le_mul h.few h.few
    have h3 : (linkedIn w).length ≤ ([] : List Link).length + w.2.length * (List.range w.2.length).length := this
    rw [List.length_nil] at h3
    omega
  · have g : ∀ (is : List Nat) (s : LkS), (∀ i ∈ is, i < w.2.length) → LkIn w.2 s → LkIn w.2 (is.foldl (lkRow (farTable w) (besideAll w) w.2) s) := by
      intro is
      induction is with
      | nil => exact fun s _ h => h
      | cons i is ih =>
        intro s hi hs
        rw [List.foldl_cons]
        have hil := hi i (List.mem_cons_self ..)
        exact ih _ (fun k hk => hi k (List.mem_cons_of_mem _ hk)) (lkIn_fold hil _ _ (fun j hj => by
          have := List.mem_range.mp hj
          omega) hs)
    exact g (List.range w.2.length) (List.range w.2.length, []) (fun i hi => List.mem_range.mp hi) fun l hl => by cases hl
theorem classesIn_len (w : Web) : (classesIn w).length ≤ w.2.length := by
  unfold classesIn hungIn
  rw [(Ty.perm_srt _).length_eq, List.length_map]
  exact (groups_ok w.2 (headsOf (linkedIn w))).2.2
/-! ### rows -/
structure RB (n k : Nat) (rows : List (List Nat)) : Prop where
  len : rows.length = n
  le : ∀ x ∈ rows, x.length ≤ k
theorem RB.mono {n k l : Nat} {rows : List (List Nat)} (h : RB n k rows) (hk : k ≤ l) : RB n l rows := ⟨h.len, fun x hx => Nat.le_trans (h.le x hx) hk⟩
theorem RB.addAt {n k v p : Nat} {rows : List (List Nat)} (h : RB n k rows) : RB n (k + 1) (addAt v rows p) := by
  unfold M.addAt
  refine ⟨by rw [List.length_set]; exact h.len, fun x hx => ?_⟩
  rcases List.mem_or_eq_of_mem_set hx with z | z
  · have := h.le x z
    omega
  · rw [z, List.length_append, List.length_singleton]
    by_cases hp : p < rows.length
    · rw [List.getD_eq_getElem?_getD, List.getElem?_eq_getElem hp]
      have := h.le _ (List.getElem_mem hp)
      show (rows[p]).length + 1 ≤ _
      omega
    · rw [List.getD_eq_getElem?_getD, List.getElem?_eq_none (by omega)]
      simp
theorem RB.fold {n v : Nat} : ∀ (ps : List Nat) {k : Nat} {rows : List (List Nat)}, RB n k rows → RB n (k + ps.length) (ps.foldl (M.addAt v) rows)
  | [], _, _, h => h
  | p :: ps, k, rows, h => by
    have := RB.fold (v := v) ps (h.addAt (v := v) (p := p))
    rw [List.foldl_cons, List.length_cons]
    exact this.mono (by omega)
theorem RB.pieces {n m : Nat} {layer : List Nat} : ∀ (pcs : List (List Nat)) {k : Nat} {rows : List (List Nat)}, (∀ pc ∈ pcs, pc.length ≤ m) → RB n k rows → RB n (k + m * pcs.length) (pcs.foldl (addPiece layer) rows)
  | [], _, _, _, h => h
  | pc :: pcs, k, rows, hm, h => by
    have h1 := RB.fold (v := (standOf layer pc).headD 0) pc h
    have h2 := hm pc (List.mem_cons_self ..)
    have := RB.pieces (layer := layer) pcs (fun q hq => hm q (List.mem_cons_of_mem _ hq)) (h1.mono (show k + pc.length ≤ k + m by omega))
    rw [List.foldl_cons, List.length_cons, Nat.mul_succ]
    exact this.mono (by omega)
theorem comp_le (w : Web) (p : Nat) : (comp w p).length ≤ w.1 := by
  have := List.length_filter_le (fun q => (far (nbW w) p q).isSome) (List.range w.1)
  rwa [List.length_range] at this
theorem pieces_le (w : Web) : (piecesOf w).length ≤ w.1 ∧ ∀ pc ∈ piecesOf w, pc.length ≤ w.1 ∧ ∀ p ∈ pc, p < w.1 := by
  unfold piecesOf
  constructor
  · rw [List.length_map]
    have := List.length_filter_le (isHead w) (List.range w.1)
    rwa [List.length_range] at this
  · intro pc h
    obtain ⟨p, _, e⟩ := List.mem_map.mp h
    subst e
    refine ⟨comp_le w p, fun q hq => ?_⟩
    unfold comp at hq
    rw [List.mem_filter, List.mem_range] at hq
    exact hq.1
theorem RB.addClass {w : Web} {k : Nat} {rows : List (List Nat)} {c : List Tie} (h40 : w.1 ≤ 40) (h : RB w.1 k rows) : RB w.1 (k + 1600) (addClass w rows c) := by
  unfold M.addClass
  have h1 := pieces_le (w.1, apartOf w c)
  have := RB.pieces (layer := layerOf w c) (m := 40) (piecesOf (w.1, apartOf w c)) (fun pc hp => by
    have := (h1.2 pc hp).1
    simp only at this
    omega) h
  refine this.mono ?_
  have := h1.1
  simp only at this
  omega
theorem RB.classes {w : Web} (h40 : w.1 ≤ 40) : ∀ (cs : List (List Tie)) {k : Nat} {rows : List (List Nat)}, RB w.1 k rows → RB w.1 (k + 1600 * cs.length) (cs.foldl (M.addClass w) rows)
  | [], _, _, h => h
  | c :: cs, k, rows, h => by
    have := RB.classes h40 cs (h.addClass (c := c) h40)
    rw [List.foldl_cons, List.length_cons, Nat.mul_succ]
    exact this.mono (by omega)
theorem RB.start (n : Nat) : RB n 0 (List.replicate n []) := ⟨by simp, fun x hx => by
  rw [(List.mem_replicate.mp hx).2]
  simp⟩
/-- what factored_in asks of a web -/
structure FacPre (w : Web) : Prop where
  ok : Valid w
  dist : ∀ p q, p < w.1 → q < w.1 → HasD (farTable w) p q
  vc : ∀ c ∈ classesIn w, Valid (w.1, c)
  ne : ∀ c ∈ classesIn w, piecesOf (w.1, c) ≠ []
  pl : ∀ c ∈ classesIn w, PlOk w (layerOf w c)
  va : ∀ c ∈ classesIn w, Valid (w.1, apartOf w c)
  st : ∀ c ∈ classesIn w, ∀ pc ∈ piecesOf (w.1, apartOf w c), standOf (layerOf w c) pc ≠ []
  rl : ∀ r ∈ (facIn w).2, r.length ≤ 120
/-! ### namings -/
structure IsNaming (one other : Web) (f : List Nat) : Prop where
  places : one.1 = other.1
  len : f.length = other.1
  lt : ∀ p ∈ f, p < other.1
  nd : f.Nodup
  ties : one.2.length = other.2.length
  tied : ∀ t ∈ one.2, tieOf (f.getD t.1 0) (f.getD t.2 0) ∈ other.2
def turnedBack (f : List Nat) : List Nat := (en f).foldl (fun l p => l.set p.2 p.1) (List.replicate f.length 0)
def behind (f g : List Nat) : List Nat := f.map fun p => g.getD p 0
theorem turned_len {f : List (Nat × Nat)} : ∀ {l : List Nat}, (f.foldl (fun l p => l.set p.2 p.1) l).length = l.length := by
  induction f with
  | nil => exact rfl
  | cons p f ih =>
    intro l
    rw [List.foldl_cons, ih, List.length_set]
end M

/-! What the defs compute, in plain Lean: rows, parts, products, taken. -/
namespace M
open Ty (en T3 addL look srt Tp DT)
theorem fold_app {α β : Type} (f : α → List β) : ∀ (xs : List α) (acc : List β), xs.foldl (fun a x => a ++ f x) acc = acc ++ xs.flatMap f
  | [], acc => by simp
  | x :: xs, acc => by rw [List.foldl_cons, fold_app f xs, List.flatMap_cons, List.append_assoc]
theorem fm_take_succ {α β : Type} {f : α → List β} {xs : List α} {i : Nat} {x : α} (h : xs[i]? = some x) : (xs.take (i + 1)).flatMap f = (xs.take i).flatMap f ++ f x := by
  rw [Ty.take_len_succ h, List.flatMap_append]
  simp
/-! ### rows -/
def placesIn (webs : List Web) : Nat := webs.foldl (fun a w => a * w.1) 1
def tiesIn (webs : List Web) : Nat := (webs.map fun w => w.2.length * (placesIn webs / w.1)).sum
def numberIn (webs : List Web) (row : List Nat) : Nat := (row.zip webs).foldl (fun a p => a * p.2.1 + p.1) 0
def rowRev : List Web → Nat → List Nat
  | [], _ => []
  | w :: ws, n => (n % w.1) :: rowRev ws (n / w.1)
def numRev : List Web → Nat → Nat
  | [], n => n
  | w :: ws, n => numRev ws (n / w.1)
def rowIn (webs : List Web) (n : Nat) : List Nat := (rowRev webs.reverse n).reverse
theorem rowRev_len : ∀ (ws : List Web) (n : Nat), (rowRev ws n).length = ws.length
  | [], _ => rfl
  | w :: ws, n => congrArg Nat.succ (rowRev_len ws _)
theorem rowIn_len (webs : List Web) (n : Nat) : (rowIn webs n).length = webs.length := by
  unfold rowIn
  rw [List.length_reverse, rowRev_len, List.length_reverse]
theorem rowRev_get : ∀ {ws : List Web} {n k : Nat} {w : Web} {x : Nat}, (∀ w ∈ ws, 0 < w.1) → ws[k]? = some w → (rowRev ws n)[k]? = some x → x < w.1
  | [], _, _, _, _, _, e, _ => by simp at e
  | v :: ws, n, 0, w, x, h, e, e2 => by
    have e3 := Option.some.inj e
    have e4 := Option.some.inj e2
    subst e3 e4
    exact Nat.mod_lt _ (h v (List.mem_cons_self ..))
  | v :: ws, n, k + 1, w, x, h, e, e2 => rowRev_get (ws := ws) (k := k) (fun w hw => h w (List.mem_cons_of_mem _ hw)) e e2
theorem rowIn_get {webs : List Web} {n k : Nat} {w : Web} {x : Nat} (h : ∀ w ∈ webs, 0 < w.1) (e : webs[k]? = some w) (e2 : (rowIn webs n)[k]? = some x) : x < w.1 := by
  have hk : k < webs.length := (List.getElem?_eq_some_iff.mp e).1
  unfold rowIn at e2
  rw [List.getElem?_reverse (by rw [rowRev_len, List.length_reverse]; exact hk), rowRev_len, List.length_reverse] at e2
  refine rowRev_get (ws := webs.reverse) (k := webs.length - 1 - k) (fun w hw => h w (List.mem_reverse.mp hw)) ?_ e2
  rw [List.getElem?_reverse (by omega)]
  rw [show webs.length - 1 - (webs.length - 1 - k) = k by omega]
  exact e
theorem rowRev_snoc : ∀ (ws : List Web) (n : Nat) (w : Web), rowRev (ws ++ [w]) n = rowRev ws n ++ [numRev ws n % w.1] ∧ numRev (ws ++ [w]) n = numRev ws n / w.1
  | [], n, w => ⟨rfl, rfl⟩
  | v :: ws, n, w => by
    obtain ⟨h1, h2⟩ := rowRev_snoc ws (n / v.1) w
    exact ⟨congrArg ((n % v.1) :: ·) h1, h2⟩
def besideBy (lists : List (List (List Nat))) (row : List Nat) : List (List Nat) :=
  srt ((en row).flatMap fun p => ((lists.getD p.1 []).getD p.2 []).map fun o => row.take p.1 ++ [o] ++ row.drop (p.1 + 1))
/-! ### parts -/
abbrev Fac := List Web × List (List Nat)
noncomputable def factoringOf (webs : List Web) : Fac :=
  ((webs.map facIn).flatMap (·.1), (List.range (placesIn webs)).map fun n => ((rowIn webs n).zip (webs.map facIn)).flatMap fun p => p.2.2.getD p.1 [])
instance : DecidableEq (Tp Nat) := fun a b => match a, b with
  | ⟨x⟩, ⟨y⟩ => if h : x = y then isTrue (congrArg Tp.mk h) else isFalse fun e => h (congrArg Tp.l e)
def placesBy (f : Fac) : DT (Tp Nat) Nat := ⟨(en f.2).map fun p => ((⟨p.2⟩ : Tp Nat), p.1)⟩
theorem en_get' {α : Type} {xs : List α} {k : Nat} {x : α} (h : xs[k]? = some x) : (k, x) ∈ en xs := by
  unfold en
  refine List.mem_iff_getElem?.mpr ⟨k, ?_⟩
  rw [List.getElem?_zip_eq_some]
  exact ⟨by rw [List.getElem?_range (List.getElem?_eq_some_iff.mp h).1], h⟩
theorem placesBy_keys (f : Fac) : (placesBy f).l.map (·.1) = f.2.map Tp.mk := by
  unfold placesBy
  rw [List.map_map]
  have : (((fun x : Tp Nat × Nat => x.1) ∘ fun p : Nat × List Nat => ((⟨p.2⟩ : Tp Nat), p.1)) : Nat × List Nat → Tp Nat) = Tp.mk ∘ Prod.snd := rfl
  rw [this, ← List.map_map]
  unfold en
  rw [List.map_snd_zip (by simp)]
theorem idxOf_getL {xs : List (List Nat)} (nd : xs.Nodup) {k : Nat} {x : List Nat} (h : xs[k]? = some x) : xs.idxOf x = k := by
  obtain ⟨hk, e⟩ := List.getElem?_eq_some_iff.mp h
  have hx : x ∈ xs := List.mem_of_getElem? h
  have h1 : xs.idxOf x < xs.length := List.idxOf_lt_length_of_mem hx
  have h2 : xs[xs.idxOf x]? = some x := by
    rw [List.getElem?_eq_getElem h1]
    congr 1
    exact List.getElem_idxOf h1
  exact ((List.getElem?_inj h1 nd).mp (h2.trans h.symm))
theorem look_places {f : Fac} (nd : f.2.Nodup) {r : List Nat} (h : r ∈ f.2) : look (placesBy f).l ⟨r⟩ = some (f.2.idxOf r) := by
  obtain ⟨k, hk⟩ := List.mem_iff_getElem?.mp h
  refine Ty.look_of ?_ ?_
  · rw [placesBy_keys, List.Nodup, List.pairwise_map]
    exact nd.imp fun {a b} h e => h (congrArg Tp.l e)
  · rw [idxOf_getL nd hk]
    exact List.mem_map.mpr ⟨(k, r), en_get' hk, rfl⟩
def unlikes (row other : List Nat) : List Nat := (List.range row.length).filter fun k => !decide (row.getD k 0 = other.getD k 0)
def unlikeAt (row other : List Nat) : Nat := (unlikes row other).headD 0
def baseAt (f : Fac) (k a : Nat) : List Nat := (f.2.getD 0 []).take k ++ [a] ++ (f.2.getD 0 []).drop (k + 1)
def images (f s : Fac) (naming : List Nat) (k : Nat) : List (List Nat) := (List.range (f.1.getD k (0, [])).1).map fun a => s.2.getD (naming.getD (f.2.idxOf (baseAt f k a)) 0) []
def turnAt (f s : Fac) (naming : List Nat) (k : Nat) : Nat := unlikeAt ((images f s naming k).getD 0 []) ((images f s naming k).getD 1 [])
def partAt (f s : Fac) (naming : List Nat) (k : Nat) : List Nat := (images f s naming k).map fun im => im.getD (turnAt f s naming k) 0
def partedBy (f s : Fac) (naming : List Nat) : List Nat × List (List Nat) := ((List.range f.1.length).map (turnAt f s naming), (List.range f.1.length).map (partAt f s naming))
structure PartPre (f s : Fac) (naming : List Nat) : Prop where
  nd : f.2.Nodup
  few : f.2.length ≤ 1000
  pos : 0 < f.2.length
  facs : f.1.length ≤ 1000
  two : ∀ (k : Nat) w, f.1[k]? = some w → 2 ≤ w.1 ∧ w.1 ≤ 1000
  mem : ∀ (k : Nat) w a, f.1[k]? = some w → a < w.1 → baseAt f k a ∈ f.2
  nam : ∀ r ∈ f.2, f.2.idxOf r < naming.length ∧ naming.getD (f.2.idxOf r) 0 < s.2.length
  base : (f.2.getD 0 []).length ≤ 1000
  rlen : ∃ m, m ≤ 1000 ∧ ∀ r ∈ s.2, r.length = m
  unl : ∀ (k : Nat) w, f.1[k]? = some w → unlikes ((images f s naming k).getD 0 []) ((images f s naming k).getD 1 []) ≠ []
def imageOf (turn : List Nat) (parts : List (List Nat)) (row : List Nat) : List Nat := (en turn).foldl (fun im p => im.set p.2 ((parts.getD p.1 []).getD (row.getD p.1 0) 0)) (List.replicate turn.length 0)
def joinedBy (f s : Fac) (p : List Nat × List (List Nat)) : List Nat := f.2.map fun row => s.2.idxOf (imageOf p.1 p.2 row)
structure JoinPre (f s : Fac) (p : List Nat × List (List Nat)) : Prop where
  nd : s.2.Nodup
  few : s.2.length ≤ 1000 ∧ f.2.length ≤ 1000
  facs : p.1.length ≤ 1000
  turn : ∀ t ∈ p.1, t < p.1.length
  part : ∀ k, k < p.1.length → ∃ q, p.2[k]? = Option.some q ∧ ∀ row ∈ f.2, ∃ x, row[k]? = Option.some x ∧ x < q.length
  mem : ∀ row ∈ f.2, imageOf p.1 p.2 row ∈ s.2
theorem image_len (turn : List Nat) (parts : List (List Nat)) (row : List Nat) : ∀ (ps : List (Nat × Nat)) (l : List Nat), (ps.foldl (fun im p => im.set p.2 ((parts.getD p.1 []).getD (row.getD p.1 0) 0)) l).length = l.length
  | [], l => rfl
  | p :: ps, l => by rw [List.foldl_cons, image_len turn parts row ps, List.length_set]
/-! ### products -/
structure FitPre (webs : List Web) : Prop where
  few : webs.length ≤ 12
  ok : ∀ w ∈ webs, Valid w
  places : placesIn webs ≤ 40
  ties : tiesIn webs ≤ 120
def besideNums (webs : List Web) (n : Nat) : List Nat := (besideBy (webs.map besideAll) (rowIn webs n)).map (numberIn webs)
def madeTies (webs : List Web) (n : Nat) : List Tie := (((besideNums webs n).mergeSort fun a b => decide (a ≤ b)).filter fun o => decide (n < o)).map fun o => (n, o)
def madeOf (webs : List Web) : Web := (placesIn webs, (List.range (placesIn webs)).flatMap (madeTies webs))
/-! ### taken -/
def follow (turn : List Nat) (parts : List (List Nat)) (own later : Nat) : Nat → Nat → List Nat → Nat × List Nat
  | 0, to, found => (to, found)
  | n + 1, to, found => if later ≤ to then follow turn parts own later n (turn.getD (own + to - later) 0) (behind found (parts.getD (own + to - later) [])) else (to, found)
/-- the walk ends within n turns, and finds what it looks up -/
def FollowOk (turn : List Nat) (parts : List (List Nat)) (own later : Nat) : Nat → Nat → List Nat → Prop
  | 0, to, _ => to < later
  | n + 1, to, found => later ≤ to → (own + to - later < turn.length ∧ own + to - later < parts.length ∧ (∀ p ∈ found, p < (parts.getD (own + to - later) []).length) ∧ found.length ≤ 1000) ∧
      FollowOk turn parts own later n (turn.getD (own + to - later) 0) (behind found (parts.getD (own + to - later) []))
def followed (p : List Nat × List (List Nat)) (start own later : Nat) : Nat × List Nat := follow p.1 p.2 own later p.1.length (p.1.getD start 0) (p.2.getD start [])
theorem follow_end {turn : List Nat} {parts : List (List Nat)} {own later : Nat} : ∀ (n to : Nat) (found : List Nat), to < later → follow turn parts own later n to found = (to, found)
  | 0, _, _, _ => rfl
  | n + 1, to, found, h => if_neg (by omega)
noncomputable def endsOfParts (p : List Nat × List (List Nat)) (own later : Nat) : List (Nat × List Nat) := (List.range own).map fun k => followed p k own later
noncomputable def cancel (one other third : Web) (naming : List Nat) : List Nat :=
  joinedBy (facIn one) (facIn other) ((endsOfParts (partedBy (factoringOf [one, third]) (factoringOf [other, third]) naming) (facIn one).1.length (facIn other).1.length).map (·.1),
    (endsOfParts (partedBy (factoringOf [one, third]) (factoringOf [other, third]) naming) (facIn one).1.length (facIn other).1.length).map (·.2))
structure CancelPre (one other third : Web) (naming : List Nat) : Prop where
  ok1 : FacPre one
  ok2 : FacPre other
  ok3 : FacPre third
  c1 : Conn one
  c2 : Conn other
  c3 : Conn third
  f1 : FitPre [one, third]
  f2 : FitPre [other, third]
  v1 : Valid (madeOf [one, third])
  v2 : Valid (madeOf [other, third])
  nam : IsNaming (madeOf [one, third]) (madeOf [other, third]) naming
  part : PartPre (factoringOf [one, third]) (factoringOf [other, third]) naming
  fol : ∀ k, k < (facIn one).1.length → k < (factoringOf [one, third]).1.length ∧ FollowOk (partedBy (factoringOf [one, third]) (factoringOf [other, third]) naming).1 (partedBy (factoringOf [one, third]) (factoringOf [other, third]) naming).2 (facIn one).1.length (facIn other).1.length
    (factoringOf [one, third]).1.length ((partedBy (factoringOf [one, third]) (factoringOf [other, third]) naming).1.getD k 0) ((partedBy (factoringOf [one, third]) (factoringOf [other, third]) naming).2.getD k [])
  join : JoinPre (facIn one) (facIn other) ((endsOfParts (partedBy (factoringOf [one, third]) (factoringOf [other, third]) naming) (facIn one).1.length (facIn other).1.length).map (·.1),
    (endsOfParts (partedBy (factoringOf [one, third]) (factoringOf [other, third]) naming) (facIn one).1.length (facIn other).1.length).map (·.2))
end M

/-! What the defs compute, in plain Lean: the drawing of a case. -/
namespace M
open Ty (en T3 putL srt)
abbrev Pool := Nat × Nat
def takeS (p : Pool) (m : Nat) : Pool := if 0 < p.1 then (p.1 / m, p.2) else (p.1, (p.2 * 48271 + 11) % 2147483647)
def takeV (p : Pool) (m : Nat) : Nat := if 0 < p.1 then p.1 % m else (takeS p m).2 * (takeS p m).2 % 2147483629 / 16 % m
theorem takeV_lt (p : Pool) {m : Nat} (h : 0 < m) : takeV p m < m := by
  unfold takeV
  split <;> exact Nat.mod_lt _ h
/-- one after another, with a state -/
def mapA {σ α β : Type} (f : σ → α → β × σ) : List α → σ → List β × σ
  | [], s => ([], s)
  | x :: xs, s => ((f s x).1 :: (mapA f xs (f s x).2).1, (mapA f xs (f s x).2).2)
theorem mapA_snoc {σ α β : Type} (f : σ → α → β × σ) (x : α) : ∀ (xs : List α) (s : σ), mapA f (xs ++ [x]) s = ((mapA f xs s).1 ++ [(f (mapA f xs s).2 x).1], (f (mapA f xs s).2 x).2)
  | [], s => rfl
  | y :: xs, s => by
    show ((f s y).1 :: (mapA f (xs ++ [x]) (f s y).2).1, (mapA f (xs ++ [x]) (f s y).2).2) = _
    rw [mapA_snoc f x xs]
    rfl
theorem mapA_take {σ α β : Type} {f : σ → α → β × σ} {xs : List α} {i : Nat} {x : α} {s : σ} (h : xs[i]? = some x) : mapA f (xs.take (i + 1)) s = ((mapA f (xs.take i) s).1 ++ [(f (mapA f (xs.take i) s).2 x).1], (f (mapA f (xs.take i) s).2 x).2) := by
  rw [Ty.take_len_succ h, mapA_snoc]
theorem mapA_len {σ α β : Type} (f : σ → α → β × σ) : ∀ (xs : List α) (s : σ), (mapA f xs s).1.length = xs.length
  | [], s => rfl
  | x :: xs, s => congrArg Nat.succ (mapA_len f xs _)
/-! ### shuffled -/
def shufStep (s : Pool × List Nat) (_ : Nat) : Nat × (Pool × List Nat) := (s.2.getD (takeV s.1 s.2.length) 0, (takeS s.1 s.2.length, s.2.eraseIdx (takeV s.1 s.2.length)))
def shuf (p : Pool) (m : Nat) : List Nat × (Pool × List Nat) := mapA shufStep (List.range m) (p, List.range m)
theorem shuf_names (p : Pool) (m : Nat) : ∀ i, i ≤ m → (mapA shufStep ((List.range m).take i) (p, List.range m)).2.2.length = m - i := by
  intro i
  induction i with
  | zero => intro _; simp [mapA]
  | succ i ih =>
    intro h
    have e : (List.range m)[i]? = some i := List.getElem?_range (by omega)
    rw [mapA_take e]
    have h2 := ih (by omega)
    show (List.eraseIdx _ _).length = _
    rw [List.length_eraseIdx, if_pos, h2]
    · omega
    · rw [h2]
      exact takeV_lt _ (by omega)
/-! ### a web -/
def pairStep (p : Pool) (k : Nat) : (Nat × Nat) × Pool := ((k, takeV p k), takeS p k)
def extStep (m : Nat) (p : Pool) (_ : Nat) : (Nat × Nat) × Pool := ((takeV p m, takeV (takeS p m) m), takeS (takeS p m) m)
def tieStep (order : List Nat) (l : List (Tie × Bool)) (p : Nat × Nat) : List (Tie × Bool) :=
  if p.1 = p.2 then l else putL l (tieOf (order.getD p.1 0) (order.getD p.2 0)) true
structure WebS where
  m : Nat
  order : List Nat
  pairs : List (Nat × Nat)
  pool : Pool
def webS (p : Pool) (most more : Nat) : WebS :=
  let m := 1 + takeV p most
  let s1 := shuf (takeS p most) m
  let s2 := mapA pairStep (List.range' 1 (m - 1)) s1.2.1
  let c := takeV s2.2 (more + 1)
  let s3 := mapA (extStep m) (List.range c) (takeS s2.2 (more + 1))
  ⟨m, s1.1, s2.1 ++ s3.1, s3.2⟩
def tiesOf (s : WebS) : List (Tie × Bool) := s.pairs.foldl (tieStep s.order) []
def webV (p : Pool) (most more : Nat) : Web := ((webS p most more).m, srt ((tiesOf (webS p most more)).map (·.1)))
/-! ### rows, products -/
def rowsStep (rows : List (List Nat)) (w : Web) : List (List Nat) := rows.flatMap fun r => (List.range w.1).map fun p => r ++ [p]
def rowsOf (webs : List Web) : List (List Nat) := webs.foldl rowsStep [[]]
theorem rowsStep_len (rows : List (List Nat)) (w : Web) : (rowsStep rows w).length = rows.length * w.1 := by
  unfold rowsStep
  induction rows with
  | nil => simp
  | cons r rows ih =>
    rw [List.flatMap_cons, List.length_append, ih, List.length_map, List.length_range, List.length_cons, Nat.succ_mul]
    omega
theorem rowsFold_len : ∀ (webs : List Web) (rows : List (List Nat)), (webs.foldl rowsStep rows).length = webs.foldl (fun a w => a * w.1) rows.length
  | [], _ => rfl
  | w :: webs, rows => by rw [List.foldl_cons, rowsFold_len webs, rowsStep_len, List.foldl_cons]
theorem rowsOf_len (webs : List Web) : (rowsOf webs).length = placesIn webs := rowsFold_len webs [[]]
theorem rowsFold_mem : ∀ (webs : List Web) (rows : List (List Nat)) (n : Nat), (∀ r ∈ rows, r.length = n) → ∀ r ∈ webs.foldl rowsStep rows, r.length = n + webs.length
  | [], _, _, h, r, hr => h r hr
  | w :: webs, rows, n, h, r, hr => by
    have := rowsFold_mem webs (rowsStep rows w) (n + 1) (fun q hq => by
      unfold rowsStep at hq
      obtain ⟨r', hr', hq⟩ := List.mem_flatMap.mp hq
      obtain ⟨p, _, e⟩ := List.mem_map.mp hq
      rw [← e, List.length_append, h r' hr']
      rfl) r hr
    rw [this, List.length_cons]
    omega
theorem rowsOf_mem {webs : List Web} {r : List Nat} (h : r ∈ rowsOf webs) : r.length = webs.length := by
  have := rowsFold_mem webs [[]] 0 (by simp) r h
  omega
abbrev PrS := Nat × List Tie
def prTie (n x wt : Nat) (ties : List Tie) (t : Tie) : List Tie := if x = t.1 then ties ++ [(n, n + (t.2 - t.1) * wt)] else ties
def prWeb (webs : List Web) (n : Nat) (row : List Nat) (s : PrS) (k : Nat) : PrS :=
  (s.1 * (webs.getD k (0, [])).1, (webs.getD k (0, [])).2.foldl (prTie n (row.getD k 0) s.1) s.2)
def prRow (webs : List Web) (ties : List Tie) (p : Nat × List Nat) : List Tie := ((List.range webs.length).reverse.foldl (prWeb webs p.1 p.2) (1, ties)).2
def prodOf (webs : List Web) : Web := ((rowsOf webs).length, srt ((en (rowsOf webs)).foldl (prRow webs) []))
def renumbered (w : Web) (o : List Nat) : Web := (w.1, srt (w.2.map fun t => tieOf (o.getD t.1 0) (o.getD t.2 0)))
/-! ### bases -/
def sizes : List Nat := [1, 2, 2, 3, 4, 6, 8, 12]
def bounds : List Nat := [6, 12, 16, 18]
def baseStep (p : Pool) (_ : Nat) : Web × Pool := (webV (takeS p 8) (sizes.getD (takeV p 8) 0) 2, (webS (takeS p 8) (sizes.getD (takeV p 8) 0) 2).pool)
def pickStep (bases : List Web) (bound : Nat) (s : Pool × List Nat) (_ : Nat) : Pool × List Nat :=
  (takeS s.1 3, if placesIn ((s.2 ++ [takeV s.1 3]).map fun x => bases.getD x (0, [])) ≤ bound then s.2 ++ [takeV s.1 3] else s.2)
structure BasS where
  bases : List Web
  found : List Nat
  pool : Pool
def bas1 (p : Pool) : List Web × Pool := mapA baseStep (List.range 3) p
def bas2 (s1 : List Web × Pool) (most : Nat) : Pool × List Nat :=
  (List.range (takeV (takeS s1.2 4) (most + 1))).foldl (pickStep s1.1 (bounds.getD (takeV s1.2 4) 0)) (takeS (takeS s1.2 4) (most + 1), [])
def basS (p : Pool) (most : Nat) : BasS := ⟨(bas1 p).1, (bas2 (bas1 p) most).2, (bas2 (bas1 p) most).1⟩
/-! ### dressed, matched, led -/
abbrev Drs := T3 Nat (List Nat) Web
def drStep (bases : List Web) (p : Pool) (x : Nat) : Drs × Pool :=
  (⟨x, (shuf p (bases.getD x (0, [])).1).1, renumbered (bases.getD x (0, [])) (shuf p (bases.getD x (0, [])).1).1⟩, (shuf p (bases.getD x (0, [])).1).2.1)
def dressed (p : Pool) (bases : List Web) (some : List Nat) : List Drs × Pool := mapA (drStep bases) some p
def whichAt (ds : List Drs) (j : Nat) : Nat := ((ds[j]?).map (·.a)).getD 0
def left0 (others : List Drs) : List (List Nat) := (List.range 3).map fun x => (List.range others.length).filter fun j => decide (whichAt others j = x)
def mtStep (s : Pool × List (List Nat)) (o : Drs) : Nat × (Pool × List (List Nat)) :=
  ((s.2.getD o.a []).getD (takeV s.1 (s.2.getD o.a []).length) 0, (takeS s.1 (s.2.getD o.a []).length, s.2.set o.a ((s.2.getD o.a []).eraseIdx (takeV s.1 (s.2.getD o.a []).length))))
def matched (p : Pool) (ones others : List Drs) : List Nat × (Pool × List (List Nat)) := mapA mtStep ones (p, left0 others)
def ledStep (ones others : List Drs) (mt : List Nat) (im : List Nat) (p : Nat × Nat) : List Nat :=
  im.set (mt.getD p.1 0) ((((others[mt.getD p.1 0]?).map (·.b)).getD []).getD ((((ones[p.1]?).map (·.b)).getD []).idxOf p.2) 0)
def led (ones others : List Drs) (mt : List Nat) (row : List Nat) : List Nat := (en row).foldl (ledStep ones others mt) (List.replicate row.length 0)
end M
namespace M
theorem mapA_all {σ α β : Type} {f : σ → α → β × σ} {P : β → Prop} : ∀ {xs : List α} {s : σ}, (∀ s, ∀ x ∈ xs, P (f s x).1) → ∀ y ∈ (mapA f xs s).1, P y
  | [], _, _, y, h => by cases h
  | x :: xs, s, h, y, hy => by
    rcases List.mem_cons.mp hy with e | hy
    · rw [e]
      exact h s x (List.mem_cons_self ..)
    · exact mapA_all (fun s z hz => h s z (List.mem_cons_of_mem _ hz)) y hy
theorem webS_pairs (p : Pool) {most more : Nat} (h : 0 < most) : ∀ q ∈ (webS p most more).pairs, q.1 < (webS p most more).m ∧ q.2 < (webS p most more).m := fun q hq => by
  have hm : 0 < (webS p most more).m := by
    show 0 < 1 + _
    omega
  rcases List.mem_append.mp hq with z | z
  · refine mapA_all (f := pairStep) (P := fun q => q.1 < (webS p most more).m ∧ q.2 < (webS p most more).m) (fun s x hx => ?_) q z
    rw [List.mem_range'] at hx
    obtain ⟨i, hi, rfl⟩ := hx
    have hi : i < (webS p most more).m - 1 := hi
    have := takeV_lt s (m := 1 + 1 * i) (by omega)
    show 1 + 1 * i < _ ∧ takeV s (1 + 1 * i) < _
    omega
  · refine mapA_all (f := extStep (webS p most more).m) (P := fun q => q.1 < (webS p most more).m ∧ q.2 < (webS p most more).m) (fun s x hx => ?_) q z
    exact ⟨takeV_lt _ hm, takeV_lt _ hm⟩
theorem webS_order (p : Pool) (most more : Nat) : (webS p most more).order.length = (webS p most more).m := by
  show (mapA shufStep _ _).1.length = _
  rw [mapA_len, List.length_range]
  rfl
theorem webS_m (p : Pool) {most more : Nat} (h : 0 < most) : 0 < (webS p most more).m ∧ (webS p most more).m ≤ most := by
  have := takeV_lt p h
  show 0 < 1 + takeV p most ∧ 1 + takeV p most ≤ most
  omega
end M

/-! Bounds for the drawing of a case. -/
namespace M
open Ty (en T3 putL srt)
theorem pl_mul : ∀ (webs : List Web) (a : Nat), webs.foldl (fun a w => a * w.1) a = a * placesIn webs
  | [], a => by simp [placesIn]
  | w :: webs, a => by
    unfold placesIn
    rw [List.foldl_cons, List.foldl_cons, pl_mul webs (a * w.1), pl_mul webs (1 * w.1), Nat.one_mul, Nat.mul_assoc]
theorem placesIn_app (a b : List Web) : placesIn (a ++ b) = placesIn a * placesIn b := by
  show (a ++ b).foldl _ 1 = _
  rw [List.foldl_append, pl_mul b]
  rfl
theorem placesIn_pos : ∀ {webs : List Web}, (∀ w ∈ webs, 0 < w.1) → 0 < placesIn webs
  | [], _ => by simp [placesIn]
  | w :: webs, h => by
    have := placesIn_app [w] webs
    rw [show [w] ++ webs = w :: webs from rfl] at this
    rw [this]
    have h1 : placesIn [w] = w.1 := by simp [placesIn]
    rw [h1]
    exact Nat.mul_pos (h w (List.mem_cons_self ..)) (placesIn_pos fun v hv => h v (List.mem_cons_of_mem _ hv))
theorem placesIn_take {webs : List Web} (h : ∀ w ∈ webs, 0 < w.1) (j : Nat) : placesIn (webs.take j) ≤ placesIn webs := by
  have e := placesIn_app (webs.take j) (webs.drop j)
  rw [List.take_append_drop] at e
  rw [e]
  exact Nat.le_mul_of_pos_right _ (placesIn_pos fun w hw => h w (List.mem_of_mem_drop hw))
theorem prTie_len (n x wt : Nat) : ∀ (ts ties : List Tie), (ts.foldl (prTie n x wt) ties).length ≤ ties.length + ts.length
  | [], ties => by simp
  | t :: ts, ties => by
    have := prTie_len n x wt ts (prTie n x wt ties t)
    have h2 : (prTie n x wt ties t).length ≤ ties.length + 1 := by
      unfold prTie
      split
      · simp
      · omega
    rw [List.foldl_cons, List.length_cons]
    omega
theorem prWeb_len {webs : List Web} (h : ∀ w ∈ webs, w.2.length ≤ 120) (n : Nat) (row : List Nat) : ∀ (ks : List Nat) (s : PrS), (ks.foldl (prWeb webs n row) s).2.length ≤ s.2.length + 120 * ks.length
  | [], s => by simp
  | k :: ks, s => by
    have h1 := prWeb_len h n row ks (prWeb webs n row s k)
    have h2 : (prWeb webs n row s k).2.length ≤ s.2.length + 120 := by
      have := prTie_len n (row.getD k 0) s.1 (webs.getD k (0, [])).2 s.2
      have h3 : (webs.getD k (0, [])).2.length ≤ 120 := by
        by_cases hk : k < webs.length
        · rw [List.getD_eq_getElem?_getD, List.getElem?_eq_getElem hk]
          exact h _ (List.getElem_mem hk)
        · rw [List.getD_eq_getElem?_getD, List.getElem?_eq_none (by omega)]
          simp
      have e : (prWeb webs n row s k).2 = (webs.getD k (0, [])).2.foldl (prTie n (row.getD k 0) s.1) s.2 := rfl
      rw [e]
      omega
    rw [List.foldl_cons, List.length_cons]
    omega
theorem prRow_len {webs : List Web} (h : ∀ w ∈ webs, w.2.length ≤ 120) (hl : webs.length ≤ 12) : ∀ (ps : List (Nat × List Nat)) (ties : List Tie), (ps.foldl (prRow webs) ties).length ≤ ties.length + 1440 * ps.length
  | [], ties => by simp
  | p :: ps, ties => by
    have h1 := prRow_len h hl ps (prRow webs ties p)
    have h2 : (prRow webs ties p).length ≤ ties.length + 1440 := by
      have := prWeb_len h p.1 p.2 (List.range webs.length).reverse (1, ties)
      rw [List.length_reverse, List.length_range] at this
      have e : prRow webs ties p = ((List.range webs.length).reverse.foldl (prWeb webs p.1 p.2) (1, ties)).2 := rfl
      rw [e]
      simp only at this
      omega
    rw [List.foldl_cons, List.length_cons]
    omega
/-- what bases are like -/
structure BasOk (bases : List Web) : Prop where
  len : bases.length = 3
  ok : ∀ w ∈ bases, 0 < w.1 ∧ w.1 ≤ 12 ∧ w.2.length ≤ 120 ∧ ∀ t ∈ w.2, t.1 < t.2 ∧ t.2 < w.1
theorem pick_ok {bases : List Web} {bound : Nat} : ∀ (is : List Nat) (s : Pool × List Nat), (∀ x ∈ s.2, x < 3) → (∀ x ∈ (is.foldl (pickStep bases bound) s).2, x < 3) ∧ (is.foldl (pickStep bases bound) s).2.length ≤ s.2.length + is.length
  | [], s, h => ⟨h, by simp⟩
  | i :: is, s, h => by
    have h2 : (∀ x ∈ (pickStep bases bound s i).2, x < 3) ∧ (pickStep bases bound s i).2.length ≤ s.2.length + 1 := by
      unfold pickStep
      simp only
      split
      · refine ⟨fun x hx => ?_, by simp⟩
        rcases List.mem_append.mp hx with z | z
        · exact h x z
        · have e : x = takeV s.1 3 := by simpa using z
          rw [e]
          exact takeV_lt _ (by decide)
      · exact ⟨h, by omega⟩
    have := pick_ok (bases := bases) (bound := bound) is (pickStep bases bound s i) h2.1
    rw [List.foldl_cons, List.length_cons]
    exact ⟨this.1, by omega⟩
structure MtPre (p : Pool) (ones others : List Drs) : Prop where
  l1 : ones.length ≤ 100
  l2 : others.length ≤ 100
  lt : ∀ o ∈ ones, o.a < 3
  ne : ∀ (i : Nat) o, ones[i]? = some o → 0 < ((mapA mtStep (ones.take i) (p, left0 others)).2.2.getD o.a []).length
structure LedPre (ones others : List Drs) (mt row : List Nat) : Prop where
  few : row.length ≤ 100
  mt : ∀ (k x : Nat), row[k]? = some x → ∃ j o q, mt[k]? = some j ∧ j < row.length ∧ others[j]? = some o ∧ ones[k]? = some q ∧ x ∈ q.b ∧ q.b.idxOf x < o.b.length
theorem led_len (ones others : List Drs) (mt : List Nat) : ∀ (ps : List (Nat × Nat)) (l : List Nat), (ps.foldl (ledStep ones others mt) l).length = l.length
  | [], l => rfl
  | p :: ps, l => by
    rw [List.foldl_cons, led_len ones others mt ps]
    exact List.length_set
theorem mt_len (others : List Drs) : ∀ (os : List Drs) (s : Pool × List (List Nat)), (mapA mtStep os s).2.2.length = s.2.length
  | [], s => rfl
  | o :: os, s => by
    show (mapA mtStep os _).2.2.length = _
    rw [mt_len others os]
    exact List.length_set
theorem mt_le {n : Nat} : ∀ (os : List Drs) (s : Pool × List (List Nat)), (∀ l ∈ s.2, l.length ≤ n) → ∀ l ∈ (mapA mtStep os s).2.2, l.length ≤ n
  | [], s, h => h
  | o :: os, s, h => mt_le os _ fun l hl => by
    rcases List.mem_or_eq_of_mem_set hl with z | z
    · exact h l z
    · rw [z]
      refine Nat.le_trans (List.length_eraseIdx_le _ _) ?_
      by_cases ho : o.a < s.2.length
      · rw [List.getD_eq_getElem?_getD, List.getElem?_eq_getElem ho]
        exact h _ (List.getElem_mem ho)
      · rw [List.getD_eq_getElem?_getD, List.getElem?_eq_none (by omega)]
        simp
theorem left0_le (others : List Drs) : ∀ l ∈ left0 others, l.length ≤ others.length := fun l hl => by
  unfold left0 at hl
  obtain ⟨x, _, e⟩ := List.mem_map.mp hl
  rw [← e]
  have := List.length_filter_le (fun j => decide (whichAt others j = x)) (List.range others.length)
  rwa [List.length_range] at this
end M
namespace M
theorem sizes_ok : ∀ v, v < 8 → 0 < sizes.getD v 0 ∧ sizes.getD v 0 ≤ 12 := by decide
theorem bases_small (p : Pool) : ∀ is : List Nat, ∀ w ∈ (mapA baseStep is p).1, 0 < w.1 ∧ w.1 ≤ 12 := fun is => mapA_all (P := fun w : Web => 0 < w.1 ∧ w.1 ≤ 12) fun s x _ => by
  have h := sizes_ok _ (takeV_lt s (m := 8) (by decide))
  have := webS_m (takeS s 8) (more := 2) h.1
  exact ⟨this.1, Nat.le_trans this.2 h.2⟩
end M

/-! The drawing of a case, as a whole. -/
namespace M
open Ty (en T3 putL srt)
structure CaseS where
  bases : List Web
  some : List Nat
  p0 : Pool
  cut : Nat
  p1 : Pool
  ones : List Drs
  p2 : Pool
  order : List Nat
  p3 : Pool
  others : List Drs
  p4 : Pool
  thirds : List Drs
  p5 : Pool
  mt : List Nat
  p6 : Pool
structure IsCase (w : Pool) (c : CaseS) : Prop where
  f1 : c.bases = (basS w 5).bases
  f2 : c.some = (basS w 5).found
  f3 : c.p0 = (basS w 5).pool
  f4 : c.cut = takeV c.p0 (c.some.length + 1)
  f5 : c.p1 = takeS c.p0 (c.some.length + 1)
  f6 : c.ones = (dressed c.p1 c.bases (c.some.take c.cut)).1
  f7 : c.p2 = (dressed c.p1 c.bases (c.some.take c.cut)).2
  f8 : c.order = (shuf c.p2 c.cut).1
  f9 : c.p3 = (shuf c.p2 c.cut).2.1
  f10 : c.others = (dressed c.p3 c.bases (c.order.map fun k => c.some.getD k 0)).1
  f11 : c.p4 = (dressed c.p3 c.bases (c.order.map fun k => c.some.getD k 0)).2
  f12 : c.thirds = (dressed c.p4 c.bases (c.some.drop c.cut)).1
  f13 : c.p5 = (dressed c.p4 c.bases (c.some.drop c.cut)).2
  f14 : c.mt = (matched c.p5 (c.ones ++ c.thirds) (c.others ++ c.thirds)).1
  f15 : c.p6 = (matched c.p5 (c.ones ++ c.thirds) (c.others ++ c.thirds)).2.1
theorem isCase (w : Pool) : ∃ c, IsCase w c := by
  generalize e1 : (basS w 5).bases = bases
  generalize e2 : (basS w 5).found = some_
  generalize e3 : (basS w 5).pool = p0
  generalize e4 : takeV p0 (some_.length + 1) = cut
  generalize e5 : takeS p0 (some_.length + 1) = p1
  generalize e6 : dressed p1 bases (some_.take cut) = d1
  generalize e7 : shuf d1.2 cut = o
  generalize e8 : dressed o.2.1 bases (o.1.map fun k => some_.getD k 0) = d2
  generalize e9 : dressed d2.2 bases (some_.drop cut) = d3
  generalize e10 : matched d3.2 (d1.1 ++ d3.1) (d2.1 ++ d3.1) = m
  refine ⟨⟨bases, some_, p0, cut, p1, d1.1, d1.2, o.1, o.2.1, d2.1, d2.2, d3.1, d3.2, m.1, m.2.1⟩, e1.symm, e2.symm, e3.symm, e4.symm, e5.symm, ?_, ?_, ?_, ?_, ?_, ?_, ?_, ?_, ?_, ?_⟩
  · rw [← e6]
  · rw [← e6]
  · rw [← e7]
  · rw [← e7]
  · rw [← e8]
  · rw [← e8]
  · rw [← e9]
  · rw [← e9]
  · rw [← e10]
  · rw [← e10]
/-- the webs of the dressed, one other third -/
def CaseS.w1 (c : CaseS) : List Web := c.ones.map (·.c)
def CaseS.w2 (c : CaseS) : List Web := c.others.map (·.c)
def CaseS.w3 (c : CaseS) : List Web := c.thirds.map (·.c)
def CaseS.made (c : CaseS) : List Web := [prodOf c.w1, prodOf c.w2, prodOf c.w3]
def numStep (p : Pool) (w : Web) : List Nat × Pool := ((shuf p w.1).1, (shuf p w.1).2.1)
def CaseS.nums (c : CaseS) : List (List Nat) × Pool := mapA numStep c.made c.p6
def CaseS.num (c : CaseS) (k : Nat) : List Nat := c.nums.1.getD k []
def CaseS.img (c : CaseS) (row : List Nat) : List Nat := led (c.ones ++ c.thirds) (c.others ++ c.thirds) c.mt row
def CaseS.src (c : CaseS) (row : List Nat) : Nat := (c.num 0).getD (numberIn c.w1 (row.take c.cut)) 0 * (prodOf c.w3).1 + (c.num 2).getD (numberIn c.w3 (row.drop c.cut)) 0
def CaseS.dst (c : CaseS) (row : List Nat) : Nat := (c.num 1).getD (numberIn c.w2 ((c.img row).take c.cut)) 0 * (prodOf c.w3).1 + (c.num 2).getD (numberIn c.w3 ((c.img row).drop c.cut)) 0
def CaseS.nstep (c : CaseS) (l : List Nat) (row : List Nat) : List Nat := l.set (c.src row) (c.dst row)
def CaseS.naming (c : CaseS) : List Nat := (rowsOf (c.w1 ++ c.w3)).foldl c.nstep (List.replicate ((prodOf c.w1).1 * (prodOf c.w3).1) 0)
def CaseS.web (c : CaseS) (k : Nat) : Web := renumbered (c.made.getD k (0, [])) (c.num k)
/-- what the drawing asks, beyond what is plain -/
structure CaseOk (c : CaseS) : Prop where
  bas : BasOk c.bases
  l1 : c.ones.length = c.cut
  l2 : c.others.length = c.cut
  l3 : c.thirds.length ≤ 10
  cut : c.cut ≤ 10
  few : c.some.length ≤ 10
  lt3 : ∀ x ∈ c.some, x < 3
  ord : c.order.length ≤ 10 ∧ ∀ k ∈ c.order, k < c.some.length
  mt : MtPre c.p5 (c.ones ++ c.thirds) (c.others ++ c.thirds)
  w1 : c.w1.length ≤ 12 ∧ (∀ w ∈ c.w1, 0 < w.1 ∧ w.1 ≤ 1000) ∧ placesIn c.w1 ≤ 100 ∧ ∀ w ∈ c.w1, w.2.length ≤ 120 ∧ ∀ t ∈ w.2, t.1 < t.2 ∧ t.2 < w.1
  w2 : c.w2.length ≤ 12 ∧ (∀ w ∈ c.w2, 0 < w.1 ∧ w.1 ≤ 1000) ∧ placesIn c.w2 ≤ 100 ∧ ∀ w ∈ c.w2, w.2.length ≤ 120 ∧ ∀ t ∈ w.2, t.1 < t.2 ∧ t.2 < w.1
  w3 : c.w3.length ≤ 12 ∧ (∀ w ∈ c.w3, 0 < w.1 ∧ w.1 ≤ 1000) ∧ placesIn c.w3 ≤ 100 ∧ ∀ w ∈ c.w3, w.2.length ≤ 120 ∧ ∀ t ∈ w.2, t.1 < t.2 ∧ t.2 < w.1
  w13 : (c.w1 ++ c.w3).length ≤ 12 ∧ placesIn (c.w1 ++ c.w3) ≤ 1000
  led : ∀ row ∈ rowsOf (c.w1 ++ c.w3), LedPre (c.ones ++ c.thirds) (c.others ++ c.thirds) c.mt row
  n0 : ∀ row ∈ rowsOf (c.w1 ++ c.w3), numberIn c.w1 (row.take c.cut) < (prodOf c.w1).1 ∧ numberIn c.w3 (row.drop c.cut) < (prodOf c.w3).1 ∧ numberIn c.w2 ((c.img row).take c.cut) < (prodOf c.w2).1 ∧ numberIn c.w3 ((c.img row).drop c.cut) < (prodOf c.w3).1
  src : ∀ row ∈ rowsOf (c.w1 ++ c.w3), c.src row < (prodOf c.w1).1 * (prodOf c.w3).1
  ren : ∀ k, k < 3 → (c.made.getD k (0, [])).2.length ≤ 100000 ∧ ∀ t ∈ (c.made.getD k (0, [])).2, t.1 < (c.made.getD k (0, [])).1 ∧ t.2 < (c.made.getD k (0, [])).1
theorem shuf_len (p : Pool) (m : Nat) : (shuf p m).1.length = m := by
  show (mapA shufStep _ _).1.length = _
  rw [mapA_len, List.length_range]
theorem prodOf_fst (ws : List Web) : (prodOf ws).1 = placesIn ws := rowsOf_len ws
theorem nums_len (c : CaseS) : ∀ k, k < 3 → c.nums.1[k]? = some (c.num k) ∧ (c.num k).length = (c.made.getD k (0, [])).1 := fun k hk => by
  have e : c.nums.1.length = 3 := by
    unfold CaseS.nums
    rw [mapA_len]
    rfl
  have e1 : c.nums.1[k]? = some (c.num k) := by
    unfold CaseS.num
    rw [List.getD_eq_getElem?_getD, List.getElem?_eq_getElem (by omega)]
    rfl
  refine ⟨e1, ?_⟩
  have g : ∀ (ws : List Web) (p : Pool) (k : Nat) (l : List Nat), (mapA numStep ws p).1[k]? = some l → l.length = (ws.getD k (0, [])).1 := by
    intro ws
    induction ws with
    | nil => intro p k l h; simp [mapA] at h
    | cons w ws ih =>
      intro p k l h
      cases k with
      | zero =>
        have e2 : (shuf p w.1).1 = l := Option.some.inj h
        rw [← e2, shuf_len]
        rfl
      | succ k => exact ih _ k l h
  exact g c.made c.p6 k _ e1
end M

/-! Graphs with a distance; labels of edges that are closed under far links and corner links. -/
namespace A
structure Dist (n : Nat) (adj : Nat → Nat → Prop) (d : Nat → Nat → Nat) : Prop where
  lt : ∀ {u v}, adj u v → u < n
  asym : ∀ {u v}, adj u v → adj v u
  irr : ∀ {u}, ¬ adj u u
  zero : ∀ {u}, u < n → d u u = 0
  sym : ∀ {u v}, u < n → v < n → d u v = d v u
  lip : ∀ {u v x}, adj u v → x < n → d u x ≤ d v x + 1
  desc : ∀ {u v}, u < n → v < n → u ≠ v → ∃ w, adj u w ∧ d u v = d w v + 1
section
variable {n : Nat} {adj : Nat → Nat → Prop} {d : Nat → Nat → Nat} {α : Type}
theorem Dist.lt2 (D : Dist n adj d) {u v : Nat} (h : adj u v) : v < n := D.lt (D.asym h)
theorem Dist.eq0 (D : Dist n adj d) {u v : Nat} (hu : u < n) (hv : v < n) (h : d u v = 0) : u = v := by
  by_cases e : u = v
  · exact e
  · obtain ⟨w, _, h2⟩ := D.desc hu hv e
    omega
theorem Dist.one (D : Dist n adj d) {u v : Nat} (h : adj u v) : d u v = 1 := by
  have hv := D.lt2 h
  have h1 := D.lip h hv
  rw [D.zero hv] at h1
  have h2 : d u v ≠ 0 := fun z => by
    have e := D.eq0 (D.lt h) hv z
    subst e
    exact D.irr h
  omega
theorem Dist.of_one (D : Dist n adj d) {u v : Nat} (hu : u < n) (hv : v < n) (h : d u v = 1) : adj u v := by
  have ne : u ≠ v := fun z => by
    subst z
    rw [D.zero hu] at h
    cases h
  obtain ⟨w, h1, h2⟩ := D.desc hu hv ne
  have : d w v = 0 := by omega
  rw [← D.eq0 (D.lt2 h1) hv this]
  exact h1
theorem Dist.ge1 (D : Dist n adj d) {u v : Nat} (hu : u < n) (hv : v < n) (h : u ≠ v) : 1 ≤ d u v := by
  have : d u v ≠ 0 := fun z => h (D.eq0 hu hv z)
  omega
/-- the distance is told by the graph -/
theorem Dist.uniq {d' : Nat → Nat → Nat} (D : Dist n adj d) (D' : Dist n adj d') : ∀ {u v}, u < n → v < n → d u v = d' u v := by
  have g : ∀ {d d' : Nat → Nat → Nat}, Dist n adj d → Dist n adj d' → ∀ (k : Nat) {u v}, u < n → v < n → d u v = k → d' u v ≤ k := by
    intro d d' D D' k
    induction k with
    | zero =>
      intro u v hu hv h
      rw [D.eq0 hu hv h, D'.zero hv]
      exact Nat.le_refl _
    | succ k ih =>
      intro u v hu hv h
      have ne : u ≠ v := fun z => by
        subst z
        rw [D.zero hu] at h
        cases h
      obtain ⟨w, h1, h2⟩ := D.desc hu hv ne
      have h3 := ih (D.lt2 h1) hv (by omega)
      have h4 := D'.lip h1 hv
      omega
  intro u v hu hv
  have h1 := g D D' _ hu hv rfl
  have h2 := g D' D _ hu hv rfl
  omega
/-- labels of edges, closed under the two kinds of links -/
structure Clo (n : Nat) (adj : Nat → Nat → Prop) (d : Nat → Nat → Nat) (lab : Nat → Nat → α) : Prop where
  sym : ∀ {u v}, adj u v → lab u v = lab v u
  theta : ∀ {u v x y}, adj u v → adj x y → d u x + d v y ≠ d u y + d v x → lab u v = lab x y
  tau : ∀ {x u v}, adj x u → adj x v → u ≠ v → lab x u ≠ lab x v → ∃ w, w ≠ x ∧ adj w u ∧ adj w v
/-- no closed labelling tells more edges apart -/
def Fine (n : Nat) (adj : Nat → Nat → Prop) (d : Nat → Nat → Nat) (lab : Nat → Nat → Nat) : Prop :=
  ∀ mu : Nat → Nat → Nat, Clo n adj d mu → ∀ {u v x y}, adj u v → adj x y → lab u v = lab x y → mu u v = mu x y
variable {lab : Nat → Nat → α} {i : α}
theorem Clo.square (D : Dist n adj d) (C : Clo n adj d lab) {x u v : Nat} (hu : adj x u) (hv : adj x v) (h : lab x u ≠ lab x v) : ∃ w, adj u w ∧ adj v w ∧ lab u w = lab x v ∧ lab v w = lab x u := by
  have ne : u ≠ v := fun z => h (by rw [z])
  obtain ⟨w, hw, h1, h2⟩ := C.tau hu hv ne h
  have xn := D.lt hu
  have un := D.lt2 hu
  have vn := D.lt2 hv
  have wn := D.lt h1
  have e1 := D.one hu
  have e2 := D.one hv
  have e3 := D.one (D.asym h1)
  have e4 := D.one (D.asym h2)
  have e5 := D.ge1 xn wn (Ne.symm hw)
  have e6 : 2 ≤ d u v := by
    have a1 := D.ge1 un vn ne
    have a2 : d u v ≠ 1 := fun z => by
      refine h ?_
      have b1 := C.theta hu (D.asym hv)
      have e7 := D.sym vn xn
      rw [D.zero xn, z, D.sym un xn] at b1
      have b2 := b1 (by omega)
      rw [b2, ← C.sym hv]
    omega
  have f1 := C.theta hu (D.asym h2) (by rw [e2, e3]; omega)
  have f2 := C.theta hv (D.asym h1) (by rw [e1, e4, D.sym vn un]; omega)
  exact ⟨w, D.asym h1, D.asym h2, f2.symm, f1.symm⟩
/-- a walk along edges whose labels are such -/
inductive Via (adj : Nat → Nat → Prop) (lab : Nat → Nat → α) (P : α → Prop) (u : Nat) : Nat → Prop
  | nil : Via adj lab P u u
  | step {v w : Nat} : Via adj lab P u v → adj v w → P (lab v w) → Via adj lab P u w
theorem Via.lt {P : α → Prop} (D : Dist n adj d) {u v : Nat} (h : Via adj lab P u v) (hu : u < n) : v < n := by
  cases h with
  | nil => exact hu
  | step _ h _ => exact D.lt2 h
theorem Via.trans {P : α → Prop} {u v w : Nat} (a : Via adj lab P u v) (b : Via adj lab P v w) : Via adj lab P u w := by
  induction b with
  | nil => exact a
  | step _ h p ih => exact .step ih h p
theorem Via.one {P : α → Prop} {u v : Nat} (h : adj u v) (p : P (lab u v)) : Via adj lab P u v := .step .nil h p
theorem Via.back {P : α → Prop} (D : Dist n adj d) (C : Clo n adj d lab) {u v : Nat} (a : Via adj lab P u v) : Via adj lab P v u := by
  induction a with
  | nil => exact .nil
  | step _ h p ih => exact (Via.one (D.asym h) (by rw [← C.sym h]; exact p)).trans ih
theorem Via.mono {P Q : α → Prop} (hpq : ∀ i, P i → Q i) {u v : Nat} (a : Via adj lab P u v) : Via adj lab Q u v := by
  induction a with
  | nil => exact .nil
  | step _ h p ih => exact .step ih h (hpq _ p)
theorem Clo.keep (D : Dist n adj d) (C : Clo n adj d lab) {x y u v : Nat} (hxy : adj x y) (hi : lab x y = i) (hu : u < n) (h : Via adj lab (· ≠ i) u v) : d x u + d y v = d x v + d y u := by
  induction h with
  | nil => omega
  | @step a b w hab p ih =>
    have t : d x a + d y b = d x b + d y a := by
      by_cases e : d x a + d y b = d x b + d y a
      · exact e
      · exact absurd ((C.theta hxy hab e).symm.trans hi) p
    omega
theorem Clo.meet (D : Dist n adj d) (C : Clo n adj d lab) {u v : Nat} (hu : u < n) (h1 : Via adj lab (· ≠ i) u v) (h2 : Via adj lab (· = i) u v) : u = v := by
  have hv := h1.lt D hu
  have g : ∀ {z}, Via adj lab (· = i) u z → d z v = d u v + d z u := by
    intro z h
    induction h with
    | nil => rw [D.zero hu]; omega
    | step w hab p ih =>
      have := C.keep D hab p hu h1
      omega
  have := g h2
  rw [D.zero hv] at this
  exact D.eq0 hu hv (by omega)
theorem Clo.same (D : Dist n adj d) (C : Clo n adj d lab) {u v : Nat} (hu : u < n) (hv : v < n) (h : ∀ i, Via adj lab (· ≠ i) u v) : u = v := by
  by_cases e : u = v
  · exact e
  · obtain ⟨w, h1, h2⟩ := D.desc hu hv e
    have := C.keep D h1 rfl hu (h (lab u w))
    rw [D.zero hu] at this
    omega
theorem Clo.carry (D : Dist n adj d) (C : Clo n adj d lab) {x y x' : Nat} (hxy : adj x y) (hi : lab x y = i) (h : Via adj lab (· ≠ i) x x') : ∃ y', adj x' y' ∧ lab x' y' = i ∧ Via adj lab (· ≠ i) y y' := by
  induction h with
  | nil => exact ⟨y, hxy, hi, .nil⟩
  | @step a b w hab p ih =>
    obtain ⟨ya, h1, h2, h3⟩ := ih
    obtain ⟨z, q1, q2, q3, q4⟩ := C.square D h1 hab (by rw [h2]; exact Ne.symm p)
    exact ⟨z, q2, q4.trans h2, h3.step q1 (by rw [q3]; exact p)⟩
theorem Clo.split (D : Dist n adj d) (C : Clo n adj d lab) (i : α) {x y : Nat} (h : Via adj lab (fun _ => True) x y) : ∃ z, Via adj lab (· = i) x z ∧ Via adj lab (· ≠ i) z y := by
  induction h with
  | nil => exact ⟨x, .nil, .nil⟩
  | @step a b w hab p ih =>
    obtain ⟨z, h1, h2⟩ := ih
    by_cases e : lab a b = i
    · obtain ⟨z', q1, q2, q3⟩ := C.carry D hab e (h2.back D C)
      exact ⟨z', h1.step q1 q2, q3.back D C⟩
    · exact ⟨z, h1, h2.step hab e⟩
/-- within a layer all edges have its label -/
theorem Clo.inner (D : Dist n adj d) (C : Clo n adj d lab) {u v : Nat} (h : adj u v) (h2 : Via adj lab (· = i) u v) : lab u v = i := by
  by_cases e : lab u v = i
  · exact e
  · have := C.meet D (D.lt h) (Via.one h e) h2
    subst this
    exact absurd h D.irr
end
end A

/-! The classes: by heads; closed and minimal. -/
namespace M
open Ty (en T3 addL look srt)
/-! ### heads -/
theorem hd_keep (l : Link) {hd : Tie → Tie} {t o : Tie} (h : hd t = hd o) : hdStep hd l t = hdStep hd l o := by
  unfold hdStep
  rw [h]
theorem hd_link (l : Link) (hd : Tie → Tie) : hdStep hd l l.b = hdStep hd l l.c := by
  unfold hdStep
  rw [if_pos rfl]
  split <;> rfl
theorem hd_fold_keep : ∀ (ls : List Link) {hd : Tie → Tie} {t o : Tie}, hd t = hd o → ls.foldl hdStep hd t = ls.foldl hdStep hd o
  | [], _, _, _, h => h
  | l :: ls, hd, t, o, h => hd_fold_keep ls (hd_keep l h)
theorem hd_fold_link : ∀ (ls : List Link) (hd : Tie → Tie) (l : Link), l ∈ ls → ls.foldl hdStep hd l.b = ls.foldl hdStep hd l.c
  | k :: ls, hd, l, h => by
    rcases List.mem_cons.mp h with e | h
    · subst e
      exact hd_fold_keep ls (hd_link l hd)
    · exact hd_fold_link ls _ l h
theorem heads_link {ls : List Link} {l : Link} (h : l ∈ ls) : headsOf ls l.b = headsOf ls l.c := hd_fold_link ls id l h
theorem heads_app (a b : List Link) {t o : Tie} (h : headsOf a t = headsOf a o) : headsOf (a ++ b) t = headsOf (a ++ b) o := by
  unfold headsOf at h ⊢
  rw [List.foldl_append]
  exact hd_fold_keep b h
theorem hd_fold_min {β : Type} (mu : Tie → β) : ∀ (ls : List Link) (hd : Tie → Tie), (∀ l ∈ ls, mu l.b = mu l.c) → (∀ t o, hd t = hd o → mu t = mu o) → ∀ t o, ls.foldl hdStep hd t = ls.foldl hdStep hd o → mu t = mu o
  | [], _, _, h => h
  | l :: ls, hd, hl, h => hd_fold_min mu ls (hdStep hd l) (fun k hk => hl k (List.mem_cons_of_mem _ hk)) fun t o e => by
    have h1 := hl l (List.mem_cons_self ..)
    unfold hdStep at e
    by_cases c1 : hd t = hd l.c
    · rw [if_pos c1] at e
      by_cases c2 : hd o = hd l.c
      · exact h t o (c1.trans c2.symm)
      · rw [if_neg c2] at e
        exact (h _ _ c1).trans (h1.symm.trans (h _ _ e))
    · rw [if_neg c1] at e
      by_cases c2 : hd o = hd l.c
      · rw [if_pos c2] at e
        exact (h _ _ e).trans (h1.trans (h _ _ c2).symm)
      · rw [if_neg c2] at e
        exact h t o e
theorem heads_min {β : Type} (mu : Tie → β) {ls : List Link} (h : ∀ l ∈ ls, mu l.b = mu l.c) {t o : Tie} (e : headsOf ls t = headsOf ls o) : mu t = mu o := hd_fold_min mu ls id h (fun t o e => by rw [show t = o from e]) t o e
/-! ### groups -/
theorem groups_look (hd : Tie → Tie) : ∀ (ties : List Tie) (k : Tie), look (groups ties hd) k = if (ties.filter fun t => decide (hd t = k)) = [] then none else some (ties.filter fun t => decide (hd t = k)) := by
  have g : ∀ (ties : List Tie) (l : List (Tie × List Tie)) (pre : List Tie), (∀ k, look l k = if (pre.filter fun t => decide (hd t = k)) = [] then none else some (pre.filter fun t => decide (hd t = k))) →
      ∀ k, look (ties.foldl (fun l t => addL l (hd t) t) l) k = if ((pre ++ ties).filter fun t => decide (hd t = k)) = [] then none else some ((pre ++ ties).filter fun t => decide (hd t = k)) := by
    intro ties
    induction ties with
    | nil => intro l pre h k; rw [List.append_nil]; exact h k
    | cons t ties ih =>
      intro l pre h k
      rw [List.foldl_cons]
      have e : pre ++ t :: ties = (pre ++ [t]) ++ ties := by simp
      rw [e]
      refine ih _ _ (fun k => ?_) k
      have hk := h (hd t)
      have add : look (addL l (hd t) t) k = if k = hd t then some ((pre.filter fun u => decide (hd u = hd t)) ++ [t]) else look l k := by
        unfold addL
        by_cases c : (pre.filter fun u => decide (hd u = hd t)) = []
        · rw [if_pos c] at hk
          rw [hk, if_neg (fun z => nomatch z), c]
          have ap : ∀ l : List (Tie × List Tie), look (l ++ [(hd t, [t])]) k = (look l k).or (if hd t = k then some [t] else none) := fun l => by
            induction l with
            | nil =>
              rw [List.nil_append, Ty.look_cons]
              rfl
            | cons p l ih =>
              rw [List.cons_append, Ty.look_cons, Ty.look_cons, ih]
              split <;> rfl
          rw [ap]
          by_cases c2 : k = hd t
          · subst c2
            rw [hk, if_pos rfl, if_pos rfl]
            rfl
          · rw [if_neg c2, if_neg (Ne.symm c2)]
            cases look l k <;> rfl
        · rw [if_neg c] at hk
          rw [hk, if_pos (show (some _).isSome = true from rfl)]
          have mp : ∀ l : List (Tie × List Tie), look (l.map fun p => if p.1 = hd t then (p.1, p.2 ++ [t]) else p) k = if k = hd t then (look l k).map (· ++ [t]) else look l k := fun l => by
            induction l with
            | nil => simp [look]
            | cons p l ih =>
              rw [List.map_cons, Ty.look_cons, Ty.look_cons, ih]
              by_cases c1 : p.1 = hd t
              · by_cases c2 : k = hd t
                · simp [c1, c2]
                · simp [c1, c2, Ne.symm c2]
              · by_cases c2 : k = hd t
                · simp [c1, c2]
                · simp [c1, c2]
          rw [mp]
          by_cases c2 : k = hd t
          · subst c2
            rw [if_pos rfl, if_pos rfl, hk]
            rfl
          · rw [if_neg c2, if_neg c2]
      rw [add, List.filter_append]
      by_cases c2 : k = hd t
      · subst c2
        have e2 : [t].filter (fun u => decide (hd u = hd t)) = [t] := by simp
        rw [if_pos rfl, e2, if_neg (by simp)]
      · have e2 : [t].filter (fun u => decide (hd u = k)) = [] := by simp [Ne.symm c2]
        rw [if_neg c2, e2, List.append_nil]
        exact h k
  intro ties k
  have := g ties [] [] (fun k => by simp [look]) k
  rw [List.nil_append] at this
  exact this
/-- the ties whose head is k -/
def cls (ties : List Tie) (hd : Tie → Tie) (k : Tie) : List Tie := ties.filter fun t => decide (hd t = k)
theorem hung_mem {ties : List Tie} {ls : List Link} {c : List Tie} : c ∈ hungIn ties ls ↔ ∃ t ∈ ties, c = cls ties (headsOf ls) (headsOf ls t) := by
  unfold hungIn
  rw [(Ty.perm_srt _).mem_iff, List.mem_map]
  constructor
  · intro ⟨p, hp, e⟩
    have h1 := Ty.look_of (groups_ok ties (headsOf ls)).1 hp
    rw [groups_look] at h1
    by_cases c1 : (ties.filter fun t => decide (headsOf ls t = p.1)) = []
    · rw [if_pos c1] at h1
      cases h1
    · rw [if_neg c1] at h1
      obtain ⟨t, ht⟩ := List.exists_mem_of_ne_nil _ c1
      rw [List.mem_filter, decide_eq_true_eq] at ht
      refine ⟨t, ht.1, ?_⟩
      rw [← e, ← Option.some.inj h1, ht.2]
      rfl
  · intro ⟨t, ht, e⟩
    have h1 := groups_look (headsOf ls) ties (headsOf ls t)
    rw [if_neg] at h1
    · exact ⟨_, Ty.look_mem h1, e.symm⟩
    · intro z
      have : t ∈ ties.filter fun u => decide (headsOf ls u = headsOf ls t) := by
        rw [List.mem_filter]
        exact ⟨ht, by simp⟩
      rw [z] at this
      cases this
theorem hung_nodup {ties : List Tie} {ls : List Link} : (hungIn ties ls).Nodup := by
  unfold hungIn
  rw [(Ty.perm_srt _).nodup_iff]
  have g := groups_ok ties (headsOf ls)
  rw [List.Nodup, List.pairwise_map]
  have h2 : (groups ties (headsOf ls)).Pairwise fun a b => a.1 ≠ b.1 := by
    have := g.1
    rw [List.Nodup, List.pairwise_map] at this
    exact this
  refine List.Pairwise.imp_of_mem (fun {a b} ha hb hne e => hne ?_) h2
  have f : ∀ p ∈ groups ties (headsOf ls), p.2 ≠ [] ∧ ∀ t ∈ p.2, headsOf ls t = p.1 := fun p hp => by
    have h1 := Ty.look_of g.1 hp
    rw [groups_look] at h1
    by_cases c1 : (ties.filter fun t => decide (headsOf ls t = p.1)) = []
    · rw [if_pos c1] at h1
      cases h1
    · rw [if_neg c1] at h1
      have e := Option.some.inj h1
      rw [← e]
      refine ⟨c1, fun t ht => ?_⟩
      rw [List.mem_filter, decide_eq_true_eq] at ht
      exact ht.2
  obtain ⟨t, ht⟩ := List.exists_mem_of_ne_nil _ (f a ha).1
  have e1 := (f a ha).2 t ht
  rw [e] at ht
  have e2 := (f b hb).2 t ht
  exact e1.symm.trans e2
end M

/-! linkedIn: its links join all ties that are linked. -/
namespace M
open Ty (en T3 addL look srt)
section
variable {tbl : List (List (Option Nat))} {bs : List (List Nat)} {ties : List Tie}
abbrev tieAt (ties : List Tie) (j : Nat) : Tie := ties.getD j (0, 0)
/-- what the loop keeps -/
structure LkI (tbl : List (List (Option Nat))) (bs : List (List Nat)) (ties : List Tie) (s : LkS) : Prop where
  len : s.1.length = ties.length
  con : ∀ a b, a < ties.length → b < ties.length → s.1.getD a 0 = s.1.getD b 0 → headsOf s.2 (tieAt ties a) = headsOf s.2 (tieAt ties b)
  rel : ∀ l ∈ s.2, ∃ j i, j < i ∧ i < ties.length ∧ l.b = tieAt ties j ∧ l.c = tieAt ties i ∧ wordOf tbl bs l.b l.c ≠ none
/-- a pair is joined -/
def Joined (tbl : List (List (Option Nat))) (bs : List (List Nat)) (ties : List Tie) (s : LkS) (j i : Nat) : Prop := wordOf tbl bs (tieAt ties j) (tieAt ties i) ≠ none → s.1.getD j 0 = s.1.getD i 0
theorem getD_map {α β : Type} (f : α → β) {xs : List α} {i : Nat} (h : i < xs.length) (d : α) (e : β) : (xs.map f).getD i e = f (xs.getD i d) := by
  rw [List.getD_eq_getElem?_getD, List.getD_eq_getElem?_getD, List.getElem?_map, List.getElem?_eq_getElem h]
  rfl
theorem lkStep_ok {i j : Nat} {s : LkS} (hj : j < i) (hi : i < ties.length) (h : LkI tbl bs ties s) :
    LkI tbl bs ties (lkStep tbl bs ties i s j) ∧ Joined tbl bs ties (lkStep tbl bs ties i s j) j i ∧ ∀ a b, a < ties.length → b < ties.length → s.1.getD a 0 = s.1.getD b 0 → (lkStep tbl bs ties i s j).1.getD a 0 = (lkStep tbl bs ties i s j).1.getD b 0 := by
  unfold lkStep
  by_cases c : s.1.getD j 0 = s.1.getD i 0
  · rw [if_pos c]
    exact ⟨h, fun _ => c, fun a b _ _ e => e⟩
  · rw [if_neg c]
    cases w : wordOf tbl bs (ties.getD j (0, 0)) (ties.getD i (0, 0)) with
    | none => exact ⟨h, fun z => absurd w z, fun a b _ _ e => e⟩
    | some wd =>
      show LkI tbl bs ties (s.1.map (fun x => if x = s.1.getD i 0 then s.1.getD j 0 else x), s.2 ++ [⟨wd, ties.getD j (0, 0), ties.getD i (0, 0)⟩]) ∧ _
      have ga : ∀ a, a < ties.length → (s.1.map (fun x => if x = s.1.getD i 0 then s.1.getD j 0 else x)).getD a 0 = if s.1.getD a 0 = s.1.getD i 0 then s.1.getD j 0 else s.1.getD a 0 := fun a ha => getD_map _ (by rw [h.len]; exact ha) 0 0
      have hlk : headsOf (s.2 ++ [(⟨wd, ties.getD j (0, 0), ties.getD i (0, 0)⟩ : Link)]) (tieAt ties j) = headsOf (s.2 ++ [(⟨wd, ties.getD j (0, 0), ties.getD i (0, 0)⟩ : Link)]) (tieAt ties i) :=
        heads_link (l := ⟨wd, ties.getD j (0, 0), ties.getD i (0, 0)⟩) (by simp)
      refine ⟨⟨by rw [List.length_map]; exact h.len, fun a b ha hb e => ?_, fun l hl => ?_⟩, fun _ => ?_, fun a b ha hb e => ?_⟩
      · simp only at e ⊢
        rw [ga a ha, ga b hb] at e
        have k := fun {x y} (hx : x < ties.length) (hy : y < ties.length) (z : s.1.getD x 0 = s.1.getD y 0) => heads_app s.2 [(⟨wd, ties.getD j (0, 0), ties.getD i (0, 0)⟩ : Link)] (h.con x y hx hy z)
        have hjl : j < ties.length := by omega
        by_cases c1 : s.1.getD a 0 = s.1.getD i 0
        · rw [if_pos c1] at e
          by_cases c2 : s.1.getD b 0 = s.1.getD i 0
          · exact k ha hb (c1.trans c2.symm)
          · rw [if_neg c2] at e
            exact (k ha hi c1).trans (hlk.symm.trans (k hjl hb e))
        · rw [if_neg c1] at e
          by_cases c2 : s.1.getD b 0 = s.1.getD i 0
          · rw [if_pos c2] at e
            exact (k ha hjl e).trans (hlk.trans (k hb hi c2).symm)
          · rw [if_neg c2] at e
            exact k ha hb e
      · rcases List.mem_append.mp hl with z | z
        · exact h.rel l z
        · have e : l = _ := List.mem_singleton.mp z
          subst e
          exact ⟨j, i, hj, hi, rfl, rfl, by show wordOf tbl bs (ties.getD j (0, 0)) (ties.getD i (0, 0)) ≠ none; rw [w]; exact fun z => nomatch z⟩
      · show (s.1.map (fun x => if x = s.1.getD i 0 then s.1.getD j 0 else x)).getD j 0 = (s.1.map (fun x => if x = s.1.getD i 0 then s.1.getD j 0 else x)).getD i 0
        rw [ga j (by omega), ga i hi, if_neg c, if_pos rfl]
      · show (s.1.map (fun x => if x = s.1.getD i 0 then s.1.getD j 0 else x)).getD a 0 = (s.1.map (fun x => if x = s.1.getD i 0 then s.1.getD j 0 else x)).getD b 0
        rw [ga a ha, ga b hb, e]
theorem lkFold_ok {i : Nat} (hi : i < ties.length) : ∀ (js : List Nat) (s : LkS), (∀ j ∈ js, j < i) → LkI tbl bs ties s → LkI tbl bs ties (js.foldl (lkStep tbl bs ties i) s) ∧ (∀ j ∈ js, Joined tbl bs ties (js.foldl (lkStep tbl bs ties i) s) j i) ∧
      ∀ a b, a < ties.length → b < ties.length → s.1.getD a 0 = s.1.getD b 0 → (js.foldl (lkStep tbl bs ties i) s).1.getD a 0 = (js.foldl (lkStep tbl bs ties i) s).1.getD b 0
  | [], s, _, h => ⟨h, (fun j hj => by cases hj), fun a b _ _ e => e⟩
  | j :: js, s, hj, h => by
    have hj1 := hj j (List.mem_cons_self ..)
    obtain ⟨h1, h2, h3⟩ := lkStep_ok hj1 hi h
    obtain ⟨g1, g2, g3⟩ := lkFold_ok hi js _ (fun k hk => hj k (List.mem_cons_of_mem _ hk)) h1
    rw [List.foldl_cons]
    refine ⟨g1, fun k hk => ?_, fun a b ha hb e => g3 a b ha hb (h3 a b ha hb e)⟩
    rcases List.mem_cons.mp hk with e | hk
    · subst e
      exact fun z => g3 _ _ (by omega) hi (h2 z)
    · exact g2 k hk
theorem lkRows_ok : ∀ (is : List Nat) (s : LkS), (∀ i ∈ is, i < ties.length) → LkI tbl bs ties s → LkI tbl bs ties (is.foldl (lkRow tbl bs ties) s) ∧ (∀ i ∈ is, ∀ j, j < i → Joined tbl bs ties (is.foldl (lkRow tbl bs ties) s) j i) ∧
      ∀ a b, a < ties.length → b < ties.length → s.1.getD a 0 = s.1.getD b 0 → (is.foldl (lkRow tbl bs ties) s).1.getD a 0 = (is.foldl (lkRow tbl bs ties) s).1.getD b 0
  | [], s, _, h => ⟨h, (fun j hj => by cases hj), fun a b _ _ e => e⟩
  | i :: is, s, hi, h => by
    have hi1 := hi i (List.mem_cons_self ..)
    obtain ⟨h1, h2, h3⟩ := lkFold_ok (tbl := tbl) (bs := bs) hi1 (List.range i) s (fun j hj => List.mem_range.mp hj) h
    obtain ⟨g1, g2, g3⟩ := lkRows_ok is (lkRow tbl bs ties s i) (fun k hk => hi k (List.mem_cons_of_mem _ hk)) h1
    rw [List.foldl_cons]
    refine ⟨g1, fun k hk j hj => ?_, fun a b ha hb e => g3 a b ha hb (h3 a b ha hb e)⟩
    rcases List.mem_cons.mp hk with e | hk
    · subst e
      exact fun z => g3 _ _ (by omega) hi1 (h2 j (List.mem_range.mpr hj) z)
    · exact g2 k hk j hj
end
/-- the head of a tie -/
noncomputable def hdW (w : Web) : Tie → Tie := headsOf (linkedIn w)
theorem linked_all (w : Web) : LkI (farTable w) (besideAll w) w.2 ((List.range w.2.length).foldl (lkRow (farTable w) (besideAll w) w.2) (List.range w.2.length, [])) ∧
    ∀ j i, j < i → i < w.2.length → wordOf (farTable w) (besideAll w) (tieAt w.2 j) (tieAt w.2 i) ≠ none → hdW w (tieAt w.2 j) = hdW w (tieAt w.2 i) := by
  have h0 : LkI (farTable w) (besideAll w) w.2 (List.range w.2.length, []) := by
    refine ⟨by simp, fun a b ha hb e => ?_, fun l hl => by cases hl⟩
    simp only at e
    rw [List.getD_eq_getElem?_getD, List.getD_eq_getElem?_getD, List.getElem?_range ha, List.getElem?_range hb] at e
    have e2 : a = b := e
    rw [e2]
  obtain ⟨h1, h2, _⟩ := lkRows_ok (List.range w.2.length) _ (fun i hi => List.mem_range.mp hi) h0
  refine ⟨h1, fun j i hj hi hw => ?_⟩
  exact h1.con j i (by omega) hi (h2 i (List.mem_range.mpr hi) j hj hw)
theorem tieAt_mem {ties : List Tie} {j : Nat} (h : j < ties.length) : tieAt ties j ∈ ties := by
  unfold tieAt
  rw [List.getD_eq_getElem?_getD, List.getElem?_eq_getElem h]
  exact List.getElem_mem h
theorem mem_tieAt {ties : List Tie} {t : Tie} (h : t ∈ ties) : ∃ j, j < ties.length ∧ tieAt ties j = t := by
  obtain ⟨j, hj⟩ := List.mem_iff_getElem?.mp h
  refine ⟨j, (List.getElem?_eq_some_iff.mp hj).1, ?_⟩
  unfold tieAt
  rw [List.getD_eq_getElem?_getD, hj]
  rfl
/-- heads are as coarse as they must be, no coarser -/
theorem hdW_min {β : Type} {w : Web} (mu : Tie → β) (h : ∀ t ∈ w.2, ∀ o ∈ w.2, wordOf (farTable w) (besideAll w) t o ≠ none → mu t = mu o) {t o : Tie} (e : hdW w t = hdW w o) : mu t = mu o := by
  refine heads_min mu (ls := linkedIn w) (fun l hl => ?_) e
  obtain ⟨j, i, hj, hi, e1, e2, hw⟩ := (linked_all w).1.rel l hl
  refine h _ ?_ _ ?_ hw
  · rw [e1]
    exact tieAt_mem (by omega)
  · rw [e2]
    exact tieAt_mem hi
theorem hdW_link {w : Web} (hsym : ∀ t ∈ w.2, ∀ o ∈ w.2, wordOf (farTable w) (besideAll w) t o ≠ none → wordOf (farTable w) (besideAll w) o t ≠ none) {t o : Tie} (ht : t ∈ w.2) (ho : o ∈ w.2) (h : wordOf (farTable w) (besideAll w) t o ≠ none) : hdW w t = hdW w o := by
  obtain ⟨j, hj, rfl⟩ := mem_tieAt ht
  obtain ⟨i, hi, rfl⟩ := mem_tieAt ho
  by_cases c : j = i
  · rw [c]
  · by_cases c2 : j < i
    · exact (linked_all w).2 j i c2 hi h
    · exact ((linked_all w).2 i j (by omega) hj (hsym _ ht _ ho h)).symm
theorem classes_mem {w : Web} {c : List Tie} : c ∈ classesIn w ↔ ∃ t ∈ w.2, c = cls w.2 (hdW w) (hdW w t) := hung_mem
theorem classes_nodup (w : Web) : (classesIn w).Nodup := hung_nodup
end M

/-! Factored graphs: rows, directions, and what a naming does to the factors. -/
namespace A
def sumTo : Nat → (Nat → Nat) → Nat
  | 0, _ => 0
  | k + 1, f => sumTo k f + f k
theorem sumTo_congr {f g : Nat → Nat} : ∀ {k : Nat}, (∀ i, i < k → f i = g i) → sumTo k f = sumTo k g
  | 0, _ => rfl
  | k + 1, h => by
    show sumTo k f + f k = sumTo k g + g k
    rw [sumTo_congr fun i hi => h i (by omega), h k (by omega)]
theorem sumTo_add (f g : Nat → Nat) : ∀ k : Nat, sumTo k (fun i => f i + g i) = sumTo k f + sumTo k g
  | 0 => rfl
  | k + 1 => by
    show sumTo k _ + (f k + g k) = sumTo k f + f k + (sumTo k g + g k)
    rw [sumTo_add f g k]
    omega
theorem sumTo_zero {f : Nat → Nat} : ∀ {k : Nat}, (∀ i, i < k → f i = 0) → sumTo k f = 0
  | 0, _ => rfl
  | k + 1, h => by
    show sumTo k f + f k = 0
    rw [sumTo_zero fun i hi => h i (by omega), h k (by omega)]
theorem sumTo_but {f g : Nat → Nat} {i : Nat} : ∀ {k : Nat}, i < k → (∀ j, j < k → j ≠ i → f j = g j) → sumTo k f + g i = sumTo k g + f i
  | 0, h, _ => by omega
  | k + 1, h, e => by
    show sumTo k f + f k + g i = sumTo k g + g k + f i
    by_cases c : i = k
    · subst c
      rw [sumTo_congr (f := f) (g := g) fun j hj => e j (by omega) (by omega)]
      omega
    · have := sumTo_but (k := k) (by omega) fun j hj hne => e j (by omega) hne
      have := e k (by omega) (fun z => c z.symm)
      omega
structure Fa (n : Nat) (adj : Nat → Nat → Prop) (d : Nat → Nat → Nat) (k : Nat) (m : Nat → Nat) (a : Nat → Nat → Nat → Prop) (c : Nat → Nat → Nat) : Prop where
  D : Dist n adj d
  lt : ∀ {p i}, p < n → i < k → c p i < m i
  two : ∀ {i}, i < k → 2 ≤ m i
  inj : ∀ {p q}, p < n → q < n → (∀ i, i < k → c p i = c q i) → p = q
  sur : ∀ x : Nat → Nat, (∀ i, i < k → x i < m i) → ∃ p, p < n ∧ ∀ i, i < k → c p i = x i
  tied : ∀ {p q}, p < n → q < n → (adj p q ↔ ∃ i, i < k ∧ a i (c p i) (c q i) ∧ ∀ j, j < k → j ≠ i → c p j = c q j)
  dist : ∀ i, i < k → ∃ D, Dist (m i) (a i) D
  fine : ∀ mu : Nat → Nat → Nat, Clo n adj d mu → ∀ {u v x y i}, adj u v → adj x y → i < k → c u i ≠ c v i → c x i ≠ c y i → mu u v = mu x y
/-- a web as good as another by such a naming -/
structure Iso (n : Nat) (adj : Nat → Nat → Prop) (n' : Nat) (adj' : Nat → Nat → Prop) (f : Nat → Nat) : Prop where
  lt : ∀ {p}, p < n → f p < n'
  inj : ∀ {p q}, p < n → q < n → f p = f q → p = q
  sur : ∀ {q}, q < n' → ∃ p, p < n ∧ f p = q
  tied : ∀ {p q}, p < n → q < n → (adj p q ↔ adj' (f p) (f q))
def dirOf (k : Nat) (c : Nat → Nat → Nat) (u v : Nat) : Nat := ((List.range k).filter fun i => !decide (c u i = c v i)).headD k
theorem dirOf_spec {k : Nat} {c : Nat → Nat → Nat} {u v i : Nat} (h : i < k) (hc : c u i ≠ c v i) : dirOf k c u v < k ∧ c u (dirOf k c u v) ≠ c v (dirOf k c u v) := by
  unfold dirOf
  have hm : i ∈ (List.range k).filter fun i => !decide (c u i = c v i) := by
    rw [List.mem_filter, List.mem_range]
    exact ⟨h, by simp [hc]⟩
  cases e : (List.range k).filter fun i => !decide (c u i = c v i) with
  | nil => rw [e] at hm; cases hm
  | cons x xs =>
    have hx : x ∈ (List.range k).filter fun i => !decide (c u i = c v i) := by rw [e]; exact List.mem_cons_self ..
    rw [List.mem_filter, List.mem_range] at hx
    exact ⟨hx.1, by simpa using hx.2⟩
theorem dirOf_comm (k : Nat) (c : Nat → Nat → Nat) (u v : Nat) : dirOf k c u v = dirOf k c v u := by
  unfold dirOf
  have : (fun i => !decide (c u i = c v i)) = fun i => !decide (c v i = c u i) := by
    funext i
    exact congrArg Bool.not (decide_eq_decide.mpr eq_comm)
  rw [this]
section
variable {n : Nat} {adj : Nat → Nat → Prop} {d : Nat → Nat → Nat} {k : Nat} {m : Nat → Nat} {a : Nat → Nat → Nat → Prop} {c : Nat → Nat → Nat}
theorem Fa.change (F : Fa n adj d k m a c) {p i x : Nat} (hp : p < n) (hi : i < k) (hx : x < m i) : ∃ q, q < n ∧ c q i = x ∧ ∀ j, j < k → j ≠ i → c q j = c p j := by
  obtain ⟨q, hq, e⟩ := F.sur (fun j => if j = i then x else c p j) fun j hj => by
    show (if j = i then x else c p j) < m j
    split
    · rename_i z; rw [z]; exact hx
    · exact F.lt hp hj
  exact ⟨q, hq, by simpa using e i hi, fun j hj hne => by simpa [hne] using e j hj⟩
theorem Fa.dists (F : Fa n adj d k m a c) : ∃ DD : Nat → Nat → Nat → Nat, ∀ i, i < k → Dist (m i) (a i) (DD i) := by
  have : ∀ i, ∃ D, i < k → Dist (m i) (a i) D := fun i => by
    by_cases h : i < k
    · obtain ⟨D, hD⟩ := F.dist i h
      exact ⟨D, fun _ => hD⟩
    · exact ⟨fun _ _ => 0, fun z => absurd z h⟩
  exact ⟨fun i => (this i).choose, fun i hi => (this i).choose_spec hi⟩
theorem Fa.aIrr (F : Fa n adj d k m a c) {i x : Nat} (hi : i < k) : ¬ a i x x := by
  obtain ⟨D, hD⟩ := F.dist i hi
  exact hD.irr
theorem Fa.aSym (F : Fa n adj d k m a c) {i x y : Nat} (hi : i < k) (h : a i x y) : a i y x := by
  obtain ⟨D, hD⟩ := F.dist i hi
  exact hD.asym h
theorem Fa.tied1 (F : Fa n adj d k m a c) {p q i : Nat} (hp : p < n) (hq : q < n) (hi : i < k) (h : ∀ j, j < k → j ≠ i → c p j = c q j) : adj p q ↔ a i (c p i) (c q i) := by
  rw [F.tied hp hq]
  constructor
  · intro ⟨j, hj, h1, h2⟩
    by_cases e : j = i
    · subst e; exact h1
    · rw [h j hj e] at h1
      exact absurd h1 (F.aIrr hj)
  · exact fun z => ⟨i, hi, z, h⟩
theorem Fa.dir (F : Fa n adj d k m a c) {u v : Nat} (h : adj u v) : ∃ i, i < k ∧ c u i ≠ c v i ∧ a i (c u i) (c v i) ∧ ∀ j, j < k → j ≠ i → c u j = c v j := by
  obtain ⟨i, hi, h1, h2⟩ := (F.tied (F.D.lt h) (F.D.lt2 h)).mp h
  exact ⟨i, hi, fun e => F.aIrr hi (e ▸ h1), h1, h2⟩
theorem Fa.only (F : Fa n adj d k m a c) {u v i j : Nat} (h : adj u v) (hi : i < k) (hj : j < k) (h1 : c u i ≠ c v i) (h2 : c u j ≠ c v j) : i = j := by
  obtain ⟨l, hl, _, _, h3⟩ := F.dir h
  have e1 : i = l := Decidable.byContradiction fun z => h1 (h3 i hi z)
  have e2 : j = l := Decidable.byContradiction fun z => h2 (h3 j hj z)
  rw [e1, e2]
theorem Fa.dirAt (F : Fa n adj d k m a c) {u v i : Nat} (h : adj u v) (hi : i < k) (hc : c u i ≠ c v i) : dirOf k c u v = i :=
  F.only h (dirOf_spec hi hc).1 hi (dirOf_spec hi hc).2 hc
theorem Fa.edge (F : Fa n adj d k m a c) {i : Nat} (hi : i < k) : ∃ u v, adj u v ∧ c u i ≠ c v i := by
  obtain ⟨D, hD⟩ := F.dist i hi
  have h2 := F.two hi
  obtain ⟨w, hw, _⟩ := hD.desc (u := 0) (v := 1) (by omega) (by omega) (by omega)
  obtain ⟨p, hp, e⟩ := F.sur (fun _ => 0) fun j hj => by
    have := F.two hj
    show 0 < m j
    omega
  obtain ⟨q, hq, e1, e2⟩ := F.change hp hi (hD.lt2 hw)
  have e0 : c p i = 0 := e i hi
  refine ⟨p, q, (F.tied1 hp hq hi fun j hj hne => (e2 j hj hne).symm).mpr ?_, ?_⟩
  · rw [e0, e1]; exact hw
  · rw [e0, e1]
    intro z
    rw [← z] at hw
    exact hD.irr hw
/-- distances add up -/
theorem Fa.add (F : Fa n adj d k m a c) {DD : Nat → Nat → Nat → Nat} (hD : ∀ i, i < k → Dist (m i) (a i) (DD i)) {p q : Nat} (hp : p < n) (hq : q < n) : d p q = sumTo k fun i => DD i (c p i) (c q i) := by
  refine F.D.uniq (d' := fun p q => sumTo k fun i => DD i (c p i) (c q i)) ⟨F.D.lt, F.D.asym, F.D.irr, fun {u} hu => sumTo_zero fun i hi => (hD i hi).zero (F.lt hu hi), fun {u v} hu hv => sumTo_congr fun i hi => (hD i hi).sym (F.lt hu hi) (F.lt hv hi), fun {u v x} h hx => ?_, fun {u v} hu hv hne => ?_⟩ hp hq
  · obtain ⟨i, hi, _, h1, h2⟩ := F.dir h
    have s := sumTo_but (f := fun i => DD i (c u i) (c x i)) (g := fun i => DD i (c v i) (c x i)) hi fun j hj hne => by rw [h2 j hj hne]
    have l := (hD i hi).lip h1 (F.lt hx hi)
    omega
  · have : ∃ i, i < k ∧ c u i ≠ c v i := Classical.byContradiction fun z => hne (F.inj hu hv fun i hi => Classical.byContradiction fun y => z ⟨i, hi, y⟩)
    obtain ⟨i, hi, hc⟩ := this
    obtain ⟨x, h1, h2⟩ := (hD i hi).desc (F.lt hu hi) (F.lt hv hi) hc
    obtain ⟨w, hw, e1, e2⟩ := F.change hu hi ((hD i hi).lt2 h1)
    refine ⟨w, (F.tied1 hu hw hi fun j hj hne => (e2 j hj hne).symm).mpr (by rw [e1]; exact h1), ?_⟩
    have s := sumTo_but (f := fun i => DD i (c u i) (c v i)) (g := fun i => DD i (c w i) (c v i)) hi fun j hj hne => by rw [e2 j hj hne]
    rw [e1] at s
    omega
theorem Fa.along (F : Fa n adj d k m a c) {R : Nat → Prop} {q : Nat} (i : Nat) (hq : q < n) (step : ∀ u v, adj u v → (i < k → c u i = c v i) → R u → R v) {p : Nat} (hp : p < n) (hi : i < k → c p i = c q i) (h0 : R p) : R q := by
  obtain ⟨DD, hD⟩ := F.dists
  generalize e : d p q = s
  induction s using Nat.strongRecOn generalizing p with
  | ind s ih =>
    by_cases epq : p = q
    · rw [← epq]; exact h0
    · have : ∃ j, j < k ∧ c p j ≠ c q j := Classical.byContradiction fun z => epq (F.inj hp hq fun i hi => Classical.byContradiction fun y => z ⟨i, hi, y⟩)
      obtain ⟨j, hj, hc⟩ := this
      have hij : i < k → i ≠ j := fun h z => by
        subst z
        exact hc (hi h)
      obtain ⟨x, h1, h2⟩ := (hD j hj).desc (F.lt hp hj) (F.lt hq hj) hc
      obtain ⟨w, hw, e1, e2⟩ := F.change hp hj ((hD j hj).lt2 h1)
      have hpw : adj p w := (F.tied1 hp hw hj fun l hl hne => (e2 l hl hne).symm).mpr (by rw [e1]; exact h1)
      have s1 := sumTo_but (f := fun i => DD i (c p i) (c q i)) (g := fun i => DD i (c w i) (c q i)) hj fun l hl hne => by rw [e2 l hl hne]
      have s2 := F.add hD hp hq
      have s3 := F.add hD hw hq
      rw [e1] at s1
      exact ih (d w q) (by omega) hw (fun h => (e2 i h (hij h)).trans (hi h)) (step p w hpw (fun h => (e2 i h (hij h)).symm) h0) rfl
/-- directions are closed -/
theorem Fa.clo (F : Fa n adj d k m a c) : Clo n adj d (dirOf k c) := by
  obtain ⟨DD, hD⟩ := F.dists
  refine ⟨fun {u v} _ => dirOf_comm k c u v, fun {u v x y} h1 h2 hne => ?_, fun {x u v} h1 h2 hne hl => ?_⟩
  · obtain ⟨i, hi, i1, _, i3⟩ := F.dir h1
    obtain ⟨j, hj, j1, _, j3⟩ := F.dir h2
    rw [F.dirAt h1 hi i1, F.dirAt h2 hj j1]
    refine Classical.byContradiction fun z => hne ?_
    have un := F.D.lt h1
    have vn := F.D.lt2 h1
    have xn := F.D.lt h2
    have yn := F.D.lt2 h2
    rw [F.add hD un xn, F.add hD vn yn, F.add hD un yn, F.add hD vn xn, ← sumTo_add, ← sumTo_add]
    refine sumTo_congr fun l hl => ?_
    by_cases e : l = i
    · rw [j3 l hl (by omega)]
    · rw [i3 l hl e]
      omega
  · obtain ⟨i, hi, i1, i2, i3⟩ := F.dir h1
    obtain ⟨j, hj, j1, j2, j3⟩ := F.dir h2
    rw [F.dirAt h1 hi i1, F.dirAt h2 hj j1] at hl
    have un := F.D.lt2 h1
    have vn := F.D.lt2 h2
    obtain ⟨w, hw, e1, e2⟩ := F.change un hj (F.lt vn hj)
    refine ⟨w, fun z => ?_, ?_, ?_⟩
    · subst z
      exact i1 (e2 i hi hl)
    · refine (F.tied1 hw un hj e2).mpr ?_
      rw [e1, ← i3 j hj (Ne.symm hl)]
      exact F.aSym hj j2
    · refine (F.tied1 hw vn hi fun l hl2 hne2 => ?_).mpr ?_
      · by_cases e : l = j
        · rw [e, e1]
        · rw [e2 l hl2 e, ← i3 l hl2 hne2, j3 l hl2 e]
      · rw [e2 i hi hl, ← j3 i hi hl]
        exact F.aSym hi i2
end
theorem pig {n m : Nat} {f : Nat → Nat} (h : ∀ i, i < n → f i < m) (inj : ∀ i j, i < n → j < n → f i = f j → i = j) : n ≤ m := by
  have nd : ((List.range n).map f).Nodup := by
    rw [List.Nodup, List.pairwise_map]
    exact List.Pairwise.imp_of_mem (fun {a b} ha hb hne e => hne (inj a b (List.mem_range.mp ha) (List.mem_range.mp hb) e)) List.nodup_range
  have := List.Nodup.length_le_of_subset nd (l₂ := List.range m) fun q hq => by
    obtain ⟨i, hi, e⟩ := List.mem_map.mp hq
    rw [← e]
    exact List.mem_range.mpr (h i (List.mem_range.mp hi))
  simpa using this
theorem pigSur {n : Nat} {f : Nat → Nat} (h : ∀ i, i < n → f i < n) (inj : ∀ i j, i < n → j < n → f i = f j → i = j) {q : Nat} (hq : q < n) : ∃ p, p < n ∧ f p = q := by
  refine Classical.byContradiction fun z => ?_
  have := pig (n := n + 1) (m := n) (f := fun i => if i = n then q else f i) (fun i hi => by
    show (if i = n then q else f i) < n
    split
    · exact hq
    · exact h i (by omega)) fun i j hi hj e => by
    by_cases c1 : i = n
    · by_cases c2 : j = n
      · omega
      · rw [if_pos c1, if_neg c2] at e
        exact absurd ⟨j, by omega, e.symm⟩ z
    · by_cases c2 : j = n
      · rw [if_neg c1, if_pos c2] at e
        exact absurd ⟨i, by omega, e⟩ z
      · rw [if_neg c1, if_neg c2] at e
        exact inj i j (by omega) (by omega) e
  omega
section
variable {n : Nat} {adj : Nat → Nat → Prop} {n' : Nat} {adj' : Nat → Nat → Prop} {φ : Nat → Nat}
theorem Iso.eqn (I : Iso n adj n' adj' φ) : n = n' := by
  refine Nat.le_antisymm (pig (fun i hi => I.lt hi) fun i j hi hj e => I.inj hi hj e) ?_
  have : ∀ q, ∃ p, q < n' → p < n ∧ φ p = q := fun q => by
    by_cases h : q < n'
    · obtain ⟨p, hp⟩ := I.sur h
      exact ⟨p, fun _ => hp⟩
    · exact ⟨0, fun z => absurd z h⟩
  exact pig (f := fun q => (this q).choose) (fun i hi => ((this i).choose_spec hi).1) fun i j hi hj e => by
    have h1 := ((this i).choose_spec hi).2
    have h2 := ((this j).choose_spec hj).2
    rw [← h1, ← h2]
    rw [e]
theorem Iso.inv (I : Iso n adj n' adj' φ) : ∃ ψ, Iso n' adj' n adj ψ ∧ (∀ p, p < n → ψ (φ p) = p) ∧ ∀ q, q < n' → φ (ψ q) = q := by
  have : ∀ q, ∃ p, q < n' → p < n ∧ φ p = q := fun q => by
    by_cases h : q < n'
    · obtain ⟨p, hp⟩ := I.sur h
      exact ⟨p, fun _ => hp⟩
    · exact ⟨0, fun z => absurd z h⟩
  have h1 : ∀ q, q < n' → (this q).choose < n ∧ φ (this q).choose = q := fun q hq => (this q).choose_spec hq
  generalize hψ : (fun q => (this q).choose) = ψ
  have h2 : ∀ q, q < n' → ψ q < n ∧ φ (ψ q) = q := fun q hq => by
    rw [← hψ]
    exact h1 q hq
  have h3 : ∀ p, p < n → ψ (φ p) = p := fun p hp => I.inj (h2 _ (I.lt hp)).1 hp (h2 _ (I.lt hp)).2
  refine ⟨ψ, ⟨fun {q} hq => (h2 q hq).1, fun {p q} hp hq e => ?_, fun {p} hp => ⟨φ p, I.lt hp, h3 p hp⟩, fun {p q} hp hq => ?_⟩, h3, fun q hq => (h2 q hq).2⟩
  · rw [← (h2 p hp).2, e, (h2 q hq).2]
  · rw [I.tied (h2 p hp).1 (h2 q hq).1, (h2 p hp).2, (h2 q hq).2]
theorem Iso.comp {n'' : Nat} {adj'' : Nat → Nat → Prop} {χ : Nat → Nat} (I : Iso n adj n' adj' φ) (J : Iso n' adj' n'' adj'' χ) : Iso n adj n'' adj'' fun p => χ (φ p) :=
  ⟨fun hp => J.lt (I.lt hp), fun hp hq e => I.inj hp hq (J.inj (I.lt hp) (I.lt hq) e), fun {q} hq => by
    obtain ⟨p, hp, e⟩ := J.sur hq
    obtain ⟨r, hr, e2⟩ := I.sur hp
    exact ⟨r, hr, by rw [e2, e]⟩, fun hp hq => (I.tied hp hq).trans (J.tied (I.lt hp) (I.lt hq))⟩
theorem Iso.id (n : Nat) (adj : Nat → Nat → Prop) : Iso n adj n adj fun p => p := ⟨fun h => h, fun _ _ e => e, fun {q} h => ⟨q, h, rfl⟩, fun _ _ => Iff.rfl⟩
theorem Iso.congr {φ' : Nat → Nat} (I : Iso n adj n' adj' φ) (h : ∀ p, p < n → φ p = φ' p) : Iso n adj n' adj' φ' :=
  ⟨fun hp => by rw [← h _ hp]; exact I.lt hp, fun hp hq e => I.inj hp hq (by rw [h _ hp, h _ hq]; exact e), fun {q} hq => by
    obtain ⟨p, hp, e⟩ := I.sur hq
    exact ⟨p, hp, by rw [← h p hp]; exact e⟩, fun hp hq => by rw [← h _ hp, ← h _ hq]; exact I.tied hp hq⟩
variable {d d' : Nat → Nat → Nat}
theorem Iso.dist (I : Iso n adj n' adj' φ) (D : Dist n adj d) (D' : Dist n' adj' d') {p q : Nat} (hp : p < n) (hq : q < n) : d p q = d' (φ p) (φ q) := by
  refine D.uniq (d' := fun p q => d' (φ p) (φ q)) ⟨D.lt, D.asym, D.irr, fun h => D'.zero (I.lt h), fun h1 h2 => D'.sym (I.lt h1) (I.lt h2), fun h hx => D'.lip ((I.tied (D.lt h) (D.lt2 h)).mp h) (I.lt hx), fun {u v} hu hv hne => ?_⟩ hp hq
  obtain ⟨w, h1, h2⟩ := D'.desc (I.lt hu) (I.lt hv) fun e => hne (I.inj hu hv e)
  obtain ⟨x, hx, e⟩ := I.sur (D'.lt2 h1)
  subst e
  exact ⟨x, (I.tied hu hx).mpr h1, h2⟩
theorem Iso.clo {α : Type} {mu : Nat → Nat → α} (I : Iso n adj n' adj' φ) (D : Dist n adj d) (D' : Dist n' adj' d') (C : Clo n' adj' d' mu) : Clo n adj d fun u v => mu (φ u) (φ v) := by
  have t : ∀ {u v}, adj u v → adj' (φ u) (φ v) := fun h => (I.tied (D.lt h) (D.lt2 h)).mp h
  refine ⟨fun h => C.sym (t h), fun {u v x y} h1 h2 hne => C.theta (t h1) (t h2) ?_, fun {x u v} h1 h2 hne hl => ?_⟩
  · rw [← I.dist D D' (D.lt h1) (D.lt h2), ← I.dist D D' (D.lt2 h1) (D.lt2 h2), ← I.dist D D' (D.lt h1) (D.lt2 h2), ← I.dist D D' (D.lt2 h1) (D.lt h2)]
    exact hne
  · obtain ⟨w, g1, g2, g3⟩ := C.tau (t h1) (t h2) (fun e => hne (I.inj (D.lt2 h1) (D.lt2 h2) e)) hl
    obtain ⟨y, hy, e⟩ := I.sur (D'.lt g2)
    subst e
    exact ⟨y, fun e => g1 (by rw [e]), (I.tied hy (D.lt2 h1)).mpr g2, (I.tied hy (D.lt2 h2)).mpr g3⟩
variable {k k' : Nat} {m m' : Nat → Nat} {a a' : Nat → Nat → Nat → Prop} {c c' : Nat → Nat → Nat}
theorem Fa.turn (F : Fa n adj d k m a c) (F' : Fa n' adj' d' k' m' a' c') (I : Iso n adj n' adj' φ) : ∃ π : Nat → Nat, ∀ i, i < k → π i < k' ∧ ∀ u v, adj u v → c u i ≠ c v i → c' (φ u) (π i) ≠ c' (φ v) (π i) := by
  have : ∀ i, ∃ j, i < k → j < k' ∧ ∀ u v, adj u v → c u i ≠ c v i → c' (φ u) j ≠ c' (φ v) j := fun i => by
    by_cases hi : i < k
    · obtain ⟨u, v, h, hc⟩ := F.edge hi
      refine ⟨dirOf k' c' (φ u) (φ v), fun _ => ?_⟩
      have t : ∀ {u v}, adj u v → adj' (φ u) (φ v) := fun h => (I.tied (F.D.lt h) (F.D.lt2 h)).mp h
      have s : ∀ {u v}, adj u v → dirOf k' c' (φ u) (φ v) < k' ∧ c' (φ u) (dirOf k' c' (φ u) (φ v)) ≠ c' (φ v) (dirOf k' c' (φ u) (φ v)) := fun h => by
        obtain ⟨j, hj, hjc, _⟩ := F'.dir (t h)
        exact dirOf_spec hj hjc
      refine ⟨(s h).1, fun x y hxy hxc => ?_⟩
      have e := F.fine (fun u v => dirOf k' c' (φ u) (φ v)) (I.clo F.D F'.D F'.clo) h hxy hi hc hxc
      rw [e]
      exact (s hxy).2
    · exact ⟨0, fun z => absurd z hi⟩
  exact ⟨fun i => (this i).choose, fun i hi => (this i).choose_spec hi⟩
/-- what a naming does to the factors -/
structure Told (φ : Nat → Nat) (n : Nat) (k : Nat) (m : Nat → Nat) (a : Nat → Nat → Nat → Prop) (c : Nat → Nat → Nat) (m' : Nat → Nat) (a' : Nat → Nat → Nat → Prop) (c' : Nat → Nat → Nat) (π : Nat → Nat) (f : Nat → Nat → Nat) : Prop where
  lt : ∀ {i}, i < k → π i < k
  inj : ∀ {i j}, i < k → j < k → π i = π j → i = j
  led : ∀ {p i}, p < n → i < k → c' (φ p) (π i) = f i (c p i)
  iso : ∀ {i}, i < k → Iso (m i) (a i) (m' (π i)) (a' (π i)) (f i)
theorem Fa.told (F : Fa n adj d k m a c) (F' : Fa n' adj' d' k' m' a' c') (I : Iso n adj n' adj' φ) : k = k' ∧ ∃ π f, Told φ n k m a c m' a' c' π f := by
  obtain ⟨ψ, J, e1, e2⟩ := I.inv
  obtain ⟨π, hπ⟩ := F.turn F' I
  obtain ⟨π', hπ'⟩ := F'.turn F J
  have b1 : ∀ i, i < k → π' (π i) = i := fun i hi => by
    obtain ⟨u, v, h, hc⟩ := F.edge hi
    have un := F.D.lt h
    have vn := F.D.lt2 h
    have h1 := (hπ i hi).2 u v h hc
    have h2 := (hπ' (π i) (hπ i hi).1).2 _ _ ((I.tied un vn).mp h) h1
    rw [e1 u un, e1 v vn] at h2
    exact F.only h (hπ' (π i) (hπ i hi).1).1 hi h2 hc
  have b2 : ∀ i, i < k' → π (π' i) = i := fun i hi => by
    obtain ⟨u, v, h, hc⟩ := F'.edge hi
    have un := F'.D.lt h
    have vn := F'.D.lt2 h
    have h1 := (hπ' i hi).2 u v h hc
    have h2 := (hπ (π' i) (hπ' i hi).1).2 _ _ ((J.tied un vn).mp h) h1
    rw [e2 u un, e2 v vn] at h2
    exact F'.only h (hπ (π' i) (hπ' i hi).1).1 hi h2 hc
  have inj : ∀ i j, i < k → j < k → π i = π j → i = j := fun i j hi hj e => by rw [← b1 i hi, e, b1 j hj]
  have ek : k = k' := Nat.le_antisymm (pig (fun i hi => (hπ i hi).1) inj) (pig (fun i hi => (hπ' i hi).1) fun i j hi hj e => by rw [← b2 i hi, e, b2 j hj])
  have dep : ∀ {p q i}, p < n → q < n → i < k → c p i = c q i → c' (φ p) (π i) = c' (φ q) (π i) := fun {p q i} hp hq hi e => by
    refine F.along (R := fun u => c' (φ p) (π i) = c' (φ u) (π i)) i hq (fun u v h hc hr => hr.trans ?_) hp (fun _ => e) rfl
    refine Classical.byContradiction fun z => ?_
    have hc := hc hi
    obtain ⟨j, hj, hjc, _⟩ := F.dir h
    have h1 := (hπ j hj).2 u v h hjc
    have e3 := F'.only ((I.tied (F.D.lt h) (F.D.lt2 h)).mp h) (hπ j hj).1 (hπ i hi).1 h1 z
    have := inj j i hj hi e3
    subst this
    exact hjc hc
  have pt : ∀ i x, ∃ p, i < k → x < m i → p < n ∧ c p i = x := fun i x => by
    by_cases hi : i < k
    · by_cases hx : x < m i
      · obtain ⟨p, hp, e⟩ := F.sur (fun j => if j = i then x else 0) fun j hj => by
          show (if j = i then x else 0) < m j
          split
          · rename_i z; rw [z]; exact hx
          · have := F.two hj; omega
        exact ⟨p, fun _ _ => ⟨hp, by simpa using e i hi⟩⟩
      · exact ⟨0, fun _ z => absurd z hx⟩
    · exact ⟨0, fun z => absurd z hi⟩
  generalize hpt : (fun i x => (pt i x).choose) = pp
  have hpp : ∀ i x, i < k → x < m i → pp i x < n ∧ c (pp i x) i = x := fun i x h1 h2 => by
    rw [← hpt]
    exact (pt i x).choose_spec h1 h2
  have led : ∀ {p i}, p < n → i < k → c' (φ p) (π i) = c' (φ (pp i (c p i))) (π i) := fun {p i} hp hi => by
    have h := hpp i (c p i) hi (F.lt hp hi)
    exact dep hp h.1 hi h.2.symm
  refine ⟨ek, π, fun i x => c' (φ (pp i x)) (π i), ⟨fun {i} hi => by rw [ek]; exact (hπ i hi).1, fun {i j} => inj i j, led, fun {i} hi => ?_⟩⟩
  have hm : ∀ {x y}, x < m i → y < m i → ∃ p q, p < n ∧ q < n ∧ c p i = x ∧ c q i = y ∧ (∀ j, j < k → j ≠ i → c p j = c q j) ∧ ∀ j, j < k' → j ≠ π i → c' (φ p) j = c' (φ q) j := fun {x y} hx hy => by
    obtain ⟨h1, h2⟩ := hpp i x hi hx
    obtain ⟨q, hq, h3, h4⟩ := F.change h1 hi hy
    refine ⟨_, q, h1, hq, h2, h3, fun j hj hne => (h4 j hj hne).symm, fun j hj hne => ?_⟩
    have h5 := dep hq h1 (hπ' j hj).1 (h4 (π' j) (hπ' j hj).1 fun z => hne (by rw [← z, b2 j hj]))
    rw [b2 j hj] at h5
    exact h5.symm
  refine ⟨fun {x} hx => F'.lt (I.lt (hpp i x hi hx).1) (hπ i hi).1, fun {x y} hx hy e => ?_, fun {y} hy => ?_, fun {x y} hx hy => ?_⟩
  · obtain ⟨p, q, hp, hq, g1, g2, g3, g4⟩ := hm hx hy
    have e3 := led hp hi
    have e4 := led hq hi
    rw [g1] at e3
    rw [g2] at e4
    have : φ p = φ q := F'.inj (I.lt hp) (I.lt hq) fun j hj => by
      by_cases z : j = π i
      · rw [z, e3, e4]; exact e
      · exact g4 j hj z
    rw [← g1, ← g2, I.inj hp hq this]
  · obtain ⟨h1, h2⟩ := hpp i 0 hi (by have := F.two hi; omega)
    obtain ⟨q', hq', h3, h4⟩ := F'.change (I.lt h1) (hπ i hi).1 hy
    obtain ⟨q, hq, e⟩ := I.sur hq'
    refine ⟨c q i, F.lt hq hi, ?_⟩
    have := led hq hi
    rw [e, h3] at this
    exact this.symm
  · obtain ⟨p, q, hp, hq, g1, g2, g3, g4⟩ := hm hx hy
    have e3 := led hp hi
    have e4 := led hq hi
    have t1 := F.tied1 hp hq hi g3
    have t2 := F'.tied1 (I.lt hp) (I.lt hq) (hπ i hi).1 g4
    rw [g1, g2] at t1
    rw [e3, e4, g1, g2] at t2
    rw [← t1, I.tied hp hq]
    exact t2
/-- and back: factors led one by one -/
theorem Fa.join (F : Fa n adj d k m a c) (F' : Fa n' adj' d' k m' a' c') {π : Nat → Nat} {f : Nat → Nat → Nat} (hlt : ∀ p, p < n → φ p < n') (T : Told φ n k m a c m' a' c' π f) : Iso n adj n' adj' φ := by
  have sur : ∀ {j}, j < k → ∃ i, i < k ∧ π i = j := fun {j} hj => pigSur (fun i hi => T.lt hi) (fun i j hi hj e => T.inj hi hj e) hj
  refine ⟨fun {p} hp => hlt p hp, fun {p q} hp hq e => F.inj hp hq fun i hi => ?_, fun {q} hq => ?_, fun {p q} hp hq => ?_⟩
  · refine (T.iso hi).inj (F.lt hp hi) (F.lt hq hi) ?_
    rw [← T.led hp hi, ← T.led hq hi, e]
  · have : ∀ i, ∃ x, i < k → x < m i ∧ f i x = c' q (π i) := fun i => by
      by_cases hi : i < k
      · obtain ⟨x, hx, e⟩ := (T.iso hi).sur (F'.lt hq (T.lt hi))
        exact ⟨x, fun _ => ⟨hx, e⟩⟩
      · exact ⟨0, fun z => absurd z hi⟩
    obtain ⟨p, hp, e⟩ := F.sur (fun i => (this i).choose) fun i hi => ((this i).choose_spec hi).1
    refine ⟨p, hp, F'.inj (hlt p hp) hq fun j hj => ?_⟩
    obtain ⟨i, hi, ej⟩ := sur hj
    subst ej
    rw [T.led hp hi, e i hi]
    exact ((this i).choose_spec hi).2
  · rw [F.tied hp hq, F'.tied (hlt p hp) (hlt q hq)]
    constructor
    · intro ⟨i, hi, h1, h2⟩
      refine ⟨π i, T.lt hi, ?_, fun j hj hne => ?_⟩
      · rw [T.led hp hi, T.led hq hi]
        exact ((T.iso hi).tied (F.lt hp hi) (F.lt hq hi)).mp h1
      · obtain ⟨l, hl, ej⟩ := sur hj
        subst ej
        rw [T.led hp hl, T.led hq hl, h2 l hl fun z => hne (by rw [z])]
    · intro ⟨j, hj, h1, h2⟩
      obtain ⟨i, hi, ej⟩ := sur hj
      subst ej
      refine ⟨i, hi, ?_, fun l hl hne => ?_⟩
      · rw [T.led hp hi, T.led hq hi] at h1
        exact ((T.iso hi).tied (F.lt hp hi) (F.lt hq hi)).mpr h1
      · have h3 := h2 (π l) (T.lt hl) fun z => hne (T.inj hl hi z)
        rw [T.led hp hl, T.led hq hl] at h3
        exact (T.iso hl).inj (F.lt hp hl) (F.lt hq hl) h3
end
end A

/-! Layers and gates factor a graph; products of factored graphs. -/
namespace A
section
variable {n : Nat} {adj : Nat → Nat → Prop} {d : Nat → Nat → Nat} {α : Type} {lab : Nat → Nat → α}
theorem Via.of {P : α → Prop} {u v : Nat} (h : ∀ u v, adj u v → P (lab u v)) {Q : α → Prop} (a : Via adj lab Q u v) : Via adj lab P u v := by
  induction a with
  | nil => exact .nil
  | step _ e _ ih => exact .step ih e (h _ _ e)
theorem Clo.carryAll (D : Dist n adj d) (C : Clo n adj d lab) {l : α} {u v p : Nat} (h1 : Via adj lab (· = l) u v) (h2 : Via adj lab (· ≠ l) u p) : ∃ q, Via adj lab (· = l) p q ∧ Via adj lab (· ≠ l) v q := by
  induction h1 with
  | nil => exact ⟨p, .nil, h2⟩
  | step _ hab e ih =>
    obtain ⟨q, g1, g2⟩ := ih
    obtain ⟨z, q1, q2, q3⟩ := C.carry D hab e g2
    exact ⟨z, g1.step q1 q2, q3⟩
/-- layers through 0 and gates in them -/
structure Lay (n : Nat) (adj : Nat → Nat → Prop) (d : Nat → Nat → Nat) (lab : Nat → Nat → α) (k : Nat) (ℓ : Nat → α) (m : Nat → Nat) (L : Nat → Nat → Nat) (a : Nat → Nat → Nat → Prop) (c : Nat → Nat → Nat) : Prop where
  D : Dist n adj d
  C : Clo n adj d lab
  pos : 0 < n
  conn : ∀ p, p < n → Via adj lab (fun _ => True) 0 p
  inL : ∀ {i x}, i < k → x < m i → Via adj lab (· = ℓ i) 0 (L i x)
  injL : ∀ {i x y}, i < k → x < m i → y < m i → L i x = L i y → x = y
  surL : ∀ {i q}, i < k → Via adj lab (· = ℓ i) 0 q → ∃ x, x < m i ∧ L i x = q
  ha : ∀ {i x y}, i < k → (a i x y ↔ x < m i ∧ y < m i ∧ adj (L i x) (L i y))
  hc : ∀ {p i}, p < n → i < k → c p i < m i ∧ Via adj lab (· ≠ ℓ i) p (L i (c p i))
  fine : ∀ mu : Nat → Nat → Nat, Clo n adj d mu → ∀ {u v x y}, adj u v → adj x y → lab u v = lab x y → mu u v = mu x y
  cov : ∀ {u v}, adj u v → ∃ i, i < k ∧ lab u v = ℓ i
  non : ∀ {i}, i < k → ∃ u v, adj u v ∧ lab u v = ℓ i
  linj : ∀ {i j}, i < k → j < k → ℓ i = ℓ j → i = j
variable {k : Nat} {ℓ : Nat → α} {m : Nat → Nat} {L : Nat → Nat → Nat} {a : Nat → Nat → Nat → Prop} {c : Nat → Nat → Nat}
theorem Lay.Llt (Y : Lay n adj d lab k ℓ m L a c) {i x : Nat} (hi : i < k) (hx : x < m i) : L i x < n := (Y.inL hi hx).lt Y.D Y.pos
theorem Lay.meet (Y : Lay n adj d lab k ℓ m L a c) {i x y : Nat} (hi : i < k) (hx : x < m i) (hy : y < m i) (h : Via adj lab (· ≠ ℓ i) (L i x) (L i y)) : x = y :=
  Y.injL hi hx hy (Y.C.meet Y.D (Y.Llt hi hx) h (((Y.inL hi hx).back Y.D Y.C).trans (Y.inL hi hy)))
theorem Lay.eqc (Y : Lay n adj d lab k ℓ m L a c) {i p q : Nat} (hi : i < k) (hp : p < n) (hq : q < n) (h : Via adj lab (· ≠ ℓ i) p q) : c p i = c q i := by
  obtain ⟨h1, h2⟩ := Y.hc hp hi
  obtain ⟨h3, h4⟩ := Y.hc hq hi
  exact Y.meet hi h1 h3 ((h2.back Y.D Y.C).trans (h.trans h4))
theorem Lay.viaOf (Y : Lay n adj d lab k ℓ m L a c) {i p q : Nat} (hi : i < k) (hp : p < n) (hq : q < n) (h : c p i = c q i) : Via adj lab (· ≠ ℓ i) p q := by
  obtain ⟨h1, h2⟩ := Y.hc hp hi
  obtain ⟨h3, h4⟩ := Y.hc hq hi
  rw [← h] at h4
  exact h2.trans (h4.back Y.D Y.C)
theorem Lay.gate (Y : Lay n adj d lab k ℓ m L a c) {i p x : Nat} (hi : i < k) (hp : p < n) (hx : x < m i) (h : Via adj lab (· ≠ ℓ i) (L i x) p) : c p i = x := by
  obtain ⟨h1, h2⟩ := Y.hc hp hi
  exact (Y.meet hi hx h1 (h.trans h2)).symm
theorem Lay.inj (Y : Lay n adj d lab k ℓ m L a c) {p q : Nat} (hp : p < n) (hq : q < n) (h : ∀ i, i < k → c p i = c q i) : p = q := by
  refine Y.C.same Y.D hp hq fun l => ?_
  by_cases e : ∃ i, i < k ∧ l = ℓ i
  · obtain ⟨i, hi, rfl⟩ := e
    exact Y.viaOf hi hp hq (h i hi)
  · refine Via.of (Q := fun _ => True) (fun u v huv z => ?_) (((Y.conn p hp).back Y.D Y.C).trans (Y.conn q hq))
    obtain ⟨i, hi, e2⟩ := Y.cov huv
    exact e ⟨i, hi, z.symm.trans e2⟩
theorem Lay.stay (Y : Lay n adj d lab k ℓ m L a c) {p q i j : Nat} (h : adj p q) (hj : j < k) (hl : lab p q = ℓ i) (hi : i < k) (hne : j ≠ i) : c p j = c q j :=
  Y.eqc hj (Y.D.lt h) (Y.D.lt2 h) (Via.one h fun e => hne (Y.linj hj hi (e.symm.trans hl)))
theorem Lay.move (Y : Lay n adj d lab k ℓ m L a c) {p q i : Nat} (h : adj p q) (hi : i < k) (hl : lab p q = ℓ i) : c p i ≠ c q i ∧ adj (L i (c p i)) (L i (c q i)) := by
  have hp := Y.D.lt h
  have hq := Y.D.lt2 h
  constructor
  · intro e
    have := Y.C.meet Y.D hp (Y.viaOf hi hp hq e) (Via.one h hl)
    subst this
    exact Y.D.irr h
  · obtain ⟨h1, h2⟩ := Y.hc hp hi
    obtain ⟨y, g1, g2, g3⟩ := Y.C.carry Y.D h hl h2
    obtain ⟨x, hx, e⟩ := Y.surL hi ((Y.inL hi h1).step g1 g2)
    subst e
    rw [Y.gate hi hq hx (g3.back Y.D Y.C)]
    exact g1
theorem Lay.change (Y : Lay n adj d lab k ℓ m L a c) {p i x : Nat} (hp : p < n) (hi : i < k) (hx : x < m i) : ∃ q, q < n ∧ c q i = x ∧ ∀ j, j < k → j ≠ i → c q j = c p j := by
  obtain ⟨h1, h2⟩ := Y.hc hp hi
  obtain ⟨q, g1, g2⟩ := Y.C.carryAll Y.D (((Y.inL hi h1).back Y.D Y.C).trans (Y.inL hi hx)) (h2.back Y.D Y.C)
  have hq := g1.lt Y.D hp
  refine ⟨q, hq, Y.gate hi hq hx g2, fun j hj hne => (Y.eqc hj hp hq (g1.mono fun l (e : l = ℓ i) (z : l = ℓ j) => hne (Y.linj hj hi (z.symm.trans e)))).symm⟩
theorem Lay.dist (Y : Lay n adj d lab k ℓ m L a c) {i : Nat} (hi : i < k) : Dist (m i) (a i) fun x y => d (L i x) (L i y) := by
  refine ⟨fun h => ((Y.ha hi).mp h).1, fun h => ?_, fun h => Y.D.irr ((Y.ha hi).mp h).2.2, fun h => Y.D.zero (Y.Llt hi h), fun h1 h2 => Y.D.sym (Y.Llt hi h1) (Y.Llt hi h2), fun h hx => Y.D.lip ((Y.ha hi).mp h).2.2 (Y.Llt hi hx), fun {u v} hu hv hne => ?_⟩
  · obtain ⟨h1, h2, h3⟩ := (Y.ha hi).mp h
    exact (Y.ha hi).mpr ⟨h2, h1, Y.D.asym h3⟩
  · have lu := Y.Llt hi hu
    have lv := Y.Llt hi hv
    obtain ⟨w, h1, h2⟩ := Y.D.desc lu lv fun e => hne (Y.injL hi hu hv e)
    have hw : lab (L i u) w = ℓ i := Classical.byContradiction fun z => by
      have p : Via adj lab (· = ℓ i) (L i u) (L i v) := ((Y.inL hi hu).back Y.D Y.C).trans (Y.inL hi hv)
      have := Y.C.keep Y.D h1 rfl lu (p.mono fun l (e : l = ℓ i) (z2 : l = lab (L i u) w) => z (z2.symm.trans e))
      rw [Y.D.zero lu, Y.D.sym (Y.D.lt2 h1) lu, Y.D.one h1] at this
      omega
    obtain ⟨x, hx, e⟩ := Y.surL hi ((Y.inL hi hu).step h1 hw)
    subst e
    exact ⟨x, (Y.ha hi).mpr ⟨hu, hx, h1⟩, h2⟩
theorem Lay.fa (Y : Lay n adj d lab k ℓ m L a c) : Fa n adj d k m a c := by
  refine ⟨Y.D, fun hp hi => (Y.hc hp hi).1, fun {i} hi => ?_, Y.inj, fun x hx => ?_, fun {p q} hp hq => ?_, fun i hi => ⟨_, Y.dist hi⟩, fun mu C {u v x y i} h1 h2 hi c1 c2 => ?_⟩
  · obtain ⟨u, v, h, e⟩ := Y.non hi
    have h1 := (Y.move h hi e).1
    have h2 := (Y.hc (Y.D.lt h) hi).1
    have h3 := (Y.hc (Y.D.lt2 h) hi).1
    omega
  · have : ∀ j, j ≤ k → ∃ p, p < n ∧ ∀ i, i < j → c p i = x i := by
      intro j
      induction j with
      | zero => exact fun _ => ⟨0, Y.pos, fun i hi => by omega⟩
      | succ j ih =>
        intro hj
        obtain ⟨p, hp, e⟩ := ih (by omega)
        obtain ⟨q, hq, e1, e2⟩ := Y.change hp hj (hx j hj)
        refine ⟨q, hq, fun i hi => ?_⟩
        by_cases z : i = j
        · rw [z]; exact e1
        · rw [e2 i (by omega) z]
          exact e i (by omega)
    exact this k (Nat.le_refl _)
  · constructor
    · intro h
      obtain ⟨i, hi, e⟩ := Y.cov h
      have h1 := Y.move h hi e
      exact ⟨i, hi, (Y.ha hi).mpr ⟨(Y.hc hp hi).1, (Y.hc hq hi).1, h1.2⟩, fun j hj hne => Y.stay h hj e hi hne⟩
    · intro ⟨i, hi, h1, h2⟩
      obtain ⟨m1, m2, h3⟩ := (Y.ha hi).mp h1
      have hl := Y.C.inner Y.D h3 (((Y.inL hi m1).back Y.D Y.C).trans (Y.inL hi m2))
      obtain ⟨y, g1, g2, g3⟩ := Y.C.carry Y.D h3 hl ((Y.hc hp hi).2.back Y.D Y.C)
      have hy := Y.D.lt2 g1
      have : y = q := Y.inj hy hq fun j hj => by
        by_cases z : j = i
        · rw [z]
          exact Y.gate hi hy m2 g3
        · rw [← Y.stay g1 hj g2 hi z, h2 j hj z]
      subst this
      exact g1
  · have g : ∀ {u v}, adj u v → c u i ≠ c v i → lab u v = ℓ i := fun {u v} h hc => by
      obtain ⟨j, hj, e⟩ := Y.cov h
      by_cases z : i = j
      · rw [z]; exact e
      · exact absurd (Y.stay h hi e hj z) hc
    exact Y.fine mu C h1 h2 ((g h1 c1).trans (g h2 c2).symm)
end
section
variable {n : Nat} {adj : Nat → Nat → Prop} {d d' : Nat → Nat → Nat} {k : Nat} {m : Nat → Nat} {a : Nat → Nat → Nat → Prop} {c : Nat → Nat → Nat}
theorem Clo.other {α : Type} {mu : Nat → Nat → α} (D : Dist n adj d) (D' : Dist n adj d') (C : Clo n adj d mu) : Clo n adj d' mu :=
  ⟨C.sym, fun {u v x y} h1 h2 hne => C.theta h1 h2 (by
    rw [D.uniq D' (D.lt h1) (D.lt h2), D.uniq D' (D.lt2 h1) (D.lt2 h2), D.uniq D' (D.lt h1) (D.lt2 h2), D.uniq D' (D.lt2 h1) (D.lt h2)]
    exact hne), C.tau⟩
theorem Fa.other (F : Fa n adj d k m a c) (D' : Dist n adj d') : Fa n adj d' k m a c :=
  ⟨D', F.lt, F.two, F.inj, F.sur, F.tied, F.dist, fun mu C => F.fine mu (C.other D' F.D)⟩
end
/-- a product, by its places' parts -/
structure Pr (n : Nat) (adj : Nat → Nat → Prop) (n1 : Nat) (adj1 : Nat → Nat → Prop) (n2 : Nat) (adj2 : Nat → Nat → Prop) (fs sn : Nat → Nat) (pr : Nat → Nat → Nat) : Prop where
  lt : ∀ {p q}, adj p q → p < n ∧ q < n
  f : ∀ {p}, p < n → fs p < n1
  s : ∀ {p}, p < n → sn p < n2
  p : ∀ {x y}, x < n1 → y < n2 → pr x y < n
  fp : ∀ {x y}, x < n1 → y < n2 → fs (pr x y) = x
  sp : ∀ {x y}, x < n1 → y < n2 → sn (pr x y) = y
  pp : ∀ {q}, q < n → pr (fs q) (sn q) = q
  adj : ∀ {p q}, p < n → q < n → (adj p q ↔ (sn p = sn q ∧ adj1 (fs p) (fs q)) ∨ (fs p = fs q ∧ adj2 (sn p) (sn q)))
section
variable {n : Nat} {adj : Nat → Nat → Prop} {n1 : Nat} {adj1 : Nat → Nat → Prop} {n2 : Nat} {adj2 : Nat → Nat → Prop} {fs sn : Nat → Nat} {pr : Nat → Nat → Nat} {d d1 d2 : Nat → Nat → Nat}
theorem Pr.swap (P : Pr n adj n1 adj1 n2 adj2 fs sn pr) : Pr n adj n2 adj2 n1 adj1 sn fs fun x y => pr y x :=
  ⟨P.lt, P.s, P.f, fun h1 h2 => P.p h2 h1, fun h1 h2 => P.sp h2 h1, fun h1 h2 => P.fp h2 h1, P.pp, fun hp hq => (P.adj hp hq).trans Or.comm⟩
theorem Pr.eq (P : Pr n adj n1 adj1 n2 adj2 fs sn pr) {p q : Nat} (hp : p < n) (hq : q < n) (h1 : fs p = fs q) (h2 : sn p = sn q) : p = q := by
  rw [← P.pp hp, h1, h2, P.pp hq]
theorem Pr.dist (P : Pr n adj n1 adj1 n2 adj2 fs sn pr) (D1 : Dist n1 adj1 d1) (D2 : Dist n2 adj2 d2) : Dist n adj fun p q => d1 (fs p) (fs q) + d2 (sn p) (sn q) := by
  refine ⟨fun h => (P.lt h).1, fun {u v} h => ?_, fun {u} h => ?_, fun {u} h => ?_, fun {u v} hu hv => ?_, fun {u v x} h hx => ?_, fun {u v} hu hv hne => ?_⟩
  · obtain ⟨hu, hv⟩ := P.lt h
    rcases (P.adj hu hv).mp h with ⟨e, h⟩ | ⟨e, h⟩
    · exact (P.adj hv hu).mpr (.inl ⟨e.symm, D1.asym h⟩)
    · exact (P.adj hv hu).mpr (.inr ⟨e.symm, D2.asym h⟩)
  · obtain ⟨hu, _⟩ := P.lt h
    rcases (P.adj hu hu).mp h with ⟨e, h⟩ | ⟨e, h⟩
    · exact D1.irr h
    · exact D2.irr h
  · rw [D1.zero (P.f h), D2.zero (P.s h)]
  · rw [D1.sym (P.f hu) (P.f hv), D2.sym (P.s hu) (P.s hv)]
  · obtain ⟨hu, hv⟩ := P.lt h
    rcases (P.adj hu hv).mp h with ⟨e, h⟩ | ⟨e, h⟩
    · have := D1.lip h (P.f hx)
      rw [e]
      omega
    · have := D2.lip h (P.s hx)
      rw [e]
      omega
  · by_cases c : fs u = fs v
    · have c2 : sn u ≠ sn v := fun z => hne (P.eq hu hv c z)
      obtain ⟨w, h1, h2⟩ := D2.desc (P.s hu) (P.s hv) c2
      have hw := P.p (P.f hu) (D2.lt2 h1)
      refine ⟨_, (P.adj hu hw).mpr (.inr ⟨(P.fp (P.f hu) (D2.lt2 h1)).symm, ?_⟩), ?_⟩
      · rw [P.sp (P.f hu) (D2.lt2 h1)]; exact h1
      · rw [P.sp (P.f hu) (D2.lt2 h1), P.fp (P.f hu) (D2.lt2 h1)]; omega
    · obtain ⟨w, h1, h2⟩ := D1.desc (P.f hu) (P.f hv) c
      have hw := P.p (D1.lt2 h1) (P.s hu)
      refine ⟨_, (P.adj hu hw).mpr (.inl ⟨(P.sp (D1.lt2 h1) (P.s hu)).symm, ?_⟩), ?_⟩
      · rw [P.fp (D1.lt2 h1) (P.s hu)]; exact h1
      · rw [P.sp (D1.lt2 h1) (P.s hu), P.fp (D1.lt2 h1) (P.s hu)]; omega
variable {k1 : Nat} {m1 : Nat → Nat} {a1 : Nat → Nat → Nat → Prop} {c1 : Nat → Nat → Nat} {k2 : Nat} {m2 : Nat → Nat} {a2 : Nat → Nat → Nat → Prop} {c2 : Nat → Nat → Nat}
theorem Pr.fine (P : Pr n adj n1 adj1 n2 adj2 fs sn pr) (F1 : Fa n1 adj1 d1 k1 m1 a1 c1) (F2 : Fa n2 adj2 d2 k2 m2 a2 c2) (hd : ∀ p q, d p q = d1 (fs p) (fs q) + d2 (sn p) (sn q)) {mu : Nat → Nat → Nat} (C : Clo n adj d mu)
    {u v x y i : Nat} (huv : adj u v) (hxy : adj x y) (hi : i < k1) (hc1 : c1 (fs u) i ≠ c1 (fs v) i) (hc2 : c1 (fs x) i ≠ c1 (fs y) i) : mu u v = mu x y := by
  have lay : ∀ {h}, h < n2 → Clo n1 adj1 d1 fun s t => mu (pr s h) (pr t h) := fun {h} hh => by
    have t : ∀ {s t}, adj1 s t → adj (pr s h) (pr t h) := fun {s t} e => by
      have hs := F1.D.lt e
      have ht := F1.D.lt2 e
      refine (P.adj (P.p hs hh) (P.p ht hh)).mpr (.inl ⟨?_, ?_⟩)
      · rw [P.sp hs hh, P.sp ht hh]
      · rw [P.fp hs hh, P.fp ht hh]; exact e
    have dd : ∀ {s t}, s < n1 → t < n1 → d (pr s h) (pr t h) = d1 s t := fun {s t} hs ht => by
      rw [hd, P.fp hs hh, P.fp ht hh, P.sp hs hh, P.sp ht hh, F2.D.zero hh, Nat.add_zero]
    refine ⟨fun e => C.sym (t e), fun {u v x y} e1 e2 hne => C.theta (t e1) (t e2) ?_, fun {x u v} e1 e2 hne hl => ?_⟩
    · rw [dd (F1.D.lt e1) (F1.D.lt e2), dd (F1.D.lt2 e1) (F1.D.lt2 e2), dd (F1.D.lt e1) (F1.D.lt2 e2), dd (F1.D.lt2 e1) (F1.D.lt e2)]
      exact hne
    · have un := F1.D.lt2 e1
      have vn := F1.D.lt2 e2
      obtain ⟨w, g1, g2, g3⟩ := C.tau (t e1) (t e2) (fun z => hne (by
        rw [← P.fp un hh, z, P.fp vn hh])) hl
      have hw := (P.lt g2).1
      have q2 := (P.adj hw (P.p un hh)).mp g2
      have q3 := (P.adj hw (P.p vn hh)).mp g3
      rw [P.sp un hh, P.fp un hh] at q2
      rw [P.sp vn hh, P.fp vn hh] at q3
      have key : sn w = h ∧ adj1 (fs w) u ∧ adj1 (fs w) v := by
        rcases q2 with ⟨s1, q2⟩ | ⟨s1, q2⟩
        · rcases q3 with ⟨s2, q3⟩ | ⟨s2, q3⟩
          · exact ⟨s1, q2, q3⟩
          · rw [s1] at q3
            exact absurd q3 F2.D.irr
        · rcases q3 with ⟨s2, q3⟩ | ⟨s2, q3⟩
          · rw [s2] at q2
            exact absurd q2 F2.D.irr
          · exact absurd (s1.symm.trans s2) hne
      exact ⟨fs w, fun z => g1 (by rw [← z, ← key.1, P.pp hw]), key.2⟩
  have ed : ∀ {u v}, adj u v → c1 (fs u) i ≠ c1 (fs v) i → u < n ∧ v < n ∧ sn u = sn v ∧ adj1 (fs u) (fs v) := fun {u v} h hc => by
    obtain ⟨hu, hv⟩ := P.lt h
    rcases (P.adj hu hv).mp h with ⟨e, h⟩ | ⟨e, h⟩
    · exact ⟨hu, hv, e, h⟩
    · rw [e] at hc
      exact absurd rfl hc
  obtain ⟨hu, hv, s1, b1⟩ := ed huv hc1
  obtain ⟨hx, hy, s2, b2⟩ := ed hxy hc2
  have st1 := F1.fine _ (lay (P.s hu)) b1 b2 hi hc1 hc2
  have st2 : mu (pr (fs x) (sn u)) (pr (fs y) (sn u)) = mu (pr (fs x) (sn x)) (pr (fs y) (sn x)) := by
    refine F2.along (R := fun h => mu (pr (fs x) (sn u)) (pr (fs y) (sn u)) = mu (pr (fs x) h) (pr (fs y) h)) k2 (P.s hx) (fun s t hst _ hr => hr.trans ?_) (P.s hu) (fun z => absurd z (Nat.lt_irrefl _)) rfl
    have hs := F2.D.lt hst
    have ht := F2.D.lt2 hst
    have fx := P.f hx
    have fy := P.f hy
    have e1 : ∀ {h}, h < n2 → adj (pr (fs x) h) (pr (fs y) h) := fun {h} hh => by
      refine (P.adj (P.p fx hh) (P.p fy hh)).mpr (.inl ⟨?_, ?_⟩)
      · rw [P.sp fx hh, P.sp fy hh]
      · rw [P.fp fx hh, P.fp fy hh]; exact b2
    refine C.theta (e1 hs) (e1 ht) ?_
    rw [hd, hd, hd, hd]
    rw [P.fp fx hs, P.fp fx ht, P.fp fy hs, P.fp fy ht, P.sp fx hs, P.sp fx ht, P.sp fy hs, P.sp fy ht, F1.D.zero fx, F1.D.zero fy, F1.D.one b2, F1.D.sym fy fx, F1.D.one b2]
    omega
  have r1 : mu u v = mu (pr (fs u) (sn u)) (pr (fs v) (sn u)) := by
    rw [P.pp hu, show pr (fs v) (sn u) = v from by rw [s1]; exact P.pp hv]
  have r2 : mu x y = mu (pr (fs x) (sn x)) (pr (fs y) (sn x)) := by
    rw [P.pp hx, show pr (fs y) (sn x) = y from by rw [s2]; exact P.pp hy]
  rw [r1, r2, ← st2]
  exact st1
def catN {β : Type} (k : Nat) (f g : Nat → β) : Nat → β := fun i => if i < k then f i else g (i - k)
theorem catN_l {β : Type} {k i : Nat} (f g : Nat → β) (h : i < k) : catN k f g i = f i := if_pos h
theorem catN_r {β : Type} {k i : Nat} (f g : Nat → β) (h : k ≤ i) : catN k f g i = g (i - k) := if_neg (by omega)
theorem catN_r' {β : Type} {k i : Nat} (f g : Nat → β) : catN k f g (k + i) = g i := by
  rw [catN_r f g (by omega)]
  congr 1
  omega
theorem Pr.fa (P : Pr n adj n1 adj1 n2 adj2 fs sn pr) (F1 : Fa n1 adj1 d1 k1 m1 a1 c1) (F2 : Fa n2 adj2 d2 k2 m2 a2 c2) :
    Fa n adj (fun p q => d1 (fs p) (fs q) + d2 (sn p) (sn q)) (k1 + k2) (catN k1 m1 m2) (catN k1 a1 a2) fun p => catN k1 (c1 (fs p)) (c2 (sn p)) := by
  have cases : ∀ {i}, i < k1 + k2 → i < k1 ∨ ∃ j, j < k2 ∧ i = k1 + j := fun {i} h => by
    by_cases c : i < k1
    · exact .inl c
    · exact .inr ⟨i - k1, by omega, by omega⟩
  have D := P.dist F1.D F2.D
  refine ⟨D, fun {p i} hp hi => ?_, fun {i} hi => ?_, fun {p q} hp hq h => ?_, fun x hx => ?_, fun {p q} hp hq => ?_, fun i hi => ?_, fun mu C {u v x y i} h1 h2 hi e1 e2 => ?_⟩
  · rcases cases hi with h | ⟨j, hj, rfl⟩
    · simp only [catN_l _ _ h]
      exact F1.lt (P.f hp) h
    · simp only [catN_r']
      exact F2.lt (P.s hp) hj
  · rcases cases hi with h | ⟨j, hj, rfl⟩
    · rw [catN_l _ _ h]
      exact F1.two h
    · rw [catN_r']
      exact F2.two hj
  · refine P.eq hp hq (F1.inj (P.f hp) (P.f hq) fun i hi => ?_) (F2.inj (P.s hp) (P.s hq) fun i hi => ?_)
    · have := h i (by omega)
      simp only [catN_l _ _ hi] at this
      exact this
    · have := h (k1 + i) (by omega)
      simp only [catN_r'] at this
      exact this
  · obtain ⟨p, hp, e1⟩ := F1.sur x fun i hi => by
      have := hx i (by omega)
      rwa [catN_l _ _ hi] at this
    obtain ⟨q, hq, e2⟩ := F2.sur (fun i => x (k1 + i)) fun i hi => by
      have := hx (k1 + i) (by omega)
      rwa [catN_r'] at this
    refine ⟨pr p q, P.p hp hq, fun i hi => ?_⟩
    simp only [P.fp hp hq, P.sp hp hq]
    rcases cases hi with h | ⟨j, hj, rfl⟩
    · rw [catN_l _ _ h]
      exact e1 i h
    · rw [catN_r']
      exact e2 j hj
  · rw [P.adj hp hq]
    constructor
    · rintro (⟨e, h⟩ | ⟨e, h⟩)
      · obtain ⟨i, hi, _, h1, h2⟩ := F1.dir h
        refine ⟨i, by omega, by simp only [catN_l _ _ hi]; exact h1, fun j hj hne => ?_⟩
        rcases cases hj with h | ⟨l, hl, rfl⟩
        · simp only [catN_l _ _ h]
          exact h2 j h hne
        · simp only [catN_r', e]
      · obtain ⟨i, hi, _, h1, h2⟩ := F2.dir h
        refine ⟨k1 + i, by omega, by simp only [catN_r']; exact h1, fun j hj hne => ?_⟩
        rcases cases hj with h | ⟨l, hl, rfl⟩
        · simp only [catN_l _ _ h, e]
        · simp only [catN_r']
          exact h2 l hl (by omega)
    · intro ⟨i, hi, h1, h2⟩
      rcases cases hi with h | ⟨j, hj, rfl⟩
      · simp only [catN_l _ _ h] at h1
        refine .inl ⟨F2.inj (P.s hp) (P.s hq) fun l hl => ?_, (F1.tied (P.f hp) (P.f hq)).mpr ⟨i, h, h1, fun l hl hne => ?_⟩⟩
        · have := h2 (k1 + l) (by omega) (by omega)
          simp only [catN_r'] at this
          exact this
        · have := h2 l (by omega) hne
          simp only [catN_l _ _ hl] at this
          exact this
      · simp only [catN_r'] at h1
        refine .inr ⟨F1.inj (P.f hp) (P.f hq) fun l hl => ?_, (F2.tied (P.s hp) (P.s hq)).mpr ⟨j, hj, h1, fun l hl hne => ?_⟩⟩
        · have := h2 l (by omega) (by omega)
          simp only [catN_l _ _ hl] at this
          exact this
        · have := h2 (k1 + l) (by omega) (by omega)
          simp only [catN_r'] at this
          exact this
  · rcases cases hi with h | ⟨j, hj, rfl⟩
    · simp only [catN_l _ _ h]
      exact F1.dist i h
    · simp only [catN_r']
      exact F2.dist j hj
  · rcases cases hi with h | ⟨j, hj, rfl⟩
    · simp only [catN_l _ _ h] at e1 e2
      exact P.fine F1 F2 (fun _ _ => rfl) C h1 h2 h e1 e2
    · simp only [catN_r'] at e1 e2
      exact P.swap.fine F2 F1 (fun _ _ => Nat.add_comm _ _) C h1 h2 hj e1 e2
end
end A

namespace K48
open PySem PySem.Spec PyProof.Rows L2 Ty
/-! ### where each def stands -/
def topS (i : Nat) : Stmt := PySem.Challenge.pw_webtimes_k48_whole_taken_away_and_put_ba.main.body.getD i (.Pass ⟨0, 0, 0, 0⟩)
abbrev s_is_whole : Stmt := topS 11
abbrev s_is_within : Stmt := topS 12
abbrev s_is_tie : Stmt := topS 13
abbrev s_look_at_web : Stmt := topS 14
abbrev s_is_place : Stmt := topS 15
abbrev s_tie_of : Stmt := topS 16
abbrev s_beside_all : Stmt := topS 17
abbrev s_ties_by : Stmt := topS 18
abbrev s_far_by : Stmt := topS 20
abbrev s_far_table : Stmt := topS 21
abbrev s_together : Stmt := topS 22
abbrev s_look_together : Stmt := topS 23
abbrev s_pieces_of : Stmt := topS 24
abbrev s_within_by : Stmt := topS 25
abbrev s_pieces : Stmt := topS 26
abbrev s_look_at_places : Stmt := topS 27
abbrev s_within : Stmt := topS 28
abbrev s_far_in : Stmt := topS 30
abbrev s_corner_in : Stmt := topS 31
abbrev s_hung_in : Stmt := topS 33
abbrev s_word_of : Stmt := topS 35
abbrev s_linked : Stmt := topS 36
abbrev s_classes_in : Stmt := topS 37
abbrev s_apart_of : Stmt := topS 39
abbrev s_factored_in : Stmt := topS 40
abbrev s_is_all_places : Stmt := topS 42
abbrev s_is_naming_in : Stmt := topS 43
abbrev s_lets_naming : Stmt := topS 44
abbrev s_look_at_naming : Stmt := topS 45
abbrev s_turned_back : Stmt := topS 46
abbrev s_behind : Stmt := topS 47
abbrev s_look_at_webs : Stmt := topS 50
abbrev s_places_in : Stmt := topS 51
abbrev s_ties_in : Stmt := topS 52
abbrev s_number_in : Stmt := topS 53
abbrev s_row_in : Stmt := topS 54
abbrev s_beside_by : Stmt := topS 55
abbrev s_factoring_of : Stmt := topS 57
abbrev s_places_by : Stmt := topS 58
abbrev s_unlike_at : Stmt := topS 59
abbrev s_parted_by : Stmt := topS 60
abbrev s_joined_by : Stmt := topS 61
abbrev s_fits : Stmt := topS 65
abbrev s_made_of : Stmt := topS 66
abbrev s_product : Stmt := topS 67
abbrev s_followed : Stmt := topS 69
abbrev s_cancelled : Stmt := topS 70
abbrev s_law_pool : Stmt := topS 72
abbrev s_law_take : Stmt := topS 73
abbrev s_law_web : Stmt := topS 74
abbrev s_law_many : Stmt := topS 75
abbrev s_law_rows : Stmt := topS 76
abbrev s_law_product : Stmt := topS 77
abbrev s_law_shuffled : Stmt := topS 78
abbrev s_law_renumbered : Stmt := topS 79
abbrev s_law_bases : Stmt := topS 80
abbrev s_law_dressed : Stmt := topS 81
abbrev s_law_matched : Stmt := topS 82
abbrev s_law_led : Stmt := topS 83
abbrev s_law_number : Stmt := topS 84
abbrev s_law_webs_of : Stmt := topS 85
abbrev s_law_case : Stmt := topS 86
abbrev s_law_beside : Stmt := topS 87
abbrev s_law_turned : Stmt := topS 88
abbrev s_law_right : Stmt := topS 89
abbrev s_law : Stmt := topS 90
def d_is_whole : He.DefD := ⟨("is_whole", none), "is_whole", "is_whole", defArgs s_is_whole, defBody s_is_whole, defScope s_is_whole, [], []⟩
def d_is_within : He.DefD := ⟨("is_within", none), "is_within", "is_within", defArgs s_is_within, defBody s_is_within, defScope s_is_within, [], []⟩
def d_is_tie : He.DefD := ⟨("is_tie", none), "is_tie", "is_tie", defArgs s_is_tie, defBody s_is_tie, defScope s_is_tie, [], []⟩
def d_look_at_web : He.DefD := ⟨("look_at_web", none), "look_at_web", "look_at_web", defArgs s_look_at_web, defBody s_look_at_web, defScope s_look_at_web, [], []⟩
def d_is_place : He.DefD := ⟨("is_place", none), "is_place", "is_place", defArgs s_is_place, defBody s_is_place, defScope s_is_place, [], []⟩
def d_tie_of : He.DefD := ⟨("tie_of", none), "tie_of", "tie_of", defArgs s_tie_of, defBody s_tie_of, defScope s_tie_of, [], []⟩
def d_beside_all : He.DefD := ⟨("beside_all", none), "beside_all", "beside_all", defArgs s_beside_all, defBody s_beside_all, defScope s_beside_all, [], []⟩
def d_ties_by : He.DefD := ⟨("ties_by", none), "ties_by", "ties_by", defArgs s_ties_by, defBody s_ties_by, defScope s_ties_by, [], []⟩
def d_far_by : He.DefD := ⟨("far_by", none), "far_by", "far_by", defArgs s_far_by, defBody s_far_by, defScope s_far_by, [], []⟩
def d_far_table : He.DefD := ⟨("far_table", none), "far_table", "far_table", defArgs s_far_table, defBody s_far_table, defScope s_far_table, [], []⟩
def d_together : He.DefD := ⟨("together", none), "together", "together", defArgs s_together, defBody s_together, defScope s_together, [], []⟩
def d_look_together : He.DefD := ⟨("look_together", none), "look_together", "look_together", defArgs s_look_together, defBody s_look_together, defScope s_look_together, [], []⟩
def d_pieces_of : He.DefD := ⟨("pieces_of", none), "pieces_of", "pieces_of", defArgs s_pieces_of, defBody s_pieces_of, defScope s_pieces_of, [], []⟩
def d_within_by : He.DefD := ⟨("within_by", none), "within_by", "within_by", defArgs s_within_by, defBody s_within_by, defScope s_within_by, [], []⟩
def d_pieces : He.DefD := ⟨("pieces", none), "pieces", "pieces", defArgs s_pieces, defBody s_pieces, defScope s_pieces, [], []⟩
def d_look_at_places : He.DefD := ⟨("look_at_places", none), "look_at_places", "look_at_places", defArgs s_look_at_places, defBody s_look_at_places, defScope s_look_at_places, [], []⟩
def d_within : He.DefD := ⟨("within", none), "within", "within", defArgs s_within, defBody s_within, defScope s_within, [], []⟩
def d_far_in : He.DefD := ⟨("far_in", none), "far_in", "far_in", defArgs s_far_in, defBody s_far_in, defScope s_far_in, [], []⟩
def d_corner_in : He.DefD := ⟨("corner_in", none), "corner_in", "corner_in", defArgs s_corner_in, defBody s_corner_in, defScope s_corner_in, [], []⟩
def d_hung_in : He.DefD := ⟨("hung_in", none), "hung_in", "hung_in", defArgs s_hung_in, defBody s_hung_in, defScope s_hung_in, [], []⟩
def d_word_of : He.DefD := ⟨("word_of", none), "word_of", "word_of", defArgs s_word_of, defBody s_word_of, defScope s_word_of, [], []⟩
def d_linked : He.DefD := ⟨("linked", none), "linked", "linked", defArgs s_linked, defBody s_linked, defScope s_linked, [], []⟩
def d_classes_in : He.DefD := ⟨("classes_in", none), "classes_in", "classes_in", defArgs s_classes_in, defBody s_classes_in, defScope s_classes_in, [], []⟩
def d_apart_of : He.DefD := ⟨("apart_of", none), "apart_of", "apart_of", defArgs s_apart_of, defBody s_apart_of, defScope s_apart_of, [], []⟩
def d_factored_in : He.DefD := ⟨("factored_in", none), "factored_in", "factored_in", defArgs s_factored_in, defBody s_factored_in, defScope s_factored_in, [], []⟩
def d_is_all_places : He.DefD := ⟨("is_all_places", none), "is_all_places", "is_all_places", defArgs s_is_all_places, defBody s_is_all_places, defScope s_is_all_places, [], []⟩
def d_is_naming_in : He.DefD := ⟨("is_naming_in", none), "is_naming_in", "is_naming_in", defArgs s_is_naming_in, defBody s_is_naming_in, defScope s_is_naming_in, [], []⟩
def d_lets_naming : He.DefD := ⟨("lets_naming", none), "lets_naming", "lets_naming", defArgs s_lets_naming, defBody s_lets_naming, defScope s_lets_naming, [], []⟩
def d_look_at_naming : He.DefD := ⟨("look_at_naming", none), "look_at_naming", "look_at_naming", defArgs s_look_at_naming, defBody s_look_at_naming, defScope s_look_at_naming, [], []⟩
def d_turned_back : He.DefD := ⟨("turned_back", none), "turned_back", "turned_back", defArgs s_turned_back, defBody s_turned_back, defScope s_turned_back, [], []⟩
def d_behind : He.DefD := ⟨("behind", none), "behind", "behind", defArgs s_behind, defBody s_behind, defScope s_behind, [], []⟩
def d_look_at_webs : He.DefD := ⟨("look_at_webs", none), "look_at_webs", "look_at_webs", defArgs s_look_at_webs, defBody s_look_at_webs, defScope s_look_at_webs, [], []⟩
def d_places_in : He.DefD := ⟨("places_in", none), "places_in", "places_in", defArgs s_places_in, defBody s_places_in, defScope s_places_in, [], []⟩
def d_ties_in : He.DefD := ⟨("ties_in", none), "ties_in", "ties_in", defArgs s_ties_in, defBody s_ties_in, defScope s_ties_in, [], []⟩
def d_number_in : He.DefD := ⟨("number_in", none), "number_in", "number_in", defArgs s_number_in, defBody s_number_in, defScope s_number_in, [], []⟩
def d_row_in : He.DefD := ⟨("row_in", none), "row_in", "row_in", defArgs s_row_in, defBody s_row_in, defScope s_row_in, [], []⟩
def d_beside_by : He.DefD := ⟨("beside_by", none), "beside_by", "beside_by", defArgs s_beside_by, defBody s_beside_by, defScope s_beside_by, [], []⟩
def d_factoring_of : He.DefD := ⟨("factoring_of", none), "factoring_of", "factoring_of", defArgs s_factoring_of, defBody s_factoring_of, defScope s_factoring_of, [], []⟩
def d_places_by : He.DefD := ⟨("places_by", none), "places_by", "places_by", defArgs s_places_by, defBody s_places_by, defScope s_places_by, [], []⟩
def d_unlike_at : He.DefD := ⟨("unlike_at", none), "unlike_at", "unlike_at", defArgs s_unlike_at, defBody s_unlike_at, defScope s_unlike_at, [], []⟩
def d_parted_by : He.DefD := ⟨("parted_by", none), "parted_by", "parted_by", defArgs s_parted_by, defBody s_parted_by, defScope s_parted_by, [], []⟩
def d_joined_by : He.DefD := ⟨("joined_by", none), "joined_by", "joined_by", defArgs s_joined_by, defBody s_joined_by, defScope s_joined_by, [], []⟩
def d_fits : He.DefD := ⟨("fits", none), "fits", "fits", defArgs s_fits, defBody s_fits, defScope s_fits, [], []⟩
def d_made_of : He.DefD := ⟨("made_of", none), "made_of", "made_of", defArgs s_made_of, defBody s_made_of, defScope s_made_of, [], []⟩
def d_product : He.DefD := ⟨("product", none), "product", "product", defArgs s_product, defBody s_product, defScope s_product, [], []⟩
def d_followed : He.DefD := ⟨("followed", none), "followed", "followed", defArgs s_followed, defBody s_followed, defScope s_followed, [], []⟩
def d_cancelled : He.DefD := ⟨("cancelled", none), "cancelled", "cancelled", defArgs s_cancelled, defBody s_cancelled, defScope s_cancelled, [], []⟩
def d_law_pool : He.DefD := ⟨("_law_pool", none), "_law_pool", "_law_pool", defArgs s_law_pool, defBody s_law_pool, defScope s_law_pool, [], []⟩
def d_law_take : He.DefD := ⟨("_law_take", none), "_law_take", "_law_take", defArgs s_law_take, defBody s_law_take, defScope s_law_take, [], []⟩
def d_law_web : He.DefD := ⟨("_law_web", none), "_law_web", "_law_web", defArgs s_law_web, defBody s_law_web, defScope s_law_web, [], []⟩
def d_law_many : He.DefD := ⟨("_law_many", none), "_law_many", "_law_many", defArgs s_law_many, defBody s_law_many, defScope s_law_many, [], []⟩
def d_law_rows : He.DefD := ⟨("_law_rows", none), "_law_rows", "_law_rows", defArgs s_law_rows, defBody s_law_rows, defScope s_law_rows, [], []⟩
def d_law_product : He.DefD := ⟨("_law_product", none), "_law_product", "_law_product", defArgs s_law_product, defBody s_law_product, defScope s_law_product, [], []⟩
def d_law_shuffled : He.DefD := ⟨("_law_shuffled", none), "_law_shuffled", "_law_shuffled", defArgs s_law_shuffled, defBody s_law_shuffled, defScope s_law_shuffled, [], []⟩
def d_law_renumbered : He.DefD := ⟨("_law_renumbered", none), "_law_renumbered", "_law_renumbered", defArgs s_law_renumbered, defBody s_law_renumbered, defScope s_law_renumbered, [], []⟩
def d_law_bases : He.DefD := ⟨("_law_bases", none), "_law_bases", "_law_bases", defArgs s_law_bases, defBody s_law_bases, defScope s_law_bases, [], []⟩
def d_law_dressed : He.DefD := ⟨("_law_dressed", none), "_law_dressed", "_law_dressed", defArgs s_law_dressed, defBody s_law_dressed, defScope s_law_dressed, [], []⟩
def d_law_matched : He.DefD := ⟨("_law_matched", none), "_law_matched", "_law_matched", defArgs s_law_matched, defBody s_law_matched, defScope s_law_matched, [], []⟩
def d_law_led : He.DefD := ⟨("_law_led", none), "_law_led", "_law_led", defArgs s_law_led, defBody s_law_led, defScope s_law_led, [], []⟩
def d_law_number : He.DefD := ⟨("_law_number", none), "_law_number", "_law_number", defArgs s_law_number, defBody s_law_number, defScope s_law_number, [], []⟩
def d_law_webs_of : He.DefD := ⟨("_law_webs_of", none), "_law_webs_of", "_law_webs_of", defArgs s_law_webs_of, defBody s_law_webs_of, defScope s_law_webs_of, [], []⟩
def d_law_case : He.DefD := ⟨("_law_case", none), "_law_case", "_law_case", defArgs s_law_case, defBody s_law_case, defScope s_law_case, [], []⟩
def d_law_beside : He.DefD := ⟨("_law_beside", none), "_law_beside", "_law_beside", defArgs s_law_beside, defBody s_law_beside, defScope s_law_beside, [], []⟩
def d_law_turned : He.DefD := ⟨("_law_turned", none), "_law_turned", "_law_turned", defArgs s_law_turned, defBody s_law_turned, defScope s_law_turned, [], []⟩
def d_law_right : He.DefD := ⟨("_law_right", none), "_law_right", "_law_right", defArgs s_law_right, defBody s_law_right, defScope s_law_right, [], []⟩
def d_law : He.DefD := ⟨("law", none), "law", "law", defArgs s_law, defBody s_law, defScope s_law, [], []⟩
def fn : List He.DefD := [d_is_whole, d_is_within, d_is_tie, d_look_at_web, d_is_place, d_tie_of, d_beside_all, d_ties_by, d_far_by, d_far_table, d_together, d_look_together, d_pieces_of, d_within_by, d_pieces, d_look_at_places, d_within, d_far_in, d_corner_in, d_hung_in, d_word_of, d_linked, d_classes_in, d_apart_of, d_factored_in, d_is_all_places, d_is_naming_in, d_lets_naming, d_look_at_naming, d_turned_back, d_behind, d_look_at_webs, d_places_in, d_ties_in, d_number_in, d_row_in, d_beside_by, d_factoring_of, d_places_by, d_unlike_at, d_parted_by, d_joined_by, d_fits, d_made_of, d_product, d_followed, d_cancelled, d_law_pool, d_law_take, d_law_web, d_law_many, d_law_rows, d_law_product, d_law_shuffled, d_law_renumbered, d_law_bases, d_law_dressed, d_law_matched, d_law_led, d_law_number, d_law_webs_of, d_law_case, d_law_beside, d_law_turned, d_law_right, d_law]
def fa : List He.Fa := [.glo "is_whole", .glo "is_within", .glo "is_tie", .glo "look_at_web", .glo "is_place", .glo "tie_of", .glo "beside_all", .glo "ties_by", .glo "far_by", .glo "far_table", .glo "together", .glo "look_together", .glo "pieces_of", .glo "within_by", .glo "pieces", .glo "look_at_places", .glo "within", .glo "far_in", .glo "corner_in", .glo "hung_in", .glo "word_of", .glo "linked", .glo "classes_in", .glo "apart_of", .glo "factored_in", .glo "is_all_places", .glo "is_naming_in", .glo "lets_naming", .glo "look_at_naming", .glo "turned_back", .glo "behind", .glo "look_at_webs", .glo "places_in", .glo "ties_in", .glo "number_in", .glo "row_in", .glo "beside_by", .glo "factoring_of", .glo "places_by", .glo "unlike_at", .glo "parted_by", .glo "joined_by", .glo "fits", .glo "made_of", .glo "product", .glo "followed", .glo "cancelled", .glo "_law_pool", .glo "_law_take", .glo "_law_web", .glo "_law_many", .glo "_law_rows", .glo "_law_product", .glo "_law_shuffled", .glo "_law_renumbered", .glo "_law_bases", .glo "_law_dressed", .glo "_law_matched", .glo "_law_led", .glo "_law_number", .glo "_law_webs_of", .glo "_law_case", .glo "_law_beside", .glo "_law_turned", .glo "_law_right", .glo "law", .free "all", .free "bool", .free "dict", .free "enumerate", .free "int", .free "isinstance", .free "len", .free "list", .free "max", .free "min", .free "range", .free "set", .free "sorted", .free "sum", .free "tuple", .free "zip", .int "MOST_PLACES_webs" 40, .int "MOST_TIES_webs" 120, .int "MOST_WEBS" 12, .int "MOST_PLACES_products" 40, .int "MOST_TIES_products" 120]
/-- what the top leaves -/
structure Top (W : Wd) : Prop where
  ex : ∃ h : Heap, W.K.In h ∧ h.Ns mainGlobals W.mg ∧ He.SaysD fa fn W.K
theorem Top.all_ {W : Wd} (T : Top W) : W.mg "all" = none := by
  obtain ⟨h, X, G, c⟩ := T.ex
  exact He.free_ok X G (c.fact 66)
theorem Top.bool_ {W : Wd} (T : Top W) : W.mg "bool" = none := by
  obtain ⟨h, X, G, c⟩ := T.ex
  exact He.free_ok X G (c.fact 67)
theorem Top.dict_ {W : Wd} (T : Top W) : W.mg "dict" = none := by
  obtain ⟨h, X, G, c⟩ := T.ex
  exact He.free_ok X G (c.fact 68)
theorem Top.enumerate_ {W : Wd} (T : Top W) : W.mg "enumerate" = none := by
  obtain ⟨h, X, G, c⟩ := T.ex
  exact He.free_ok X G (c.fact 69)
theorem Top.int_ {W : Wd} (T : Top W) : W.mg "int" = none := by
  obtain ⟨h, X, G, c⟩ := T.ex
  exact He.free_ok X G (c.fact 70)
theorem Top.isinstance_ {W : Wd} (T : Top W) : W.mg "isinstance" = none := by
  obtain ⟨h, X, G, c⟩ := T.ex
  exact He.free_ok X G (c.fact 71)
theorem Top.len_ {W : Wd} (T : Top W) : W.mg "len" = none := by
  obtain ⟨h, X, G, c⟩ := T.ex
  exact He.free_ok X G (c.fact 72)
theorem Top.list_ {W : Wd} (T : Top W) : W.mg "list" = none := by
  obtain ⟨h, X, G, c⟩ := T.ex
  exact He.free_ok X G (c.fact 73)
theorem Top.max_ {W : Wd} (T : Top W) : W.mg "max" = none := by
  obtain ⟨h, X, G, c⟩ := T.ex
  exact He.free_ok X G (c.fact 74)
theorem Top.min_ {W : Wd} (T : Top W) : W.mg "min" = none := by
  obtain ⟨h, X, G, c⟩ := T.ex
  exact He.free_ok X G (c.fact 75)
theorem Top.range_ {W : Wd} (T : Top W) : W.mg "range" = none := by
  obtain ⟨h, X, G, c⟩ := T.ex
  exact He.free_ok X G (c.fact 76)
theorem Top.set_ {W : Wd} (T : Top W) : W.mg "set" = none := by
  obtain ⟨h, X, G, c⟩ := T.ex
  exact He.free_ok X G (c.fact 77)
theorem Top.sorted_ {W : Wd} (T : Top W) : W.mg "sorted" = none := by
  obtain ⟨h, X, G, c⟩ := T.ex
  exact He.free_ok X G (c.fact 78)
theorem Top.sum_ {W : Wd} (T : Top W) : W.mg "sum" = none := by
  obtain ⟨h, X, G, c⟩ := T.ex
  exact He.free_ok X G (c.fact 79)
theorem Top.tuple_ {W : Wd} (T : Top W) : W.mg "tuple" = none := by
  obtain ⟨h, X, G, c⟩ := T.ex
  exact He.free_ok X G (c.fact 80)
theorem Top.zip_ {W : Wd} (T : Top W) : W.mg "zip" = none := by
  obtain ⟨h, X, G, c⟩ := T.ex
  exact He.free_ok X G (c.fact 81)
theorem Top.MOST_PLACES_webs {W : Wd} (T : Top W) : ∃ t, W.mg "MOST_PLACES_webs" = some (.int ((40 : Nat) : Int) t) := by
  obtain ⟨h, X, G, c⟩ := T.ex
  exact He.int_ok X G (c.fact 82)
theorem Top.MOST_TIES_webs {W : Wd} (T : Top W) : ∃ t, W.mg "MOST_TIES_webs" = some (.int ((120 : Nat) : Int) t) := by
  obtain ⟨h, X, G, c⟩ := T.ex
  exact He.int_ok X G (c.fact 83)
theorem Top.MOST_WEBS {W : Wd} (T : Top W) : ∃ t, W.mg "MOST_WEBS" = some (.int ((12 : Nat) : Int) t) := by
  obtain ⟨h, X, G, c⟩ := T.ex
  exact He.int_ok X G (c.fact 84)
theorem Top.MOST_PLACES_products {W : Wd} (T : Top W) : ∃ t, W.mg "MOST_PLACES_products" = some (.int ((40 : Nat) : Int) t) := by
  obtain ⟨h, X, G, c⟩ := T.ex
  exact He.int_ok X G (c.fact 85)
theorem Top.MOST_TIES_products {W : Wd} (T : Top W) : ∃ t, W.mg "MOST_TIES_products" = some (.int ((120 : Nat) : Int) t) := by
  obtain ⟨h, X, G, c⟩ := T.ex
  exact He.int_ok X G (c.fact 86)
theorem Top.f_is_whole {W : Wd} (T : Top W) : ∃ f fd, FunD W.K "is_whole" "is_whole" (defArgs s_is_whole) (defBody s_is_whole) (defScope s_is_whole) [] [] f fd ∧ W.mg "is_whole" = some (.ref f) := by
  obtain ⟨h, X, G, c⟩ := T.ex
  obtain ⟨fd, F⟩ := c.def_ 0 (d := d_is_whole) rfl
  exact ⟨_, fd, F, He.glo_ok X G (c.fact 0 (f := .glo "is_whole") rfl)⟩
theorem Top.f_is_within {W : Wd} (T : Top W) : ∃ f fd, FunD W.K "is_within" "is_within" (defArgs s_is_within) (defBody s_is_within) (defScope s_is_within) [] [] f fd ∧ W.mg "is_within" = some (.ref f) := by
  obtain ⟨h, X, G, c⟩ := T.ex
  obtain ⟨fd, F⟩ := c.def_ 1 (d := d_is_within) rfl
  exact ⟨_, fd, F, He.glo_ok X G (c.fact 1 (f := .glo "is_within") rfl)⟩
theorem Top.f_is_tie {W : Wd} (T : Top W) : ∃ f fd, FunD W.K "is_tie" "is_tie" (defArgs s_is_tie) (defBody s_is_tie) (defScope s_is_tie) [] [] f fd ∧ W.mg "is_tie" = some (.ref f) := by
  obtain ⟨h, X, G, c⟩ := T.ex
  obtain ⟨fd, F⟩ := c.def_ 2 (d := d_is_tie) rfl
  exact ⟨_, fd, F, He.glo_ok X G (c.fact 2 (f := .glo "is_tie") rfl)⟩
theorem Top.f_look_at_web {W : Wd} (T : Top W) : ∃ f fd, FunD W.K "look_at_web" "look_at_web" (defArgs s_look_at_web) (defBody s_look_at_web) (defScope s_look_at_web) [] [] f fd ∧ W.mg "look_at_web" = some (.ref f) := by
  obtain ⟨h, X, G, c⟩ := T.ex
  obtain ⟨fd, F⟩ := c.def_ 3 (d := d_look_at_web) rfl
  exact ⟨_, fd, F, He.glo_ok X G (c.fact 3 (f := .glo "look_at_web") rfl)⟩
theorem Top.f_is_place {W : Wd} (T : Top W) : ∃ f fd, FunD W.K "is_place" "is_place" (defArgs s_is_place) (defBody s_is_place) (defScope s_is_place) [] [] f fd ∧ W.mg "is_place" = some (.ref f) := by
  obtain ⟨h, X, G, c⟩ := T.ex
  obtain ⟨fd, F⟩ := c.def_ 4 (d := d_is_place) rfl
  exact ⟨_, fd, F, He.glo_ok X G (c.fact 4 (f := .glo "is_place") rfl)⟩
theorem Top.f_tie_of {W : Wd} (T : Top W) : ∃ f fd, FunD W.K "tie_of" "tie_of" (defArgs s_tie_of) (defBody s_tie_of) (defScope s_tie_of) [] [] f fd ∧ W.mg "tie_of" = some (.ref f) := by
  obtain ⟨h, X, G, c⟩ := T.ex
  obtain ⟨fd, F⟩ := c.def_ 5 (d := d_tie_of) rfl
  exact ⟨_, fd, F, He.glo_ok X G (c.fact 5 (f := .glo "tie_of") rfl)⟩
theorem Top.f_beside_all {W : Wd} (T : Top W) : ∃ f fd, FunD W.K "beside_all" "beside_all" (defArgs s_beside_all) (defBody s_beside_all) (defScope s_beside_all) [] [] f fd ∧ W.mg "beside_all" = some (.ref f) := by
  obtain ⟨h, X, G, c⟩ := T.ex
  obtain ⟨fd, F⟩ := c.def_ 6 (d := d_beside_all) rfl
  exact ⟨_, fd, F, He.glo_ok X G (c.fact 6 (f := .glo "beside_all") rfl)⟩
theorem Top.f_ties_by {W : Wd} (T : Top W) : ∃ f fd, FunD W.K "ties_by" "ties_by" (defArgs s_ties_by) (defBody s_ties_by) (defScope s_ties_by) [] [] f fd ∧ W.mg "ties_by" = some (.ref f) := by
  obtain ⟨h, X, G, c⟩ := T.ex
  obtain ⟨fd, F⟩ := c.def_ 7 (d := d_ties_by) rfl
  exact ⟨_, fd, F, He.glo_ok X G (c.fact 7 (f := .glo "ties_by") rfl)⟩
theorem Top.f_far_by {W : Wd} (T : Top W) : ∃ f fd, FunD W.K "far_by" "far_by" (defArgs s_far_by) (defBody s_far_by) (defScope s_far_by) [] [] f fd ∧ W.mg "far_by" = some (.ref f) := by
  obtain ⟨h, X, G, c⟩ := T.ex
  obtain ⟨fd, F⟩ := c.def_ 8 (d := d_far_by) rfl
  exact ⟨_, fd, F, He.glo_ok X G (c.fact 8 (f := .glo "far_by") rfl)⟩
theorem Top.f_far_table {W : Wd} (T : Top W) : ∃ f fd, FunD W.K "far_table" "far_table" (defArgs s_far_table) (defBody s_far_table) (defScope s_far_table) [] [] f fd ∧ W.mg "far_table" = some (.ref f) := by
  obtain ⟨h, X, G, c⟩ := T.ex
  obtain ⟨fd, F⟩ := c.def_ 9 (d := d_far_table) rfl
  exact ⟨_, fd, F, He.glo_ok X G (c.fact 9 (f := .glo "far_table") rfl)⟩
theorem Top.f_together {W : Wd} (T : Top W) : ∃ f fd, FunD W.K "together" "together" (defArgs s_together) (defBody s_together) (defScope s_together) [] [] f fd ∧ W.mg "together" = some (.ref f) := by
  obtain ⟨h, X, G, c⟩ := T.ex
  obtain ⟨fd, F⟩ := c.def_ 10 (d := d_together) rfl
  exact ⟨_, fd, F, He.glo_ok X G (c.fact 10 (f := .glo "together") rfl)⟩
theorem Top.f_look_together {W : Wd} (T : Top W) : ∃ f fd, FunD W.K "look_together" "look_together" (defArgs s_look_together) (defBody s_look_together) (defScope s_look_together) [] [] f fd ∧ W.mg "look_together" = some (.ref f) := by
  obtain ⟨h, X, G, c⟩ := T.ex
  obtain ⟨fd, F⟩ := c.def_ 11 (d := d_look_together) rfl
  exact ⟨_, fd, F, He.glo_ok X G (c.fact 11 (f := .glo "look_together") rfl)⟩
theorem Top.f_pieces_of {W : Wd} (T : Top W) : ∃ f fd, FunD W.K "pieces_of" "pieces_of" (defArgs s_pieces_of) (defBody s_pieces_of) (defScope s_pieces_of) [] [] f fd ∧ W.mg "pieces_of" = some (.ref f) := by
  obtain ⟨h, X, G, c⟩ := T.ex
  obtain ⟨fd, F⟩ := c.def_ 12 (d := d_pieces_of) rfl
  exact ⟨_, fd, F, He.glo_ok X G (c.fact 12 (f := .glo "pieces_of") rfl)⟩
theorem Top.f_within_by {W : Wd} (T : Top W) : ∃ f fd, FunD W.K "within_by" "within_by" (defArgs s_within_by) (defBody s_within_by) (defScope s_within_by) [] [] f fd ∧ W.mg "within_by" = some (.ref f) := by
  obtain ⟨h, X, G, c⟩ := T.ex
  obtain ⟨fd, F⟩ := c.def_ 13 (d := d_within_by) rfl
  exact ⟨_, fd, F, He.glo_ok X G (c.fact 13 (f := .glo "within_by") rfl)⟩
theorem Top.f_pieces {W : Wd} (T : Top W) : ∃ f fd, FunD W.K "pieces" "pieces" (defArgs s_pieces) (defBody s_pieces) (defScope s_pieces) [] [] f fd ∧ W.mg "pieces" = some (.ref f) := by
  obtain ⟨h, X, G, c⟩ := T.ex
  obtain ⟨fd, F⟩ := c.def_ 14 (d := d_pieces) rfl
  exact ⟨_, fd, F, He.glo_ok X G (c.fact 14 (f := .glo "pieces") rfl)⟩
theorem Top.f_look_at_places {W : Wd} (T : Top W) : ∃ f fd, FunD W.K "look_at_places" "look_at_places" (defArgs s_look_at_places) (defBody s_look_at_places) (defScope s_look_at_places) [] [] f fd ∧ W.mg "look_at_places" = some (.ref f) := by
  obtain ⟨h, X, G, c⟩ := T.ex
  obtain ⟨fd, F⟩ := c.def_ 15 (d := d_look_at_places) rfl
  exact ⟨_, fd, F, He.glo_ok X G (c.fact 15 (f := .glo "look_at_places") rfl)⟩
theorem Top.f_within {W : Wd} (T : Top W) : ∃ f fd, FunD W.K "within" "within" (defArgs s_within) (defBody s_within) (defScope s_within) [] [] f fd ∧ W.mg "within" = some (.ref f) := by
  obtain ⟨h, X, G, c⟩ := T.ex
  obtain ⟨fd, F⟩ := c.def_ 16 (d := d_within) rfl
  exact ⟨_, fd, F, He.glo_ok X G (c.fact 16 (f := .glo "within") rfl)⟩
theorem Top.f_far_in {W : Wd} (T : Top W) : ∃ f fd, FunD W.K "far_in" "far_in" (defArgs s_far_in) (defBody s_far_in) (defScope s_far_in) [] [] f fd ∧ W.mg "far_in" = some (.ref f) := by
  obtain ⟨h, X, G, c⟩ := T.ex
  obtain ⟨fd, F⟩ := c.def_ 17 (d := d_far_in) rfl
  exact ⟨_, fd, F, He.glo_ok X G (c.fact 17 (f := .glo "far_in") rfl)⟩
theorem Top.f_corner_in {W : Wd} (T : Top W) : ∃ f fd, FunD W.K "corner_in" "corner_in" (defArgs s_corner_in) (defBody s_corner_in) (defScope s_corner_in) [] [] f fd ∧ W.mg "corner_in" = some (.ref f) := by
  obtain ⟨h, X, G, c⟩ := T.ex
  obtain ⟨fd, F⟩ := c.def_ 18 (d := d_corner_in) rfl
  exact ⟨_, fd, F, He.glo_ok X G (c.fact 18 (f := .glo "corner_in") rfl)⟩
theorem Top.f_hung_in {W : Wd} (T : Top W) : ∃ f fd, FunD W.K "hung_in" "hung_in" (defArgs s_hung_in) (defBody s_hung_in) (defScope s_hung_in) [] [] f fd ∧ W.mg "hung_in" = some (.ref f) := by
  obtain ⟨h, X, G, c⟩ := T.ex
  obtain ⟨fd, F⟩ := c.def_ 19 (d := d_hung_in) rfl
  exact ⟨_, fd, F, He.glo_ok X G (c.fact 19 (f := .glo "hung_in") rfl)⟩
theorem Top.f_word_of {W : Wd} (T : Top W) : ∃ f fd, FunD W.K "word_of" "word_of" (defArgs s_word_of) (defBody s_word_of) (defScope s_word_of) [] [] f fd ∧ W.mg "word_of" = some (.ref f) := by
  obtain ⟨h, X, G, c⟩ := T.ex
  obtain ⟨fd, F⟩ := c.def_ 20 (d := d_word_of) rfl
  exact ⟨_, fd, F, He.glo_ok X G (c.fact 20 (f := .glo "word_of") rfl)⟩
theorem Top.f_linked {W : Wd} (T : Top W) : ∃ f fd, FunD W.K "linked" "linked" (defArgs s_linked) (defBody s_linked) (defScope s_linked) [] [] f fd ∧ W.mg "linked" = some (.ref f) := by
  obtain ⟨h, X, G, c⟩ := T.ex
  obtain ⟨fd, F⟩ := c.def_ 21 (d := d_linked) rfl
  exact ⟨_, fd, F, He.glo_ok X G (c.fact 21 (f := .glo "linked") rfl)⟩
theorem Top.f_classes_in {W : Wd} (T : Top W) : ∃ f fd, FunD W.K "classes_in" "classes_in" (defArgs s_classes_in) (defBody s_classes_in) (defScope s_classes_in) [] [] f fd ∧ W.mg "classes_in" = some (.ref f) := by
  obtain ⟨h, X, G, c⟩ := T.ex
  obtain ⟨fd, F⟩ := c.def_ 22 (d := d_classes_in) rfl
  exact ⟨_, fd, F, He.glo_ok X G (c.fact 22 (f := .glo "classes_in") rfl)⟩
theorem Top.f_apart_of {W : Wd} (T : Top W) : ∃ f fd, FunD W.K "apart_of" "apart_of" (defArgs s_apart_of) (defBody s_apart_of) (defScope s_apart_of) [] [] f fd ∧ W.mg "apart_of" = some (.ref f) := by
  obtain ⟨h, X, G, c⟩ := T.ex
  obtain ⟨fd, F⟩ := c.def_ 23 (d := d_apart_of) rfl
  exact ⟨_, fd, F, He.glo_ok X G (c.fact 23 (f := .glo "apart_of") rfl)⟩
theorem Top.f_factored_in {W : Wd} (T : Top W) : ∃ f fd, FunD W.K "factored_in" "factored_in" (defArgs s_factored_in) (defBody s_factored_in) (defScope s_factored_in) [] [] f fd ∧ W.mg "factored_in" = some (.ref f) := by
  obtain ⟨h, X, G, c⟩ := T.ex
  obtain ⟨fd, F⟩ := c.def_ 24 (d := d_factored_in) rfl
  exact ⟨_, fd, F, He.glo_ok X G (c.fact 24 (f := .glo "factored_in") rfl)⟩
theorem Top.f_is_all_places {W : Wd} (T : Top W) : ∃ f fd, FunD W.K "is_all_places" "is_all_places" (defArgs s_is_all_places) (defBody s_is_all_places) (defScope s_is_all_places) [] [] f fd ∧ W.mg "is_all_places" = some (.ref f) := by
  obtain ⟨h, X, G, c⟩ := T.ex
  obtain ⟨fd, F⟩ := c.def_ 25 (d := d_is_all_places) rfl
  exact ⟨_, fd, F, He.glo_ok X G (c.fact 25 (f := .glo "is_all_places") rfl)⟩
theorem Top.f_is_naming_in {W : Wd} (T : Top W) : ∃ f fd, FunD W.K "is_naming_in" "is_naming_in" (defArgs s_is_naming_in) (defBody s_is_naming_in) (defScope s_is_naming_in) [] [] f fd ∧ W.mg "is_naming_in" = some (.ref f) := by
  obtain ⟨h, X, G, c⟩ := T.ex
  obtain ⟨fd, F⟩ := c.def_ 26 (d := d_is_naming_in) rfl
  exact ⟨_, fd, F, He.glo_ok X G (c.fact 26 (f := .glo "is_naming_in") rfl)⟩
theorem Top.f_lets_naming {W : Wd} (T : Top W) : ∃ f fd, FunD W.K "lets_naming" "lets_naming" (defArgs s_lets_naming) (defBody s_lets_naming) (defScope s_lets_naming) [] [] f fd ∧ W.mg "lets_naming" = some (.ref f) := by
  obtain ⟨h, X, G, c⟩ := T.ex
  obtain ⟨fd, F⟩ := c.def_ 27 (d := d_lets_naming) rfl
  exact ⟨_, fd, F, He.glo_ok X G (c.fact 27 (f := .glo "lets_naming") rfl)⟩
theorem Top.f_look_at_naming {W : Wd} (T : Top W) : ∃ f fd, FunD W.K "look_at_naming" "look_at_naming" (defArgs s_look_at_naming) (defBody s_look_at_naming) (defScope s_look_at_naming) [] [] f fd ∧ W.mg "look_at_naming" = some (.ref f) := by
  obtain ⟨h, X, G, c⟩ := T.ex
  obtain ⟨fd, F⟩ := c.def_ 28 (d := d_look_at_naming) rfl
  exact ⟨_, fd, F, He.glo_ok X G (c.fact 28 (f := .glo "look_at_naming") rfl)⟩
theorem Top.f_turned_back {W : Wd} (T : Top W) : ∃ f fd, FunD W.K "turned_back" "turned_back" (defArgs s_turned_back) (defBody s_turned_back) (defScope s_turned_back) [] [] f fd ∧ W.mg "turned_back" = some (.ref f) := by
  obtain ⟨h, X, G, c⟩ := T.ex
  obtain ⟨fd, F⟩ := c.def_ 29 (d := d_turned_back) rfl
  exact ⟨_, fd, F, He.glo_ok X G (c.fact 29 (f := .glo "turned_back") rfl)⟩
theorem Top.f_behind {W : Wd} (T : Top W) : ∃ f fd, FunD W.K "behind" "behind" (defArgs s_behind) (defBody s_behind) (defScope s_behind) [] [] f fd ∧ W.mg "behind" = some (.ref f) := by
  obtain ⟨h, X, G, c⟩ := T.ex
  obtain ⟨fd, F⟩ := c.def_ 30 (d := d_behind) rfl
  exact ⟨_, fd, F, He.glo_ok X G (c.fact 30 (f := .glo "behind") rfl)⟩
theorem Top.f_look_at_webs {W : Wd} (T : Top W) : ∃ f fd, FunD W.K "look_at_webs" "look_at_webs" (defArgs s_look_at_webs) (defBody s_look_at_webs) (defScope s_look_at_webs) [] [] f fd ∧ W.mg "look_at_webs" = some (.ref f) := by
  obtain ⟨h, X, G, c⟩ := T.ex
  obtain ⟨fd, F⟩ := c.def_ 31 (d := d_look_at_webs) rfl
  exact ⟨_, fd, F, He.glo_ok X G (c.fact 31 (f := .glo "look_at_webs") rfl)⟩
theorem Top.f_places_in {W : Wd} (T : Top W) : ∃ f fd, FunD W.K "places_in" "places_in" (defArgs s_places_in) (defBody s_places_in) (defScope s_places_in) [] [] f fd ∧ W.mg "places_in" = some (.ref f) := by
  obtain ⟨h, X, G, c⟩ := T.ex
  obtain ⟨fd, F⟩ := c.def_ 32 (d := d_places_in) rfl
  exact ⟨_, fd, F, He.glo_ok X G (c.fact 32 (f := .glo "places_in") rfl)⟩
theorem Top.f_ties_in {W : Wd} (T : Top W) : ∃ f fd, FunD W.K "ties_in" "ties_in" (defArgs s_ties_in) (defBody s_ties_in) (defScope s_ties_in) [] [] f fd ∧ W.mg "ties_in" = some (.ref f) := by
  obtain ⟨h, X, G, c⟩ := T.ex
  obtain ⟨fd, F⟩ := c.def_ 33 (d := d_ties_in) rfl
  exact ⟨_, fd, F, He.glo_ok X G (c.fact 33 (f := .glo "ties_in") rfl)⟩
theorem Top.f_number_in {W : Wd} (T : Top W) : ∃ f fd, FunD W.K "number_in" "number_in" (defArgs s_number_in) (defBody s_number_in) (defScope s_number_in) [] [] f fd ∧ W.mg "number_in" = some (.ref f) := by
  obtain ⟨h, X, G, c⟩ := T.ex
  obtain ⟨fd, F⟩ := c.def_ 34 (d := d_number_in) rfl
  exact ⟨_, fd, F, He.glo_ok X G (c.fact 34 (f := .glo "number_in") rfl)⟩
theorem Top.f_row_in {W : Wd} (T : Top W) : ∃ f fd, FunD W.K "row_in" "row_in" (defArgs s_row_in) (defBody s_row_in) (defScope s_row_in) [] [] f fd ∧ W.mg "row_in" = some (.ref f) := by
  obtain ⟨h, X, G, c⟩ := T.ex
  obtain ⟨fd, F⟩ := c.def_ 35 (d := d_row_in) rfl
  exact ⟨_, fd, F, He.glo_ok X G (c.fact 35 (f := .glo "row_in") rfl)⟩
theorem Top.f_beside_by {W : Wd} (T : Top W) : ∃ f fd, FunD W.K "beside_by" "beside_by" (defArgs s_beside_by) (defBody s_beside_by) (defScope s_beside_by) [] [] f fd ∧ W.mg "beside_by" = some (.ref f) := by
  obtain ⟨h, X, G, c⟩ := T.ex
  obtain ⟨fd, F⟩ := c.def_ 36 (d := d_beside_by) rfl
  exact ⟨_, fd, F, He.glo_ok X G (c.fact 36 (f := .glo "beside_by") rfl)⟩
theorem Top.f_factoring_of {W : Wd} (T : Top W) : ∃ f fd, FunD W.K "factoring_of" "factoring_of" (defArgs s_factoring_of) (defBody s_factoring_of) (defScope s_factoring_of) [] [] f fd ∧ W.mg "factoring_of" = some (.ref f) := by
  obtain ⟨h, X, G, c⟩ := T.ex
  obtain ⟨fd, F⟩ := c.def_ 37 (d := d_factoring_of) rfl
  exact ⟨_, fd, F, He.glo_ok X G (c.fact 37 (f := .glo "factoring_of") rfl)⟩
theorem Top.f_places_by {W : Wd} (T : Top W) : ∃ f fd, FunD W.K "places_by" "places_by" (defArgs s_places_by) (defBody s_places_by) (defScope s_places_by) [] [] f fd ∧ W.mg "places_by" = some (.ref f) := by
  obtain ⟨h, X, G, c⟩ := T.ex
  obtain ⟨fd, F⟩ := c.def_ 38 (d := d_places_by) rfl
  exact ⟨_, fd, F, He.glo_ok X G (c.fact 38 (f := .glo "places_by") rfl)⟩
theorem Top.f_unlike_at {W : Wd} (T : Top W) : ∃ f fd, FunD W.K "unlike_at" "unlike_at" (defArgs s_unlike_at) (defBody s_unlike_at) (defScope s_unlike_at) [] [] f fd ∧ W.mg "unlike_at" = some (.ref f) := by
  obtain ⟨h, X, G, c⟩ := T.ex
  obtain ⟨fd, F⟩ := c.def_ 39 (d := d_unlike_at) rfl
  exact ⟨_, fd, F, He.glo_ok X G (c.fact 39 (f := .glo "unlike_at") rfl)⟩
theorem Top.f_parted_by {W : Wd} (T : Top W) : ∃ f fd, FunD W.K "parted_by" "parted_by" (defArgs s_parted_by) (defBody s_parted_by) (defScope s_parted_by) [] [] f fd ∧ W.mg "parted_by" = some (.ref f) := by
  obtain ⟨h, X, G, c⟩ := T.ex
  obtain ⟨fd, F⟩ := c.def_ 40 (d := d_parted_by) rfl
  exact ⟨_, fd, F, He.glo_ok X G (c.fact 40 (f := .glo "parted_by") rfl)⟩
theorem Top.f_joined_by {W : Wd} (T : Top W) : ∃ f fd, FunD W.K "joined_by" "joined_by" (defArgs s_joined_by) (defBody s_joined_by) (defScope s_joined_by) [] [] f fd ∧ W.mg "joined_by" = some (.ref f) := by
  obtain ⟨h, X, G, c⟩ := T.ex
  obtain ⟨fd, F⟩ := c.def_ 41 (d := d_joined_by) rfl
  exact ⟨_, fd, F, He.glo_ok X G (c.fact 41 (f := .glo "joined_by") rfl)⟩
theorem Top.f_fits {W : Wd} (T : Top W) : ∃ f fd, FunD W.K "fits" "fits" (defArgs s_fits) (defBody s_fits) (defScope s_fits) [] [] f fd ∧ W.mg "fits" = some (.ref f) := by
  obtain ⟨h, X, G, c⟩ := T.ex
  obtain ⟨fd, F⟩ := c.def_ 42 (d := d_fits) rfl
  exact ⟨_, fd, F, He.glo_ok X G (c.fact 42 (f := .glo "fits") rfl)⟩
theorem Top.f_made_of {W : Wd} (T : Top W) : ∃ f fd, FunD W.K "made_of" "made_of" (defArgs s_made_of) (defBody s_made_of) (defScope s_made_of) [] [] f fd ∧ W.mg "made_of" = some (.ref f) := by
  obtain ⟨h, X, G, c⟩ := T.ex
  obtain ⟨fd, F⟩ := c.def_ 43 (d := d_made_of) rfl
  exact ⟨_, fd, F, He.glo_ok X G (c.fact 43 (f := .glo "made_of") rfl)⟩
theorem Top.f_product {W : Wd} (T : Top W) : ∃ f fd, FunD W.K "product" "product" (defArgs s_product) (defBody s_product) (defScope s_product) [] [] f fd ∧ W.mg "product" = some (.ref f) := by
  obtain ⟨h, X, G, c⟩ := T.ex
  obtain ⟨fd, F⟩ := c.def_ 44 (d := d_product) rfl
  exact ⟨_, fd, F, He.glo_ok X G (c.fact 44 (f := .glo "product") rfl)⟩
theorem Top.f_followed {W : Wd} (T : Top W) : ∃ f fd, FunD W.K "followed" "followed" (defArgs s_followed) (defBody s_followed) (defScope s_followed) [] [] f fd ∧ W.mg "followed" = some (.ref f) := by
  obtain ⟨h, X, G, c⟩ := T.ex
  obtain ⟨fd, F⟩ := c.def_ 45 (d := d_followed) rfl
  exact ⟨_, fd, F, He.glo_ok X G (c.fact 45 (f := .glo "followed") rfl)⟩
theorem Top.f_cancelled {W : Wd} (T : Top W) : ∃ f fd, FunD W.K "cancelled" "cancelled" (defArgs s_cancelled) (defBody s_cancelled) (defScope s_cancelled) [] [] f fd ∧ W.mg "cancelled" = some (.ref f) := by
  obtain ⟨h, X, G, c⟩ := T.ex
  obtain ⟨fd, F⟩ := c.def_ 46 (d := d_cancelled) rfl
  exact ⟨_, fd, F, He.glo_ok X G (c.fact 46 (f := .glo "cancelled") rfl)⟩
theorem Top.f_law_pool {W : Wd} (T : Top W) : ∃ f fd, FunD W.K "_law_pool" "_law_pool" (defArgs s_law_pool) (defBody s_law_pool) (defScope s_law_pool) [] [] f fd ∧ W.mg "_law_pool" = some (.ref f) := by
  obtain ⟨h, X, G, c⟩ := T.ex
  obtain ⟨fd, F⟩ := c.def_ 47 (d := d_law_pool) rfl
  exact ⟨_, fd, F, He.glo_ok X G (c.fact 47 (f := .glo "_law_pool") rfl)⟩
theorem Top.f_law_take {W : Wd} (T : Top W) : ∃ f fd, FunD W.K "_law_take" "_law_take" (defArgs s_law_take) (defBody s_law_take) (defScope s_law_take) [] [] f fd ∧ W.mg "_law_take" = some (.ref f) := by
  obtain ⟨h, X, G, c⟩ := T.ex
  obtain ⟨fd, F⟩ := c.def_ 48 (d := d_law_take) rfl
  exact ⟨_, fd, F, He.glo_ok X G (c.fact 48 (f := .glo "_law_take") rfl)⟩
theorem Top.f_law_web {W : Wd} (T : Top W) : ∃ f fd, FunD W.K "_law_web" "_law_web" (defArgs s_law_web) (defBody s_law_web) (defScope s_law_web) [] [] f fd ∧ W.mg "_law_web" = some (.ref f) := by
  obtain ⟨h, X, G, c⟩ := T.ex
  obtain ⟨fd, F⟩ := c.def_ 49 (d := d_law_web) rfl
  exact ⟨_, fd, F, He.glo_ok X G (c.fact 49 (f := .glo "_law_web") rfl)⟩
theorem Top.f_law_many {W : Wd} (T : Top W) : ∃ f fd, FunD W.K "_law_many" "_law_many" (defArgs s_law_many) (defBody s_law_many) (defScope s_law_many) [] [] f fd ∧ W.mg "_law_many" = some (.ref f) := by
  obtain ⟨h, X, G, c⟩ := T.ex
  obtain ⟨fd, F⟩ := c.def_ 50 (d := d_law_many) rfl
  exact ⟨_, fd, F, He.glo_ok X G (c.fact 50 (f := .glo "_law_many") rfl)⟩
theorem Top.f_law_rows {W : Wd} (T : Top W) : ∃ f fd, FunD W.K "_law_rows" "_law_rows" (defArgs s_law_rows) (defBody s_law_rows) (defScope s_law_rows) [] [] f fd ∧ W.mg "_law_rows" = some (.ref f) := by
  obtain ⟨h, X, G, c⟩ := T.ex
  obtain ⟨fd, F⟩ := c.def_ 51 (d := d_law_rows) rfl
  exact ⟨_, fd, F, He.glo_ok X G (c.fact 51 (f := .glo "_law_rows") rfl)⟩
theorem Top.f_law_product {W : Wd} (T : Top W) : ∃ f fd, FunD W.K "_law_product" "_law_product" (defArgs s_law_product) (defBody s_law_product) (defScope s_law_product) [] [] f fd ∧ W.mg "_law_product" = some (.ref f) := by
  obtain ⟨h, X, G, c⟩ := T.ex
  obtain ⟨fd, F⟩ := c.def_ 52 (d := d_law_product) rfl
  exact ⟨_, fd, F, He.glo_ok X G (c.fact 52 (f := .glo "_law_product") rfl)⟩
theorem Top.f_law_shuffled {W : Wd} (T : Top W) : ∃ f fd, FunD W.K "_law_shuffled" "_law_shuffled" (defArgs s_law_shuffled) (defBody s_law_shuffled) (defScope s_law_shuffled) [] [] f fd ∧ W.mg "_law_shuffled" = some (.ref f) := by
  obtain ⟨h, X, G, c⟩ := T.ex
  obtain ⟨fd, F⟩ := c.def_ 53 (d := d_law_shuffled) rfl
  exact ⟨_, fd, F, He.glo_ok X G (c.fact 53 (f := .glo "_law_shuffled") rfl)⟩
theorem Top.f_law_renumbered {W : Wd} (T : Top W) : ∃ f fd, FunD W.K "_law_renumbered" "_law_renumbered" (defArgs s_law_renumbered) (defBody s_law_renumbered) (defScope s_law_renumbered) [] [] f fd ∧ W.mg "_law_renumbered" = some (.ref f) := by
  obtain ⟨h, X, G, c⟩ := T.ex
  obtain ⟨fd, F⟩ := c.def_ 54 (d := d_law_renumbered) rfl
  exact ⟨_, fd, F, He.glo_ok X G (c.fact 54 (f := .glo "_law_renumbered") rfl)⟩
theorem Top.f_law_bases {W : Wd} (T : Top W) : ∃ f fd, FunD W.K "_law_bases" "_law_bases" (defArgs s_law_bases) (defBody s_law_bases) (defScope s_law_bases) [] [] f fd ∧ W.mg "_law_bases" = some (.ref f) := by
  obtain ⟨h, X, G, c⟩ := T.ex
  obtain ⟨fd, F⟩ := c.def_ 55 (d := d_law_bases) rfl
  exact ⟨_, fd, F, He.glo_ok X G (c.fact 55 (f := .glo "_law_bases") rfl)⟩
theorem Top.f_law_dressed {W : Wd} (T : Top W) : ∃ f fd, FunD W.K "_law_dressed" "_law_dressed" (defArgs s_law_dressed) (defBody s_law_dressed) (defScope s_law_dressed) [] [] f fd ∧ W.mg "_law_dressed" = some (.ref f) := by
  obtain ⟨h, X, G, c⟩ := T.ex
  obtain ⟨fd, F⟩ := c.def_ 56 (d := d_law_dressed) rfl
  exact ⟨_, fd, F, He.glo_ok X G (c.fact 56 (f := .glo "_law_dressed") rfl)⟩
theorem Top.f_law_matched {W : Wd} (T : Top W) : ∃ f fd, FunD W.K "_law_matched" "_law_matched" (defArgs s_law_matched) (defBody s_law_matched) (defScope s_law_matched) [] [] f fd ∧ W.mg "_law_matched" = some (.ref f) := by
  obtain ⟨h, X, G, c⟩ := T.ex
  obtain ⟨fd, F⟩ := c.def_ 57 (d := d_law_matched) rfl
  exact ⟨_, fd, F, He.glo_ok X G (c.fact 57 (f := .glo "_law_matched") rfl)⟩
theorem Top.f_law_led {W : Wd} (T : Top W) : ∃ f fd, FunD W.K "_law_led" "_law_led" (defArgs s_law_led) (defBody s_law_led) (defScope s_law_led) [] [] f fd ∧ W.mg "_law_led" = some (.ref f) := by
  obtain ⟨h, X, G, c⟩ := T.ex
  obtain ⟨fd, F⟩ := c.def_ 58 (d := d_law_led) rfl
  exact ⟨_, fd, F, He.glo_ok X G (c.fact 58 (f := .glo "_law_led") rfl)⟩
theorem Top.f_law_number {W : Wd} (T : Top W) : ∃ f fd, FunD W.K "_law_number" "_law_number" (defArgs s_law_number) (defBody s_law_number) (defScope s_law_number) [] [] f fd ∧ W.mg "_law_number" = some (.ref f) := by
  obtain ⟨h, X, G, c⟩ := T.ex
  obtain ⟨fd, F⟩ := c.def_ 59 (d := d_law_number) rfl
  exact ⟨_, fd, F, He.glo_ok X G (c.fact 59 (f := .glo "_law_number") rfl)⟩
theorem Top.f_law_webs_of {W : Wd} (T : Top W) : ∃ f fd, FunD W.K "_law_webs_of" "_law_webs_of" (defArgs s_law_webs_of) (defBody s_law_webs_of) (defScope s_law_webs_of) [] [] f fd ∧ W.mg "_law_webs_of" = some (.ref f) := by
  obtain ⟨h, X, G, c⟩ := T.ex
  obtain ⟨fd, F⟩ := c.def_ 60 (d := d_law_webs_of) rfl
  exact ⟨_, fd, F, He.glo_ok X G (c.fact 60 (f := .glo "_law_webs_of") rfl)⟩
theorem Top.f_law_case {W : Wd} (T : Top W) : ∃ f fd, FunD W.K "_law_case" "_law_case" (defArgs s_law_case) (defBody s_law_case) (defScope s_law_case) [] [] f fd ∧ W.mg "_law_case" = some (.ref f) := by
  obtain ⟨h, X, G, c⟩ := T.ex
  obtain ⟨fd, F⟩ := c.def_ 61 (d := d_law_case) rfl
  exact ⟨_, fd, F, He.glo_ok X G (c.fact 61 (f := .glo "_law_case") rfl)⟩
theorem Top.f_law_beside {W : Wd} (T : Top W) : ∃ f fd, FunD W.K "_law_beside" "_law_beside" (defArgs s_law_beside) (defBody s_law_beside) (defScope s_law_beside) [] [] f fd ∧ W.mg "_law_beside" = some (.ref f) := by
  obtain ⟨h, X, G, c⟩ := T.ex
  obtain ⟨fd, F⟩ := c.def_ 62 (d := d_law_beside) rfl
  exact ⟨_, fd, F, He.glo_ok X G (c.fact 62 (f := .glo "_law_beside") rfl)⟩
theorem Top.f_law_turned {W : Wd} (T : Top W) : ∃ f fd, FunD W.K "_law_turned" "_law_turned" (defArgs s_law_turned) (defBody s_law_turned) (defScope s_law_turned) [] [] f fd ∧ W.mg "_law_turned" = some (.ref f) := by
  obtain ⟨h, X, G, c⟩ := T.ex
  obtain ⟨fd, F⟩ := c.def_ 63 (d := d_law_turned) rfl
  exact ⟨_, fd, F, He.glo_ok X G (c.fact 63 (f := .glo "_law_turned") rfl)⟩
theorem Top.f_law_right {W : Wd} (T : Top W) : ∃ f fd, FunD W.K "_law_right" "_law_right" (defArgs s_law_right) (defBody s_law_right) (defScope s_law_right) [] [] f fd ∧ W.mg "_law_right" = some (.ref f) := by
  obtain ⟨h, X, G, c⟩ := T.ex
  obtain ⟨fd, F⟩ := c.def_ 64 (d := d_law_right) rfl
  exact ⟨_, fd, F, He.glo_ok X G (c.fact 64 (f := .glo "_law_right") rfl)⟩
theorem Top.f_law {W : Wd} (T : Top W) : ∃ f fd, FunD W.K "law" "law" (defArgs s_law) (defBody s_law) (defScope s_law) [] [] f fd ∧ W.mg "law" = some (.ref f) := by
  obtain ⟨h, X, G, c⟩ := T.ex
  obtain ⟨fd, F⟩ := c.def_ 65 (d := d_law) rfl
  exact ⟨_, fd, F, He.glo_ok X G (c.fact 65 (f := .glo "law") rfl)⟩
/-! ### scopes: the slots' names -/
theorem sc_is_whole : FnScope ["thing"] ["thing"] (defScope s_is_whole) := ⟨rfl, rfl, rfl, by decide +kernel, rfl, by decide +kernel, by decide +kernel⟩
theorem sc_is_within : FnScope ["thing", "least", "most"] ["thing", "least", "most"] (defScope s_is_within) := ⟨rfl, rfl, rfl, by decide +kernel, rfl, by decide +kernel, by decide +kernel⟩
theorem sc_is_tie : FnScope ["many", "thing"] ["many", "thing"] (defScope s_is_tie) := ⟨rfl, rfl, rfl, by decide +kernel, rfl, by decide +kernel, by decide +kernel⟩
theorem sc_look_at_web : FnScope ["thing", "many", "ties", "ahead", "number", "tie"] ["thing"] (defScope s_look_at_web) := ⟨rfl, rfl, rfl, by decide +kernel, rfl, by decide +kernel, by decide +kernel⟩
theorem sc_is_place : FnScope ["web", "thing"] ["web", "thing"] (defScope s_is_place) := ⟨rfl, rfl, rfl, by decide +kernel, rfl, by decide +kernel, by decide +kernel⟩
theorem sc_tie_of : FnScope ["one", "other"] ["one", "other"] (defScope s_tie_of) := ⟨rfl, rfl, rfl, by decide +kernel, rfl, by decide +kernel, by decide +kernel⟩
theorem sc_beside_all : FnScope ["web", "found", "one", "other", "place", "places"] ["web"] (defScope s_beside_all) := ⟨rfl, rfl, rfl, by decide +kernel, rfl, by decide +kernel, by decide +kernel⟩
theorem sc_ties_by : FnScope ["web", "tie"] ["web"] (defScope s_ties_by) := ⟨rfl, rfl, rfl, by decide +kernel, rfl, by decide +kernel, by decide +kernel⟩
theorem sc_far_by : FnScope ["beside", "place", "found", "row", "at", "other"] ["beside", "place"] (defScope s_far_by) := ⟨rfl, rfl, rfl, by decide +kernel, rfl, by decide +kernel, by decide +kernel⟩
theorem sc_far_table : FnScope ["web", "beside", "place"] ["web"] (defScope s_far_table) := ⟨rfl, rfl, rfl, by decide +kernel, rfl, by decide +kernel, by decide +kernel⟩
theorem sc_together : FnScope ["web"] ["web"] (defScope s_together) := ⟨rfl, rfl, rfl, by decide +kernel, rfl, by decide +kernel, by decide +kernel⟩
theorem sc_look_together : FnScope ["web"] ["web"] (defScope s_look_together) := ⟨rfl, rfl, rfl, by decide +kernel, rfl, by decide +kernel, by decide +kernel⟩
theorem sc_pieces_of : FnScope ["web", "beside", "seen", "found", "place", "far", "piece", "other"] ["web"] (defScope s_pieces_of) := ⟨rfl, rfl, rfl, by decide +kernel, rfl, by decide +kernel, by decide +kernel⟩
theorem sc_within_by : FnScope ["web", "places", "number", "ties", "one", "other", "k", "place"] ["web", "places"] (defScope s_within_by) := ⟨rfl, rfl, rfl, by decide +kernel, rfl, by decide +kernel, by decide +kernel⟩
theorem sc_pieces : FnScope ["web"] ["web"] (defScope s_pieces) := ⟨rfl, rfl, rfl, by decide +kernel, rfl, by decide +kernel, by decide +kernel⟩
theorem sc_look_at_places : FnScope ["web", "places", "place", "one", "other"] ["web", "places"] (defScope s_look_at_places) := ⟨rfl, rfl, rfl, by decide +kernel, rfl, by decide +kernel, by decide +kernel⟩
theorem sc_within : FnScope ["web", "places"] ["web", "places"] (defScope s_within) := ⟨rfl, rfl, rfl, by decide +kernel, rfl, by decide +kernel, by decide +kernel⟩
theorem sc_far_in : FnScope ["table", "tie", "other", "one", "two", "here", "there"] ["table", "tie", "other"] (defScope s_far_in) := ⟨rfl, rfl, rfl, by decide +kernel, rfl, by decide +kernel, by decide +kernel⟩
theorem sc_corner_in : FnScope ["beside", "tie", "other", "shared", "ends", "place"] ["beside", "tie", "other"] (defScope s_corner_in) := ⟨rfl, rfl, rfl, by decide +kernel, rfl, by decide +kernel, by decide +kernel⟩
theorem sc_hung_in : FnScope ["ties", "links", "heads", "word", "tie", "other", "head", "gone", "here", "found"] ["ties", "links"] (defScope s_hung_in) := ⟨rfl, rfl, rfl, by decide +kernel, rfl, by decide +kernel, by decide +kernel⟩
theorem sc_word_of : FnScope ["table", "beside", "tie", "other"] ["table", "beside", "tie", "other"] (defScope s_word_of) := ⟨rfl, rfl, rfl, by decide +kernel, rfl, by decide +kernel, by decide +kernel⟩
theorem sc_linked : FnScope ["web", "corners", "table", "beside", "ties", "owner", "found", "at", "other", "kept", "gone", "word", "one"] ["web", "corners"] (defScope s_linked) := ⟨rfl, rfl, rfl, by decide +kernel, rfl, by decide +kernel, by decide +kernel⟩
theorem sc_classes_in : FnScope ["web"] ["web"] (defScope s_classes_in) := ⟨rfl, rfl, rfl, by decide +kernel, rfl, by decide +kernel, by decide +kernel⟩
theorem sc_apart_of : FnScope ["web", "some", "known", "tie"] ["web", "some"] (defScope s_apart_of) := ⟨rfl, rfl, rfl, by decide +kernel, rfl, by decide +kernel, by decide +kernel⟩
theorem sc_factored_in : FnScope ["web", "webs", "rows", "some", "layer", "piece", "stands", "place", "k"] ["web"] (defScope s_factored_in) := ⟨rfl, rfl, rfl, by decide +kernel, rfl, by decide +kernel, by decide +kernel⟩
theorem sc_is_all_places : FnScope ["web", "thing", "place"] ["web", "thing"] (defScope s_is_all_places) := ⟨rfl, rfl, rfl, by decide +kernel, rfl, by decide +kernel, by decide +kernel⟩
theorem sc_is_naming_in : FnScope ["one", "other", "thing", "known", "here", "there"] ["one", "other", "thing"] (defScope s_is_naming_in) := ⟨rfl, rfl, rfl, by decide +kernel, rfl, by decide +kernel, by decide +kernel⟩
theorem sc_lets_naming : FnScope ["one", "other", "thing"] ["one", "other", "thing"] (defScope s_lets_naming) := ⟨rfl, rfl, rfl, by decide +kernel, rfl, by decide +kernel, by decide +kernel⟩
theorem sc_look_at_naming : FnScope ["one", "other", "thing"] ["one", "other", "thing"] (defScope s_look_at_naming) := ⟨rfl, rfl, rfl, by decide +kernel, rfl, by decide +kernel, by decide +kernel⟩
theorem sc_turned_back : FnScope ["naming", "found", "place", "other"] ["naming"] (defScope s_turned_back) := ⟨rfl, rfl, rfl, by decide +kernel, rfl, by decide +kernel, by decide +kernel⟩
theorem sc_behind : FnScope ["first", "second", "place"] ["first", "second"] (defScope s_behind) := ⟨rfl, rfl, rfl, by decide +kernel, rfl, by decide +kernel, by decide +kernel⟩
theorem sc_look_at_webs : FnScope ["thing", "number", "web"] ["thing"] (defScope s_look_at_webs) := ⟨rfl, rfl, rfl, by decide +kernel, rfl, by decide +kernel, by decide +kernel⟩
theorem sc_places_in : FnScope ["webs", "found", "many", "ties"] ["webs"] (defScope s_places_in) := ⟨rfl, rfl, rfl, by decide +kernel, rfl, by decide +kernel, by decide +kernel⟩
theorem sc_ties_in : FnScope ["webs", "all_places", "many", "ties"] ["webs"] (defScope s_ties_in) := ⟨rfl, rfl, rfl, by decide +kernel, rfl, by decide +kernel, by decide +kernel⟩
theorem sc_number_in : FnScope ["webs", "row", "found", "place", "web"] ["webs", "row"] (defScope s_number_in) := ⟨rfl, rfl, rfl, by decide +kernel, rfl, by decide +kernel, by decide +kernel⟩
theorem sc_row_in : FnScope ["webs", "number", "row", "many", "ties"] ["webs", "number"] (defScope s_row_in) := ⟨rfl, rfl, rfl, by decide +kernel, rfl, by decide +kernel, by decide +kernel⟩
theorem sc_beside_by : FnScope ["lists", "row", "found", "k", "place", "other"] ["lists", "row"] (defScope s_beside_by) := ⟨rfl, rfl, rfl, by decide +kernel, rfl, by decide +kernel, by decide +kernel⟩
theorem sc_factoring_of : FnScope ["webs", "told", "factors", "some", "rows", "found", "number", "whole", "place", "one", "web"] ["webs"] (defScope s_factoring_of) := ⟨rfl, rfl, rfl, by decide +kernel, rfl, by decide +kernel, by decide +kernel⟩
theorem sc_places_by : FnScope ["factoring", "place", "row"] ["factoring"] (defScope s_places_by) := ⟨rfl, rfl, rfl, by decide +kernel, rfl, by decide +kernel, by decide +kernel⟩
theorem sc_unlike_at : FnScope ["row", "other", "k"] ["row", "other"] (defScope s_unlike_at) := ⟨rfl, rfl, rfl, by decide +kernel, rfl, by decide +kernel, by decide +kernel⟩
theorem sc_parted_by : FnScope ["first", "second", "naming", "places", "base", "turn", "found", "k", "web", "images", "at", "image"] ["first", "second", "naming"] (defScope s_parted_by) := ⟨rfl, rfl, rfl, by decide +kernel, rfl, by decide +kernel, by decide +kernel⟩
theorem sc_joined_by : FnScope ["first", "second", "parts", "turn", "some", "places", "found", "row", "image", "k", "to"] ["first", "second", "parts"] (defScope s_joined_by) := ⟨rfl, rfl, rfl, by decide +kernel, rfl, by decide +kernel, by decide +kernel⟩
theorem sc_fits : FnScope ["webs"] ["webs"] (defScope s_fits) := ⟨rfl, rfl, rfl, by decide +kernel, rfl, by decide +kernel, by decide +kernel⟩
theorem sc_made_of : FnScope ["webs", "lists", "ties", "number", "beside", "web", "row", "other"] ["webs"] (defScope s_made_of) := ⟨rfl, rfl, rfl, by decide +kernel, rfl, by decide +kernel, by decide +kernel⟩
theorem sc_product : FnScope ["webs"] ["webs"] (defScope s_product) := ⟨rfl, rfl, rfl, by decide +kernel, rfl, by decide +kernel, by decide +kernel⟩
theorem sc_followed : FnScope ["parts", "start", "own", "later", "turn", "some", "to", "found", "again"] ["parts", "start", "own", "later"] (defScope s_followed) := ⟨rfl, rfl, rfl, by decide +kernel, rfl, by decide +kernel, by decide +kernel⟩
theorem sc_cancelled : FnScope ["one", "other", "third", "naming", "web", "first", "second", "parts", "ahead", "later", "ends", "k", "to", "some"] ["one", "other", "third", "naming"] (defScope s_cancelled) := ⟨rfl, rfl, rfl, by decide +kernel, rfl, by decide +kernel, by decide +kernel⟩
theorem sc_law_pool : FnScope ["_law_script", "_law_k", "_law_cell", "_law_number_here", "_law_great"] ["_law_script", "_law_k"] (defScope s_law_pool) := ⟨rfl, rfl, rfl, by decide +kernel, rfl, by decide +kernel, by decide +kernel⟩
theorem sc_law_take : FnScope ["_law_pool_here", "_law_many_here", "_law_found"] ["_law_pool_here", "_law_many_here"] (defScope s_law_take) := ⟨rfl, rfl, rfl, by decide +kernel, rfl, by decide +kernel, by decide +kernel⟩
theorem sc_law_web : FnScope ["_law_pool_here", "_law_most", "_law_more", "_law_many_here", "_law_names", "_law_order", "_law_pairs", "_law_k", "_law_ties", "_law_one", "_law_other"] ["_law_pool_here", "_law_most", "_law_more"] (defScope s_law_web) := ⟨rfl, rfl, rfl, by decide +kernel, rfl, by decide +kernel, by decide +kernel⟩
theorem sc_law_many : FnScope ["_law_webs", "_law_places", "_law_many_here", "_law_ties"] ["_law_webs"] (defScope s_law_many) := ⟨rfl, rfl, rfl, by decide +kernel, rfl, by decide +kernel, by decide +kernel⟩
theorem sc_law_rows : FnScope ["_law_webs", "_law_rows_here", "_law_many_here", "_law_ties", "_law_longer", "_law_row", "_law_place"] ["_law_webs"] (defScope s_law_rows) := ⟨rfl, rfl, rfl, by decide +kernel, rfl, by decide +kernel, by decide +kernel⟩
theorem sc_law_product : FnScope ["_law_webs", "_law_rows_here", "_law_ties", "_law_number_here", "_law_row", "_law_weight", "_law_k", "_law_one", "_law_other"] ["_law_webs"] (defScope s_law_product) := ⟨rfl, rfl, rfl, by decide +kernel, rfl, by decide +kernel, by decide +kernel⟩
theorem sc_law_shuffled : FnScope ["_law_pool_here", "_law_many_here", "_law_names", "_law_k"] ["_law_pool_here", "_law_many_here"] (defScope s_law_shuffled) := ⟨rfl, rfl, rfl, by decide +kernel, rfl, by decide +kernel, by decide +kernel⟩
theorem sc_law_renumbered : FnScope ["_law_web_here", "_law_order", "_law_ties", "_law_one", "_law_other"] ["_law_web_here", "_law_order"] (defScope s_law_renumbered) := ⟨rfl, rfl, rfl, by decide +kernel, rfl, by decide +kernel, by decide +kernel⟩
theorem sc_law_bases : FnScope ["_law_pool_here", "_law_most", "_law_bases_here", "_law_bound", "_law_found", "_law_turn", "_law_which", "_law_one"] ["_law_pool_here", "_law_most"] (defScope s_law_bases) := ⟨rfl, rfl, rfl, by decide +kernel, rfl, by decide +kernel, by decide +kernel⟩
theorem sc_law_dressed : FnScope ["_law_pool_here", "_law_bases_here", "_law_some", "_law_found", "_law_which", "_law_order"] ["_law_pool_here", "_law_bases_here", "_law_some"] (defScope s_law_dressed) := ⟨rfl, rfl, rfl, by decide +kernel, rfl, by decide +kernel, by decide +kernel⟩
theorem sc_law_matched : FnScope ["_law_pool_here", "_law_ones", "_law_others", "_law_left", "_law_which", "_law_j", "_law_one"] ["_law_pool_here", "_law_ones", "_law_others"] (defScope s_law_matched) := ⟨rfl, rfl, rfl, by decide +kernel, rfl, by decide +kernel, by decide +kernel⟩
theorem sc_law_led : FnScope ["_law_ones", "_law_others", "_law_match", "_law_row", "_law_image", "_law_k", "_law_place"] ["_law_ones", "_law_others", "_law_match", "_law_row"] (defScope s_law_led) := ⟨rfl, rfl, rfl, by decide +kernel, rfl, by decide +kernel, by decide +kernel⟩
theorem sc_law_number : FnScope ["_law_webs", "_law_row", "_law_found", "_law_place", "_law_web_here"] ["_law_webs", "_law_row"] (defScope s_law_number) := ⟨rfl, rfl, rfl, by decide +kernel, rfl, by decide +kernel, by decide +kernel⟩
theorem sc_law_webs_of : FnScope ["_law_dressed_here", "_law_which", "_law_order", "_law_web_here"] ["_law_dressed_here"] (defScope s_law_webs_of) := ⟨rfl, rfl, rfl, by decide +kernel, rfl, by decide +kernel, by decide +kernel⟩
theorem sc_law_case : FnScope ["_law_pool_here", "_law_bases_here", "_law_some", "_law_cut", "_law_ones", "_law_order", "_law_others", "_law_thirds", "_law_match", "_law_webs", "_law_made", "_law_numbers", "_law_found", "_law_row", "_law_image", "_law_start", "_law_end", "_law_k", "_law_own", "_law_web_here"] ["_law_pool_here"] (defScope s_law_case) := ⟨rfl, rfl, rfl, by decide +kernel, rfl, by decide +kernel, by decide +kernel⟩
theorem sc_law_beside : FnScope ["_law_found", "_law_many_here", "_law_row", "_law_place", "_law_at"] ["_law_found", "_law_many_here"] (defScope s_law_beside) := ⟨rfl, rfl, rfl, by decide +kernel, rfl, by decide +kernel, by decide +kernel⟩
theorem sc_law_turned : FnScope ["_law_found", "_law_ones", "_law_others", "_law_many_here", "_law_row", "_law_start", "_law_end", "_law_spot"] ["_law_found", "_law_ones", "_law_others", "_law_many_here"] (defScope s_law_turned) := ⟨rfl, rfl, rfl, by decide +kernel, rfl, by decide +kernel, by decide +kernel⟩
theorem sc_law_right : FnScope ["_law_one", "_law_other", "_law_third", "_law_naming", "_law_found", "_law_both", "_law_products", "_law_again", "_law_back", "_law_about", "_law_others", "_law_point", "_law_left", "_law_alone", "_law_pair"] ["_law_one", "_law_other", "_law_third", "_law_naming"] (defScope s_law_right) := ⟨rfl, rfl, rfl, by decide +kernel, rfl, by decide +kernel, by decide +kernel⟩
theorem sc_law : FnScope ["_law_script", "_law_k", "_law_one", "_law_other", "_law_third", "_law_naming"] ["_law_script"] (defScope s_law) := ⟨rfl, rfl, rfl, by decide +kernel, rfl, by decide +kernel, by decide +kernel⟩
end K48

/-! The last checks of the law. -/
namespace M
open Ty (en)
/-- found times the places of the third -/
def bothOf (f : List Nat) (m : Nat) : List Nat := f.flatMap fun p => (List.range m).map fun a => p * m + a
def spotOf (m a p : Nat) : Nat := p % m * a + p / m
def turnAbout (f : List Nat) (a b m : Nat) : List Nat := (en f).foldl (fun l p => l.set (spotOf m a p.1) (spotOf m b p.2)) (List.replicate f.length 0)
theorem turnAbout_len (a b m : Nat) : ∀ (ps : List (Nat × Nat)) (l : List Nat), (ps.foldl (fun l p => l.set (spotOf m a p.1) (spotOf m b p.2)) l).length = l.length
  | [], l => rfl
  | p :: ps, l => by
    rw [List.foldl_cons, turnAbout_len a b m ps]
    exact List.length_set
end M
namespace M
abbrev point : Web := (1, [])
/-- what the last checks ask -/
structure RightPre (one other third : Web) (n : List Nat) : Prop where
  c1 : CancelPre one other third n
  l1 : (cancel one other third n).length ≤ 100
  n1 : IsNaming (madeOf [one, third]) (madeOf [other, third]) (bothOf (cancel one other third n) third.1)
  c2 : CancelPre one other third (bothOf (cancel one other third n) third.1)
  t2 : (cancel one other third (bothOf (cancel one other third n) third.1)).length ≤ 100 ∧ ∀ p ∈ cancel one other third (bothOf (cancel one other third n) third.1), p < (cancel one other third (bothOf (cancel one other third n) third.1)).length
  b2 : ∀ p ∈ cancel one other third n, p < (turnedBack (cancel one other third (bothOf (cancel one other third n) third.1))).length
  n2 : IsNaming one other (cancel one other third (bothOf (cancel one other third n) third.1))
  n3 : IsNaming one one (behind (cancel one other third n) (turnedBack (cancel one other third (bothOf (cancel one other third n) third.1))))
  t3 : n.length ≤ 10000 ∧ ∀ j, j < n.length → spotOf third.1 one.1 j < n.length
  f3 : FitPre [third, one]
  f4 : FitPre [third, other]
  v3 : Valid (madeOf [third, one])
  v4 : Valid (madeOf [third, other])
  n4 : IsNaming (madeOf [third, one]) (madeOf [third, other]) (turnAbout n one.1 other.1 third.1)
  c3 : CancelPre point point third (List.range third.1)
  e3 : cancel point point third (List.range third.1) = [0]
  c4 : CancelPre one other point (cancel one other third n)
  n5 : IsNaming one other (cancel one other point (cancel one other third n))
  c5 : CancelPre (madeOf [one, third]) (madeOf [other, third]) point n
  n6 : IsNaming (madeOf [one, third]) (madeOf [other, third]) (cancel (madeOf [one, third]) (madeOf [other, third]) point n)
end M

namespace K48
open PySem PySem.Spec PyProof.Rows L2 Ty M
theorem dyq {α : Type} [Enc α] {x y : α} (h : x = y) : (⟨x⟩ : Dyn) = ⟨y⟩ := by rw [h]

section
variable {W : Wd} (T : Top W)
include T
/-! ### webs -/
theorem kn_is_whole : Kn W 1 "is_whole" ["thing"] (spF1 (fun _ : Nat => True) fun _ => true) :=
  kn_of (n := 0) T.f_is_whole sc_is_whole rfl (fun _ => rfl) (fun _ _ _ _ _ _ us hl => match us, hl with | [_], _ => rfl) fun f cdv A outer s H E hr i _ =>
    ss_one (s_ret (e_and2 (e_isi "int" true ti_nat T.isinstance_ (e_v 0) (e_tyv T.int_ (by decide +kernel))) fun _ => e_not (e_isi "bool" false ti_nat T.isinstance_ (e_v 0) (e_tyv T.bool_ (by decide +kernel)))) rfl)
theorem kn_is_within : Kn W 2 "is_within" ["thing", "least", "most"] (spF3 (fun (_ : Nat) (_ _ : Int) => True) fun x l m => decide (l ≤ (x : Int)) && decide ((x : Int) ≤ m)) :=
  kn_of (n := 0) T.f_is_within sc_is_within rfl (fun _ => rfl) (fun _ _ _ _ _ _ us hl => match us, hl with | [_, _, _], _ => rfl) fun f cdv A outer s H E hr i _ =>
    ss_one (s_ret (e_and2 (e_call1 (kn_is_whole T) hr (e_v 0) trivial) fun _ => e_within (e_v 1) (e_v 0).int (e_v 2)) rfl)
theorem kn_is_tie : Kn W 3 "is_tie" ["many", "thing"] (spF2 (fun (_ : Nat) (_ : Tie) => True) isTie) :=
  kn_of (n := 0) T.f_is_tie sc_is_tie rfl (fun _ => rfl) (fun _ _ _ _ _ _ us hl => match us, hl with | [_, _], _ => rfl) fun f cdv A outer s H E hr i _ =>
    ss_cons (s_ifNo ((t_or2 (t_not (TJ.val (e_isi "tuple" true ti_pair T.isinstance_ (e_v 1) (e_tyv T.tuple_ (by decide +kernel))))) fun _ => t_neN (e_len2 T.len_ (e_v 1)) (e_n 2)).as rfl)
      (ss_cons (s_if (t_or2 (t_not (TJ.val (e_call3 (kn_is_within T) hr (e_at0 (e_v 1)) (e_i 0) (e_subI (e_v 0).int (e_i 1)) trivial))) fun _ => t_not (TJ.val (e_call3 (kn_is_within T) hr (e_at1 (e_v 1)) (e_i 0) (e_subI (e_v 0).int (e_i 1)) trivial)))
        (fun hk => ss_one (s_ret e_b (dyq (by
          simp only [Bool.or_eq_true, Bool.not_eq_true', Bool.and_eq_false_iff, decide_eq_false_iff_not] at hk
          exact (decide_eq_false (by omega)).symm))))
        (fun hk => ss_nil (ss_one (s_ret (e_ltN (e_at0 (e_v 1)) (e_at1 (e_v 1))) (dyq (by
          simp only [Bool.or_eq_false_iff, Bool.not_eq_false', Bool.and_eq_true, decide_eq_true_eq] at hk
          unfold isTie
          by_cases h : i.2.1 < i.2.2
          · rw [decide_eq_true h, decide_eq_true (by omega)]
          · rw [decide_eq_false h, decide_eq_false (by omega)]))))))))
theorem kn_tie_of : Kn W 1 "tie_of" ["one", "other"] (spF2 (fun _ _ : Nat => True) tieOf) :=
  kn_of (n := 0) T.f_tie_of sc_tie_of rfl (fun _ => rfl) (fun _ _ _ _ _ _ us hl => match us, hl with | [_, _], _ => rfl) fun f cdv A outer s H E hr i _ =>
    ss_one (s_ret (e_tup2 (e_minN T.min_ (e_v 0) (e_v 1)) (e_maxN T.max_ (e_v 0) (e_v 1))) rfl)
theorem kn_look_at_web : Kn W 4 "look_at_web" ["thing"] (spF1 Valid fun _ => ()) :=
  kn_of (n := 5) T.f_look_at_web sc_look_at_web rfl (fun _ => rfl) (fun _ _ _ _ _ _ us hl => match us, hl with | [_], _ => rfl) fun f cdv A outer s H E hr i ok =>
    have nd := sc_look_at_web.nd
    ss_cons (s_ifNo ((t_or2 (t_not (TJ.val (e_isi "tuple" true ti_pair T.isinstance_ (e_v 0) (e_tyv T.tuple_ (by decide +kernel))))) fun _ => t_neN (e_len2 T.len_ (e_v 0)) (e_n 2)).as rfl)
      (ss_cons (s_asg (e_v 0) (g_pair nd 1 2)
      (ss_cons (s_ifNo ((t_not (TJ.val (e_call3 (kn_is_within T) (hr.mono (by decide)) (e_v 1) (e_i 1) (e_gn T.MOST_PLACES_webs).int trivial))).as (by
          have h1 := ok.pos
          have h2 := ok.le
          rw [decide_eq_true (by omega), decide_eq_true (by omega)]
          rfl))
      (ss_cons (s_ifNo ((t_or2 (t_not (TJ.val (e_isi "list" true ti_list T.isinstance_ (e_v 2) (e_tyv T.list_ (by decide +kernel))))) fun _ => t_gtN (e_len T.len_ (e_v 2)) (e_gn T.MOST_TIES_webs)).as (by
          have h1 := ok.few
          rw [decide_eq_false (by omega)]
          rfl))
      (ss_cons (s_set nd 3 (e_tup2 (e_negI (e_i 1)) (e_negI (e_i 1)))
      (ss_one (s_for (i_enum T.enumerate_ (e_v 2)) (g_pair nd 4 5)
        (fun j Γ => ∃ a b s4 s5, Γ = [.fro ⟨i⟩, .fro ⟨i.1⟩, .fro ⟨i.2⟩, .fro ⟨((a : Int), (b : Int))⟩, s4, s5] ∧ (j = 0 → a = -1 ∧ b = -1) ∧ ∀ t, i.2[j - 1]? = some t → 0 < j → a = (t.1 : Int) ∧ b = (t.2 : Int))
        ⟨_, _, _, _, rfl, fun _ => ⟨rfl, rfl⟩, fun t _ h => absurd h (Nat.lt_irrefl 0)⟩
        (fun j x Γ hx hp => by
          obtain ⟨a, b, s4, s5, rfl, h0, h1⟩ := hp
          obtain ⟨_, hx⟩ := en_get hx
          have ht := ok.tie _ (List.mem_of_getElem? hx)
          refine ss_cons (s_ifNo ((t_or2 (t_not (TJ.val (e_call2 (kn_is_tie T) (hr.mono (by decide)) (e_v 1) (e_v 5) trivial))) fun _ => t_leP hr (EJ.pI (e_v 5)) (e_v 3)).as ?_)
            (ss_one (s_set nd 3 (EJ.pI (e_v 5)) ⟨_, _, _, _, rfl, fun z => by omega, fun t ht _ => ?_⟩)))
          · rw [show isTie i.1 x.2 = true from decide_eq_true (by omega)]
            rw [decide_eq_false]
            · rfl
            · cases j with
              | zero =>
                obtain ⟨rfl, rfl⟩ := h0 rfl
                omega
              | succ j =>
                have hj : j + 1 < i.2.length := (List.getElem?_eq_some_iff.mp hx).1
                have e1 : i.2[j]? = some i.2[j] := List.getElem?_eq_getElem (by omega)
                obtain ⟨rfl, rfl⟩ := h1 _ e1 (by omega)
                have lt := List.pairwise_iff_getElem.mp ok.inc j (j + 1) (by omega) hj (by omega)
                rw [List.getElem?_eq_getElem hj] at hx
                rw [Option.some.inj hx] at lt
                unfold ltT at lt
                omega
          · have e2 : i.2[j]? = some t := ht
            rw [hx] at e2
            rw [Option.some.inj e2]
            exact ⟨rfl, rfl⟩)
        (fun Γ _ => rfl))))))))))))
end
end K48

namespace K48
open PySem PySem.Spec PyProof.Rows L2 Ty M

theorem b2 (hb : ∀ us : List Value, us.length = 2 → True) : True := trivial
section
variable {W : Wd} (T : Top W)
include T
theorem kn_is_place : Kn W 3 "is_place" ["web", "thing"] (spF2 (fun (_ : Web) (_ : Nat) => True) isPlace) :=
  kn_of (n := 0) T.f_is_place sc_is_place rfl (fun _ => rfl) (fun _ _ _ _ _ _ us hl => match us, hl with | [_, _], _ => rfl) fun f cdv A outer s H E hr i _ =>
    ss_one (s_ret (e_call3 (kn_is_within T) hr (e_v 1) (e_i 0) (e_subI (e_at0 (e_v 0)).int (e_i 1)) trivial) (dyq (by
      show (decide (0 ≤ (i.2 : Int)) && decide ((i.2 : Int) ≤ (i.1.1 : Int) - 1)) = decide (i.2 < i.1.1)
      by_cases h : i.2 < i.1.1
      · rw [decide_eq_true h, decide_eq_true (by omega), decide_eq_true (by omega)]
        rfl
      · rw [decide_eq_false h, decide_eq_false (p := (i.2 : Int) ≤ _) (by omega), Bool.and_false])))
theorem kn_beside_all : Kn W 2 "beside_all" ["web"] (spF1 Valid besideAll) :=
  kn_of (n := 5) T.f_beside_all sc_beside_all rfl (fun _ => rfl) (fun _ _ _ _ _ _ us hl => match us, hl with | [_], _ => rfl) fun f cdv A outer s H E hr w ok =>
    have nd := sc_beside_all.nd
    have h40 := ok.le
    ss_cons (s_mapL nd 1 [("place", 4)] (fun _ => ([] : List Nat)) (i_range T.range_ (e_at0 (e_v 0)) (by omega)) (gb_name nd 4) (fun _ _ _ _ _ _ _ _ => n_lst l_nil (by decide)) (by rw [List.length_range]; omega) fun ps =>
    ss_cons (s_for (i_list (e_at1 (e_v 0))) (g_pair nd 2 3)
      (fun j Γ => ∃ ps s2 s3, Γ = [.fro ⟨w⟩, .own ps ⟨(⟨(List.range w.1).map (rawNb (w.2.take j))⟩ : Oll Nat)⟩, s2, s3, .non, .non])
      ⟨_, _, _, rfl⟩
      (fun j t Γ hx hp => by
        obtain ⟨qs, s2, s3, rfl⟩ := hp
        obtain ⟨h1, h2⟩ := ok.tie _ (List.mem_of_getElem? hx)
        have hl := ok.few
        have r1 := rawNb_len (w.2.take j) t.1
        have r2 := rawNb_len (w.2.take j) t.2
        have hl2 : (w.2.take j).length ≤ w.2.length := by rw [List.length_take]; omega
        refine ss_cons (s_appL (zs := rawNb (w.2.take j) t.1) 1 (e_v 2) (e_v 3) (get_map_range (n := w.1) _ (by omega)) (by omega) ?_)
        refine ss_one (s_appL 1 (e_v 3) (e_v 2) (zs := rawNb (w.2.take j) t.2) ?_ (by omega) ⟨qs, .fro ⟨t.1⟩, .fro ⟨t.2⟩, ?_⟩)
        · rw [List.getElem?_set_ne (by omega)]
          exact get_map_range _ h2
        · rw [take_len_succ hx, rawNb_step h1]
          rfl)
      (fun Γ hp => by
        obtain ⟨qs, s2, s3, rfl⟩ := hp
        rw [List.take_length]
        exact ss_one (s_ret (NJ.fz (n_map nd [("places", 5)] srt (i_list (EJ.fzll 1 (e_v 1))) (gb_name nd 5) (fun _ _ _ _ _ _ _ _ => NJ.fz (n_sorted T.sorted_ hr (e_v 5))) (by rw [List.length_map, List.length_range]; omega))) (dyq (by
          show List.map srt ((List.range w.1).map (rawNb w.2)) = _
          rw [List.map_map]
          apply List.map_congr_left
          intro p _
          exact srt_nat _))))))
theorem kn_ties_by : Kn W 2 "ties_by" ["web"] (spF1 (fun w : Web => w.2.Nodup ∧ w.2.length ≤ 1000) fun w => (⟨w.2.map fun t => (t, true)⟩ : DT Tie Bool)) :=
  kn_of (n := 1) T.f_ties_by sc_ties_by rfl (fun _ => rfl) (fun _ _ _ _ _ _ us hl => match us, hl with | [_], _ => rfl) fun f cdv A outer s H E hr w ok =>
    have nd := sc_ties_by.nd
    ss_one (s_ret (NJ.fzD (n_dictT T.dict_ hr (NJ.fz (n_map nd [("tie", 1)] (fun t : Tie => (t, true)) (i_list (e_at1 (e_v 0))) (gb_name nd 1) (fun _ _ _ _ _ _ _ _ => e_tup2 (e_v 1) e_b) (by have := ok.2; omega))) (by
      rw [List.map_map]
      rw [show ((fun p : Tie × Bool => p.1) ∘ fun t : Tie => (t, true)) = id from rfl, List.map_id]
      exact ok.1))) rfl)
/-! ### ways -/
theorem kn_far_by : Kn W 2 "far_by" ["beside", "place"] (spF2 (fun (bs : List (List Nat)) p => BsOk bs ∧ p < bs.length ∧ ∀ u, (nbOf bs u).length ≤ 1000) farBy) :=
  kn_of (n := 4) T.f_far_by sc_far_by rfl (fun _ => rfl) (fun _ _ _ _ _ _ us hl => match us, hl with | [_, _], _ => rfl) fun f cdv A outer s H E hr i ok =>
    have nd := sc_far_by.nd
    have hl : i.1.length ≤ 40 := ok.1.1
    ss_cons (s_new nd 2 (n_rep (NJ.fz (n_lst (l_cons (e_none (α := Nat)) l_nil) (by decide))) (e_len T.len_ (e_v 0)) (by omega)) fun ps =>
    ss_cons (s_setO 2 (EJ.some (e_n 0)) (e_v 1) (by rw [List.length_replicate]; exact ok.2.1)
    (ss_cons (s_new nd 3 (n_lst (l_cons (e_v 1) l_nil) (by simp)) fun qs =>
    ss_cons (s_set nd 4 (e_n 0)
    (ss_cons (s_while (fun m Γ => ∃ a fo ro p2 p3 s5, Γ = [.fro ⟨i.1⟩, .fro ⟨i.2⟩, .own p2 ⟨(⟨fo⟩ : Ol (Option Nat))⟩, .own p3 ⟨(⟨ro⟩ : Ol Nat)⟩, .fro ⟨a⟩, s5] ∧ BI i.1.length (nbOf i.1) i.2 a [] fo ro ∧ a ≤ ro.length ∧ m = i.1.length - a)
      (i.1.length - 0) ⟨0, _, _, _, _, _, rfl, BI.start ok.2.1, by simp, rfl⟩
      (fun m Γ hp => by
        obtain ⟨a, fo, ro, p2, p3, s5, rfl, bi, hal, rfl⟩ := hp
        have hrl := nodup_le bi.rlt bi.nd
        refine ⟨_, _, t_ltN (e_v 4) (e_lenO 3 T.len_), fun hk => ?_, fun hk => ?_⟩
        · have hlt : a < ro.length := of_decide_eq_true hk
          have hu : ro[a]? = some ro[a] := List.getElem?_eq_getElem hlt
          generalize ro[a] = u at hu
          have hun : u < i.1.length := bi.rlt u (List.mem_of_getElem? hu)
          obtain ⟨d, hd⟩ := (bi.mem u).mp (List.mem_of_getElem? hu)
          have hb : i.1[u]? = some (nbOf i.1 u) := by
            unfold nbOf
            rw [List.getD_eq_getElem?_getD, List.getElem?_eq_getElem hun] <;> rfl
          refine ss_cons (s_for (i_list (e_ix (e_v 0) (e_ixO 3 (e_v 4) hu) hb)) (g_name nd 5)
            (fun j Γ => ∃ fo ro p2 p3 s5, Γ = [.fro ⟨i.1⟩, .fro ⟨i.2⟩, .own p2 ⟨(⟨fo⟩ : Ol (Option Nat))⟩, .own p3 ⟨(⟨ro⟩ : Ol Nat)⟩, .fro ⟨a⟩, s5] ∧ BI i.1.length (nbOf i.1) i.2 a ((nbOf i.1 u).take j) fo ro ∧ ro[a]? = some u ∧ fo[u]? = some (some d))
            ⟨_, _, _, _, _, rfl, by rw [List.take_zero]; exact bi, hu, hd⟩
            (fun j v Γ hx hp => ?_) (fun Γ hp => ?_))
          · obtain ⟨fo, ro, p2, p3, s5, rfl, bj, hu, hd⟩ := hp
            have hv := List.mem_of_getElem? hx
            have hvn := ok.1.2 u v hv
            have hrl := nodup_le bj.rlt bj.nd
            have hfv : v < fo.length := by rw [bj.len]; exact hvn
            have efv : fo[v]? = some fo[v] := List.getElem?_eq_getElem hfv
            generalize fo[v] = o at efv
            refine ss_one (s_if (t_isN nn_nat (e_ixO 2 (e_v 5) efv)) (fun hk => ?_) fun hk => ?_)
            · have eo : o = none := by
                cases o with
                | none => rfl
                | some _ => cases hk
              subst eo
              have unv : u ≠ v := fun z => by
                rw [← z, hd] at efv
                cases Option.some.inj efv
              refine ss_cons (s_setO 2 (EJ.some (e_addN ((e_ixO 2 (e_ixO 3 (e_v 4) hu) hd).got rfl) (e_n 1))) (e_v 5) hfv ?_)
              refine ss_one (s_app (xs := ro) 3 (e_v 5) (by omega) ⟨_, _, _, _, _, rfl, ?_, ?_, ?_⟩)
              · rw [take_len_succ hx]
                exact bj.new hu hd hvn efv hv
              · rw [List.getElem?_append_left (List.getElem?_eq_some_iff.mp hu).1]
                exact hu
              · rw [List.getElem?_set_ne (Ne.symm unv)]
                exact hd
            · refine ss_nil ⟨_, _, _, _, _, rfl, ?_, hu, hd⟩
              rw [take_len_succ hx]
              refine bj.old hu ((bj.mem v).mpr ?_)
              cases o with
              | none => cases hk
              | some e => exact ⟨e, efv⟩
          · obtain ⟨fo', ro', p2, p3, s5, rfl, bj, hu, hd⟩ := hp
            rw [List.take_length] at bj
            have hal' : a < ro'.length := (List.getElem?_eq_some_iff.mp hu).1
            have hrl := nodup_le bj.rlt bj.nd
            exact ss_one (s_augN nd 4 (e_n 1) ⟨i.1.length - (a + 1), by omega, a + 1, _, _, _, _, _, rfl, bj.next hu, by omega, rfl⟩)
        · have hge : ro.length ≤ a := Nat.le_of_not_lt (of_decide_eq_false hk)
          exact ss_one (s_ret (e_fz 2) (dyq (bi.fin hge)))))))))))
end
end K48

namespace K48
open PySem PySem.Spec PyProof.Rows L2 Ty M
theorem nbOf_len (w : Web) (h : Valid w) (u : Nat) : (nbOf (besideAll w) u).length ≤ 1000 := by
  by_cases hu : u < w.1
  · rw [nbOf_beside hu]
    unfold nbs
    rw [List.length_mergeSort]
    have := rawNb_len w.2 u
    have := h.few
    omega
  · unfold nbOf
    rw [List.getD_eq_getElem?_getD, List.getElem?_eq_none (by simp [besideAll]; omega)]
    simp
theorem bs_len (w : Web) : (besideAll w).length = w.1 := by simp [besideAll]
section
variable {W : Wd} (T : Top W)
include T
theorem kn_far_table : Kn W 3 "far_table" ["web"] (spF1 Valid farTable) :=
  kn_of (n := 2) T.f_far_table sc_far_table rfl (fun _ => rfl) (fun _ _ _ _ _ _ us hl => match us, hl with | [_], _ => rfl) fun f cdv A outer s H E hr w ok =>
    have nd := sc_far_table.nd
    have h40 := ok.le
    ss_cons (s_set nd 1 (e_call1 (kn_beside_all T) hr (e_v 0) ok)
    (ss_one (s_ret (NJ.fz (n_map nd [("place", 2)] (farBy (besideAll w)) (i_range T.range_ (e_at0 (e_v 0)) (by omega)) (gb_name nd 2)
      (fun j x hx _ _ _ _ _ => e_call2 (kn_far_by T) hr (e_v 1) (e_v 2) ⟨bsOk_beside ok, by
        have h := (List.getElem?_eq_some_iff.mp hx).1
        have e := (List.getElem?_eq_some_iff.mp hx).2
        rw [List.getElem_range] at e
        rw [List.length_range] at h
        rw [bs_len]
        omega, nbOf_len w ok⟩) (by rw [List.length_range]; omega))) rfl)))
theorem kn_together : Kn W 3 "together" ["web"] (spF1 (fun w => Valid w ∧ Conn w) fun _ => true) :=
  kn_of (n := 0) T.f_together sc_together rfl (fun _ => rfl) (fun _ _ _ _ _ _ us hl => match us, hl with | [_], _ => rfl) fun f cdv A outer s H E hr w ok =>
    have h0 := ok.1.pos
    ss_one (s_ret (e_noneNotIn (e_call2 (kn_far_by T) hr (e_call1 (kn_beside_all T) hr (e_v 0) ok.1) (e_n 0) ⟨bsOk_beside ok.1, by rw [bs_len]; omega, nbOf_len w ok.1⟩)) (dyq (by
      rw [decide_eq_false]
      · rfl
      · intro h
        unfold farBy at h
        rw [List.mem_map] at h
        obtain ⟨q, hq, e⟩ := h
        rw [List.mem_range, bs_len] at hq
        exact far_none.mp e (ok.2 q hq))))
theorem kn_look_together : Kn W 4 "look_together" ["web"] (spF1 (fun w => Valid w ∧ Conn w) fun _ => ()) :=
  kn_of (n := 0) T.f_look_together sc_look_together rfl (fun _ => rfl) (fun _ _ _ _ _ _ us hl => match us, hl with | [_], _ => rfl) fun f cdv A outer s H E hr w ok =>
    ss_one (s_ifNo (t_not (TJ.val (e_call1 (kn_together T) hr (e_v 0) ok))) rfl)
theorem kn_pieces_of : Kn W 3 "pieces_of" ["web"] (spF1 Valid piecesOf) :=
  kn_of (n := 7) T.f_pieces_of sc_pieces_of rfl (fun _ => rfl) (fun _ _ _ _ _ _ us hl => match us, hl with | [_], _ => rfl) fun f cdv A outer s H E hr w ok =>
    have nd := sc_pieces_of.nd
    have h40 := ok.le
    ss_cons (s_set nd 1 (e_call1 (kn_beside_all T) hr (e_v 0) ok)
    (ss_cons (s_new nd 2 (n_rep (NJ.fz (n_lst (l_cons e_b l_nil) (by decide))) (e_at0 (e_v 0)) (by omega)) fun p2 =>
    ss_cons (s_new nd 3 (n_lst (α := List Nat) l_nil (by decide)) fun p3 =>
    ss_cons (s_for (i_range T.range_ (e_at0 (e_v 0)) (by omega)) (g_name nd 4)
      (fun j Γ => ∃ p2 p3 s4 s5 s6 s7, Γ = [.fro ⟨w⟩, .fro ⟨besideAll w⟩, .own p2 ⟨(⟨(List.range w.1).map (seenBy w j)⟩ : Ol Bool)⟩, .own p3 ⟨(⟨(((List.range w.1).take j).filter (isHead w)).map (comp w)⟩ : Ol (List Nat))⟩, s4, s5, s6, s7])
      (by
        refine ⟨p2, p3, .non, .non, .non, .non, ?_⟩
        have e : List.replicate w.1 false = (List.range w.1).map (seenBy w 0) := by
          apply List.ext_getElem?
          intro q
          by_cases hq : q < w.1
          · rw [get_map_range _ hq, List.getElem?_replicate, if_pos hq]
            rfl
          · rw [List.getElem?_eq_none (by simp; omega), List.getElem?_eq_none (by simp; omega)]
        rw [← e]
        rfl)
      (fun j x Γ hx hp => by
        obtain ⟨p2, p3, s4, s5, s6, s7, rfl⟩ := hp
        have hj : j < w.1 := by
          have := (List.getElem?_eq_some_iff.mp hx).1
          rwa [List.length_range] at this
        have ex : x = j := by
          have e := (List.getElem?_eq_some_iff.mp hx).2
          rw [List.getElem_range] at e
          exact e.symm
        subst ex
        have hd : isHead w x = !seenBy w x x := by rw [seenBy_head, Bool.not_not]
        have tk := fil_take_succ (p := isHead w) hx
        refine ss_one (s_if (t_not (TJ.val (e_ixO 2 (e_v 4) (get_map_range (n := w.1) _ hj)))) (fun hk => ?_) fun hk => ?_)
        · rw [← hd] at hk
          refine ss_cons (s_set nd 5 (e_call2 (kn_far_by T) hr (e_v 1) (e_v 4) ⟨bsOk_beside ok, by rw [bs_len]; exact hj, nbOf_len w ok⟩) ?_)
          refine ss_cons (s_fil nd 6 [("other", 7)] (fun q => (far (nbW w) x q).isSome) id (i_range T.range_ (e_at0 (e_v 0)) (by omega)) (gb_name nd 7) (fun i q hq _ _ _ _ _ => t_notN nn_nat (e_ix (e_v 5) (e_v 7) ?_)) (fun i q hq _ _ _ _ _ _ => e_v 7) (by rw [List.length_range]; omega) fun p6 => ?_)
          · have hi : i < w.1 := by
              have := (List.getElem?_eq_some_iff.mp hq).1
              rwa [List.length_range] at this
            have eq : q = i := by
              have e := (List.getElem?_eq_some_iff.mp hq).2
              rw [List.getElem_range] at e
              exact e.symm
            subst eq
            exact get_map_range (n := (besideAll w).length) _ (by rw [bs_len]; exact hi)
          · rw [List.map_id]
            have ec : (List.range w.1).filter (fun q => (far (nbW w) x q).isSome) = comp w x := rfl
            rw [ec]
            have hcl : (comp w x).length ≤ w.1 := by
              have := List.length_filter_le (fun q => (far (nbW w) x q).isSome) (List.range w.1)
              rwa [List.length_range] at this
            have hfl : ((((List.range w.1).take x).filter (isHead w)).map (comp w)).length ≤ w.1 := by
              rw [List.length_map]
              have := List.length_filter_le (isHead w) ((List.range w.1).take x)
              rw [List.length_take, List.length_range] at this
              omega
            refine SsJ.fzl 6 ?_
            refine ss_cons (s_for (i_list (e_v 6)) (g_name nd 7)
              (fun i Γ => ∃ p2 s7, Γ = [.fro ⟨w⟩, .fro ⟨besideAll w⟩, .own p2 ⟨(⟨(List.range w.1).map fun q => seenBy w x q || decide (q ∈ (comp w x).take i)⟩ : Ol Bool)⟩, .own p3 ⟨(⟨(((List.range w.1).take x).filter (isHead w)).map (comp w)⟩ : Ol (List Nat))⟩, .fro ⟨x⟩, .fro ⟨farBy (besideAll w) x⟩, .fro ⟨comp w x⟩, s7])
              ⟨p2, _, by simp; rfl⟩ (fun i q Γ hq hp => ?_) (fun Γ hp => ?_))
            · obtain ⟨p2, s7, rfl⟩ := hp
              have hqn : q < w.1 := by
                have := List.mem_of_getElem? hq
                unfold comp at this
                rw [List.mem_filter, List.mem_range] at this
                exact this.1
              refine ss_one (s_setO 2 e_b (e_v 7) ?_ ⟨p2, .fro ⟨q⟩, ?_⟩)
              · rw [List.length_map, List.length_range]
                exact hqn
              have e : (((List.range w.1).map fun q => seenBy w x q || decide (q ∈ (comp w x).take i)).set q true) = (List.range w.1).map fun r => seenBy w x r || decide (r ∈ (comp w x).take (i + 1)) := by
                rw [set_map_range]
                apply List.map_congr_left
                intro r _
                rw [take_len_succ hq]
                by_cases hr2 : r = q
                · rw [if_pos hr2, decide_eq_true (by simp [hr2]), Bool.or_true]
                · rw [if_neg hr2]
                  congr 1
                  simp [hr2]
              rw [← e]
              rfl
            · obtain ⟨p2, s7, rfl⟩ := hp
              rw [List.take_length]
              refine ss_one (s_app (xs := (((List.range w.1).take x).filter (isHead w)).map (comp w)) 3 (e_v 6) (by omega) ⟨p2, p3, .fro ⟨x⟩, .fro ⟨farBy (besideAll w) x⟩, .fro ⟨comp w x⟩, s7, ?_⟩)
              rw [tk, hk, if_pos rfl, List.map_append]
              have e : (List.range w.1).map (fun q => seenBy w x q || decide (q ∈ comp w x)) = (List.range w.1).map (seenBy w (x + 1)) := by
                apply List.map_congr_left
                intro r hr2
                rw [seenBy_succ]
                congr 1
                unfold comp
                rw [Bool.eq_iff_iff]
                simp [List.mem_filter, List.mem_range.mp hr2]
              rw [← e]
              rfl
        · rw [← hd] at hk
          refine ss_nil ⟨p2, p3, .fro ⟨x⟩, s5, s6, s7, ?_⟩
          rw [tk, hk, if_neg Bool.false_ne_true, List.append_nil]
          have e : seenBy w (x + 1) = seenBy w x := funext fun q => seenBy_no hk q
          rw [e]
          rfl)
      (fun Γ hp => by
        obtain ⟨p2, p3, s4, s5, s6, s7, rfl⟩ := hp
        rw [List.take_length]
        exact ss_one (s_ret (e_fz 3) rfl)))))))
end
end K48

namespace K48
open PySem PySem.Spec PyProof.Rows L2 Ty M
section
variable {W : Wd} (T : Top W)
include T
theorem kn_within_by : Kn W 2 "within_by" ["web", "places"] (spF2 (fun (w : Web) (ps : List Nat) => Valid w ∧ PlOk w ps) withinBy) :=
  kn_of (n := 6) T.f_within_by sc_within_by rfl (fun _ => rfl) (fun _ _ _ _ _ _ us hl => match us, hl with | [_, _], _ => rfl) fun f cdv A outer s H E hr i ok =>
    have nd := sc_within_by.nd
    have h40 := ok.1.le
    have hpl := ok.2.len
    have hfew := ok.1.few
    ss_cons (s_set nd 2 (e_dictI T.dict_ (NJ.fz (n_map nd [("k", 6), ("place", 7)] (fun p : Nat × Nat => (p.2, p.1)) (i_enum T.enumerate_ (e_v 1)) (gb_pair nd 6 7) (fun _ _ _ _ _ _ _ _ => e_tup2 (e_v 7) (e_v 6)) (by rw [en_len]; omega))) (by rw [en_swap_keys]; exact ok.2.nodup))
    (ss_cons (s_new nd 3 (n_lst (α := Tie) l_nil (by decide)) fun p3 =>
    ss_cons (s_for (i_list (e_at1 (e_v 0))) (g_pair nd 4 5)
      (fun j Γ => ∃ p3 s4 s5, Γ = [.fro ⟨i.1⟩, .fro ⟨i.2⟩, .fro ⟨(⟨(en i.2).map fun p => (p.2, p.1)⟩ : DI Nat)⟩, .own p3 ⟨(⟨((i.1.2.take j).filter fun t => decide (t.1 ∈ i.2) && decide (t.2 ∈ i.2)).map fun t => tieOf (i.2.idxOf t.1) (i.2.idxOf t.2)⟩ : Ol Tie)⟩, s4, s5, .non, .non])
      ⟨p3, .non, .non, rfl⟩
      (fun j t Γ hx hp => by
        obtain ⟨p3, s4, s5, rfl⟩ := hp
        have tk := fil_take_succ (p := fun t : Tie => decide (t.1 ∈ i.2) && decide (t.2 ∈ i.2)) hx
        have hj : j < i.1.2.length := (List.getElem?_eq_some_iff.mp hx).1
        have lb := List.length_filter_le (fun t : Tie => decide (t.1 ∈ i.2) && decide (t.2 ∈ i.2)) (i.1.2.take j)
        rw [List.length_take] at lb
        refine ss_one (s_if (t_and2 ((t_dinI hr (e_v 4) (e_v 2)).as (by rw [en_swap_keys])) fun _ => (t_dinI hr (e_v 5) (e_v 2)).as (by rw [en_swap_keys])) (fun hk => ?_) fun hk => ?_)
        · rw [Bool.and_eq_true, decide_eq_true_eq, decide_eq_true_eq] at hk
          refine ss_one (s_app 3 (e_call2 (kn_tie_of T) hr (e_dgetI hr (e_v 2) (e_v 4) (look_en ok.2.nodup hk.1)) (e_dgetI hr (e_v 2) (e_v 5) (look_en ok.2.nodup hk.2)) trivial) ?_ ⟨p3, .fro ⟨t.1⟩, .fro ⟨t.2⟩, ?_⟩)
          · rw [List.length_map]
            omega
          · rw [tk, if_pos (by rw [decide_eq_true hk.1, decide_eq_true hk.2]; rfl), List.map_append]
            rfl
        · refine ss_nil ⟨p3, .fro ⟨t.1⟩, .fro ⟨t.2⟩, ?_⟩
          rw [tk, if_neg (by rw [hk]; exact Bool.false_ne_true), List.append_nil]
          rfl)
      (fun Γ hp => by
        obtain ⟨p3, s4, s5, rfl⟩ := hp
        rw [List.take_length]
        exact ss_one (s_ret (e_tup2 (e_len T.len_ (e_v 1)) (NJ.fz (n_sorted T.sorted_ hr (EJ.fzl 3 (e_v 3))))) (dyq (by rw [srt_pair]; rfl))))))))
theorem kn_pieces : Kn W 5 "pieces" ["web"] (spF1 Valid piecesOf) :=
  kn_of (n := 0) T.f_pieces sc_pieces rfl (fun _ => rfl) (fun _ _ _ _ _ _ us hl => match us, hl with | [_], _ => rfl) fun f cdv A outer s H E hr w ok =>
    ss_cons (s_expr (e_call1 (kn_look_at_web T) hr (e_v 0) ok) (ss_one (s_ret (e_call1 (kn_pieces_of T) (hr.mono (by decide)) (e_v 0) ok) rfl)))
theorem kn_look_at_places : Kn W 4 "look_at_places" ["web", "places"] (spF2 (fun (w : Web) (ps : List Nat) => Valid w ∧ PlOk w ps) fun _ _ => ()) :=
  kn_of (n := 3) T.f_look_at_places sc_look_at_places rfl (fun _ => rfl) (fun _ _ _ _ _ _ us hl => match us, hl with | [_, _], _ => rfl) fun f cdv A outer s H E hr i ok => by
    have nd := sc_look_at_places.nd
    have h40 := ok.1.le
    have hpl := ok.2.len
    have e1 : (!true || (decide (i.2 = []) || !((i.2.map (isPlace i.1)).all id))) = false := by
      rw [decide_eq_false ok.2.ne]
      have : (i.2.map (isPlace i.1)).all id = true := by
        rw [List.all_map, List.all_eq_true]
        intro p hp
        exact decide_eq_true (ok.2.lt p hp)
      rw [this]
      rfl
    have e2 : (!((i.2.zip (i.2.drop 1)).map fun p : Nat × Nat => decide (p.1 < p.2)).all id) = false := by
      have : ((i.2.zip (i.2.drop 1)).map fun p : Nat × Nat => decide (p.1 < p.2)).all id = true := by
        rw [List.all_map, List.all_eq_true]
        intro p hp
        obtain ⟨j, hj⟩ := List.mem_iff_getElem?.mp hp
        obtain ⟨e1, e2⟩ := Ty.zip_get hj
        rw [List.getElem?_drop] at e2
        obtain ⟨l1, e1⟩ := List.getElem?_eq_some_iff.mp e1
        obtain ⟨l2, e2⟩ := List.getElem?_eq_some_iff.mp e2
        have := List.pairwise_iff_getElem.mp ok.2.inc j (1 + j) l1 l2 (by omega)
        rw [e1, e2] at this
        exact decide_eq_true this
      rw [this]
      rfl
    refine ss_cons (s_ifNo (TJ.as (t_or3 (t_not (TJ.val (e_isi "list" true ti_list T.isinstance_ (e_v 1) (e_tyv T.list_ (by decide +kernel))))) (fun _ => t_eqL hr (e_v 1) (NJ.fz (n_lst l_nil (by decide))))
      fun _ _ => t_not (TJ.val (e_all T.all_ (NJ.fz (n_map (Γ1 := starts [⟨i.1⟩, ⟨i.2⟩] 3) nd [("place", 2)] (isPlace i.1) (i_list (e_v 1)) (gb_name nd 2) (fun _ _ _ _ _ _ _ _ => e_call2 (kn_is_place T) hr (e_v 0) (e_v 2) trivial) (by omega)))))) e1) ?_)
    refine ss_one (s_ifNo (TJ.as (t_not (TJ.val (e_all T.all_ (NJ.fz (n_map nd [("one", 3), ("other", 4)] (fun p : Nat × Nat => decide (p.1 < p.2)) (i_zip T.zip_ (e_v 1) (NJ.fz (n_drop (e_v 1) (e_n 1)))) (gb_pair nd 3 4) (fun _ _ _ _ _ _ _ _ => e_ltN (e_v 3) (e_v 4)) (by rw [List.length_zip]; omega)))))) e2) rfl)
theorem kn_within : Kn W 5 "within" ["web", "places"] (spF2 (fun (w : Web) (ps : List Nat) => Valid w ∧ PlOk w ps) withinBy) :=
  kn_of (n := 0) T.f_within sc_within rfl (fun _ => rfl) (fun _ _ _ _ _ _ us hl => match us, hl with | [_, _], _ => rfl) fun f cdv A outer s H E hr i ok =>
    ss_cons (s_expr (e_call1 (kn_look_at_web T) hr (e_v 0) ok.1) (ss_cons (s_expr (e_call2 (kn_look_at_places T) hr (e_v 0) (e_v 1) ok) (ss_one (s_ret (e_call2 (kn_within_by T) (hr.mono (by decide)) (e_v 0) (e_v 1) ok) rfl)))))
/-! ### links -/
theorem kn_far_in : Kn W 1 "far_in" ["table", "tie", "other"] (spF3 (fun (tbl : List (List (Option Nat))) (t o : Tie) => HasD tbl t.1 o.1 ∧ HasD tbl t.2 o.2 ∧ HasD tbl t.1 o.2 ∧ HasD tbl t.2 o.1) farIn) :=
  kn_of (n := 4) T.f_far_in sc_far_in rfl (fun _ => rfl) (fun _ _ _ _ _ _ us hl => match us, hl with | [_, _, _], _ => rfl) fun f cdv A outer s H E hr i ok => by
    have nd := sc_far_in.nd
    obtain ⟨tbl, t, o⟩ := i
    obtain ⟨⟨r1, d1, a1, b1⟩, ⟨r2, d2, a2, b2⟩, ⟨r3, d3, a3, b3⟩, ⟨r4, d4, a4, b4⟩⟩ := ok
    refine ss_cons (s_asg (e_v 1) (g_pair nd 3 4) (ss_cons (s_asg (e_v 2) (g_pair nd 5 6) (ss_one (s_ret (e_neN (e_addN ((e_ix (e_ix (e_v 0) (e_v 3) a1) (e_v 5) b1).got rfl) ((e_ix (e_ix (e_v 0) (e_v 4) a2) (e_v 6) b2).got rfl)) (e_addN ((e_ix (e_ix (e_v 0) (e_v 3) a3) (e_v 6) b3).got rfl) ((e_ix (e_ix (e_v 0) (e_v 4) a4) (e_v 5) b4).got rfl))) (dyq ?_))))))
    show _ = farIn tbl t o
    unfold farIn
    rw [tb_of a1 b1, tb_of a2 b2, tb_of a3 b3, tb_of a4 b4]
theorem kn_corner_in : Kn W 1 "corner_in" ["beside", "tie", "other"] (spF3 (fun (bs : List (List Nat)) (t o : Tie) => t.1 < t.2 ∧ o.1 < o.2 ∧ t.2 < bs.length ∧ o.2 < bs.length ∧ ∀ u, (nbOf bs u).length ≤ 1000) cornerIn) :=
  kn_of (n := 3) T.f_corner_in sc_corner_in rfl (fun _ => rfl) (fun _ _ _ _ _ _ us hl => match us, hl with | [_, _, _], _ => rfl) fun f cdv A outer s H E hr i ok => by
    have nd := sc_corner_in.nd
    obtain ⟨bs, t, o⟩ := i
    obtain ⟨h1, h2, h3, h4, h5⟩ := ok
    simp only at h1 h2 h3 h4 h5
    have at_ : ∀ p, p < bs.length → bs[p]? = some (nbOf bs p) := fun p hp => by
      unfold nbOf
      rw [List.getD_eq_getElem?_getD, List.getElem?_eq_getElem hp] <;> rfl
    have mem : ∀ p ∈ [t.1, t.2, o.1, o.2], p < bs.length := fun p hp => by
      have : p = t.1 ∨ p = t.2 ∨ p = o.1 ∨ p = o.2 := by simpa using hp
      omega
    refine ss_cons (s_new nd 3 (n_fil nd [("place", 5)] (fun p => decide (p ∈ [o.1, o.2])) id (i_tup (EJ.tp (e_v 1))) (gb_name nd 5) (fun _ _ _ _ _ _ _ _ => t_inT (e_v 5) (EJ.tp (e_v 2))) (fun _ _ _ _ _ _ _ _ _ => e_v 5) (by simp)) fun p3 => ?_)
    rw [List.map_id]
    rw [show [t.1, t.2].filter (fun p => decide (p ∈ [o.1, o.2])) = sharedOf t o from rfl]
    refine SsJ.fzl 3 ?_
    refine ss_cons (s_if (t_neN (e_len T.len_ (e_v 3)) (e_n 1)) (fun hk => ss_one (s_ret e_b (dyq ?_))) fun hk => ss_nil ?_)
    · show false = cornerIn bs t o
      unfold cornerIn
      rw [if_neg (by simpa using hk)]
    · have hk2 : (sharedOf t o).length = 1 := by simpa using hk
      obtain ⟨a, b, ee, ha, hb⟩ := ends_two h1 h2 hk2
      refine ss_cons (s_new nd 4 (n_fil nd [("place", 5)] (fun p => !decide (p ∈ sharedOf t o)) id (i_tup (e_cat22 (e_v 1) (e_v 2))) (gb_name nd 5) (fun _ _ _ _ _ _ _ _ => t_notInL (e_v 5) (e_v 3)) (fun _ _ _ _ _ _ _ _ _ => e_v 5) (by simp)) fun p4 => ?_)
      rw [List.map_id]
      rw [show [t.1, t.2, o.1, o.2].filter (fun p => !decide (p ∈ sharedOf t o)) = endsOf t o from rfl, ee]
      refine SsJ.fzl 4 ?_
      refine ss_one (s_ret (e_eqL hr (NJ.fz (n_fil nd [("place", 5)] (fun p => decide (p ∈ nbOf bs b)) id (i_list (e_ix (e_v 0) (e_ix (e_v 4) (e_n 0) rfl) (at_ a (mem a ha)))) (gb_name nd 5) (fun _ _ _ _ _ _ _ _ => t_inL (e_v 5) (e_ix (e_v 0) (e_ix (e_v 4) (e_n 1) rfl) (at_ b (mem b hb)))) (fun _ _ _ _ _ _ _ _ _ => e_v 5) (by have := h5 a; omega))) (e_v 3)) (dyq ?_))
      show _ = cornerIn bs t o
      unfold cornerIn
      rw [if_pos hk2, ee, List.map_id]
      rfl
/-! ### chains -/
theorem kn_hung_in : Kn W 1 "hung_in" ["ties", "links"] (spF2 (fun (ties : List Tie) (ls : List Link) => ties.Nodup ∧ ties.length ≤ 1000 ∧ ls.length ≤ 100000 ∧ ∀ l ∈ ls, l.b ∈ ties ∧ l.c ∈ ties) hungIn) :=
  kn_of (n := 8) T.f_hung_in sc_hung_in rfl (fun _ => rfl) (fun _ _ _ _ _ _ us hl => match us, hl with | [_, _], _ => rfl) fun f cdv A outer s H E hr i ok => by
    have nd := sc_hung_in.nd
    obtain ⟨ties, ls⟩ := i
    obtain ⟨hnd, hlen, hll, hls⟩ := ok
    simp only at hnd hlen hll hls
    refine ss_cons (s_new nd 2 (n_dictT T.dict_ hr (NJ.fz (n_map nd [("tie", 4)] (fun t : Tie => (t, t)) (i_list (e_v 0)) (gb_name nd 4) (fun _ _ _ _ _ _ _ _ => e_tup2 (e_v 4) (e_v 4)) ?_)) ?_) fun p2 => ?_)
    · show ties.length ≤ _
      omega
    · exact byF_nodup hnd
    refine ss_cons (s_for (i_list (e_v 1)) (g_trip nd 3 4 5)
      (fun j Γ => ∃ p2 s3 s4 s5 s6 s7 s8, Γ = [.fro ⟨ties⟩, .fro ⟨ls⟩, .own p2 ⟨(⟨byF ties ((ls.take j).foldl hdStep id)⟩ : Od Tie Tie)⟩, s3, s4, s5, s6, s7, s8, .non])
      ⟨p2, .non, .non, .non, .non, .non, .non, rfl⟩ (fun j l Γ hx hp => ?_) fun Γ hp => ?_)
    · obtain ⟨p2, s3, s4, s5, s6, s7, s8, rfl⟩ := hp
      have hl := hls l (List.mem_of_getElem? hx)
      rw [fold_take hx]
      generalize (ls.take j).foldl hdStep id = hd
      refine ss_cons (s_set nd 6 (e_dgetO 2 hr (e_v 4) (look_byF hl.1)) (ss_cons (s_set nd 7 (e_dgetO 2 hr (e_v 5) (look_byF hl.2)) (ss_one (s_if (t_neP hr (e_v 6) (e_v 7)) (fun hk => ?_) fun hk => ?_)))))
      · refine ss_one (s_for (i_list (e_v 0)) (g_name nd 8)
          (fun m Γ => ∃ p2 s8, Γ = [.fro ⟨ties⟩, .fro ⟨ls⟩, .own p2 ⟨(⟨byF ties fun t => if t ∈ ties.take m then hdStep hd l t else hd t⟩ : Od Tie Tie)⟩, .fro ⟨l.a⟩, .fro ⟨l.b⟩, .fro ⟨l.c⟩, .fro ⟨hd l.b⟩, .fro ⟨hd l.c⟩, s8, .non])
          ⟨p2, s8, by simp⟩ (fun m t Γ hx2 hp => ?_) fun Γ hp => ?_)
        · obtain ⟨p2, s8, rfl⟩ := hp
          have ht := List.mem_of_getElem? hx2
          have hm : m < ties.length := (List.getElem?_eq_some_iff.mp hx2).1
          have nt : t ∉ ties.take m := fun z => by
            obtain ⟨q, hq⟩ := List.mem_iff_getElem?.mp z
            rw [List.getElem?_take] at hq
            by_cases hqm : q < m
            · rw [if_pos hqm] at hq
              have := (List.getElem?_inj (by omega) hnd).mp (hq.trans hx2.symm)
              omega
            · rw [if_neg hqm] at hq
              cases hq
          have e0 : (if t ∈ ties.take m then hdStep hd l t else hd t) = hd t := if_neg nt
          refine ss_one (s_if (t_eqP hr ((e_dgetO 2 hr (e_v 8) (look_byF ht)).as (dyq e0)) (e_v 7)) (fun hk => ?_) fun hk => ?_)
          · have hk2 : hd t = hd l.c := of_decide_eq_true hk
            refine ss_one (s_dputO 2 hr (e_v 6) (e_v 8) ?_ ⟨p2, .fro ⟨t⟩, ?_⟩)
            · unfold byF
              rw [List.length_map]
              omega
            · rw [put_byF ht]
              have e : byF ties (fun u => if u = t then hd l.b else if u ∈ ties.take m then hdStep hd l u else hd u) = byF ties fun u => if u ∈ ties.take (m + 1) then hdStep hd l u else hd u := by
                refine byF_congr fun u _ => ?_
                rw [take_len_succ hx2]
                by_cases hu : u = t
                · subst hu
                  rw [if_pos rfl, if_pos (by simp)]
                  unfold hdStep
                  rw [if_pos hk2]
                · rw [if_neg hu]
                  simp [hu]
              rw [← e]
              rfl
          · have hk2 : ¬ hd t = hd l.c := of_decide_eq_false hk
            refine ss_nil ⟨p2, .fro ⟨t⟩, ?_⟩
            have e : byF ties (fun u => if u ∈ ties.take m then hdStep hd l u else hd u) = byF ties fun u => if u ∈ ties.take (m + 1) then hdStep hd l u else hd u := by
              refine byF_congr fun u _ => ?_
              rw [take_len_succ hx2]
              by_cases hu : u = t
              · subst hu
                rw [if_neg nt, if_pos (by simp)]
                unfold hdStep
                rw [if_neg hk2]
              · simp [hu]
            rw [← e]
            rfl
        · obtain ⟨p2, s8, rfl⟩ := hp
          refine ⟨p2, .fro ⟨l.a⟩, .fro ⟨l.b⟩, .fro ⟨l.c⟩, .fro ⟨hd l.b⟩, .fro ⟨hd l.c⟩, s8, ?_⟩
          have e : byF ties (fun t => if t ∈ ties.take ties.length then hdStep hd l t else hd t) = byF ties (hdStep hd l) := by
            refine byF_congr fun u hu => ?_
            rw [List.take_length, if_pos hu]
          rw [e]
      · have hk2 : hd l.b = hd l.c := by simpa using hk
        refine ss_nil ⟨p2, .fro ⟨l.a⟩, .fro ⟨l.b⟩, .fro ⟨l.c⟩, .fro ⟨hd l.b⟩, .fro ⟨hd l.c⟩, s8, ?_⟩
        have e : hdStep hd l = hd := by
          funext t
          unfold hdStep
          split
          · rename_i h
            rw [h, hk2]
          · rfl
        rw [e]
        rfl
    · obtain ⟨p2, s3, s4, s5, s6, s7, s8, rfl⟩ := hp
      rw [List.take_length]
      refine ss_cons (s_new nd 9 (n_dnewL (κ := Tie) (β := Tie)) fun p9 => ?_)
      refine ss_cons (s_for (i_list (e_v 0)) (g_name nd 4)
        (fun j Γ => ∃ p9 s4, Γ = [.fro ⟨ties⟩, .fro ⟨ls⟩, .own p2 ⟨(⟨byF ties (headsOf ls)⟩ : Od Tie Tie)⟩, s3, s4, s5, s6, s7, s8, .own p9 ⟨(⟨groups (ties.take j) (headsOf ls)⟩ : Odl Tie Tie)⟩])
        ⟨p9, s4, rfl⟩ (fun j t Γ hx hp => ?_) fun Γ hp => ?_)
      · obtain ⟨p9, s4, rfl⟩ := hp
        obtain ⟨g1, g2, g3⟩ := groups_ok (ties.take j) (headsOf ls)
        have hlj : (ties.take j).length ≤ ties.length := by rw [List.length_take]; omega
        refine ss_one (s_sdapp 9 hr g1 (e_dgetO 2 hr (e_v 4) (look_byF (List.mem_of_getElem? hx))) (fun _ _ => e_v 4) (by omega) (fun p hp => by have := g2 p hp; omega) fun p9 => ?_)
        refine ⟨p9, .fro ⟨t⟩, ?_⟩
        have e : groups (ties.take (j + 1)) (headsOf ls) = addL (groups (ties.take j) (headsOf ls)) (headsOf ls t) t := fold_take hx
        rw [e]
        rfl
      · obtain ⟨p9, s4, rfl⟩ := hp
        rw [List.take_length]
        obtain ⟨g1, g2, g3⟩ := groups_ok ties (headsOf ls)
        refine SsJ.fzdl 9 ?_
        exact ss_one (s_ret (NJ.fz (n_sorted T.sorted_ hr (NJ.fz (n_lcVals nd 9 6 hr g1 (by omega))))) rfl)
end
end K48

namespace K48
open PySem PySem.Spec PyProof.Rows L2 Ty M
/-- the lengths of a list's lists -/
theorem len_set {rows : List (List Nat)} {p n : Nat} {r : List Nat} (h : ∀ x ∈ rows, x.length ≤ n) (hr : r.length ≤ n + 1) : ∀ x ∈ rows.set p r, x.length ≤ n + 1 := fun x hx => by
  rcases List.mem_or_eq_of_mem_set hx with z | z
  · have := h x z
    omega
  · rw [z]
    exact hr
section
variable {W : Wd} (T : Top W)
include T
theorem kn_word_of : Kn W 2 "word_of" ["table", "beside", "tie", "other"] (spF4 (fun (tbl : List (List (Option Nat))) (bs : List (List Nat)) (t o : Tie) => (HasD tbl t.1 o.1 ∧ HasD tbl t.2 o.2 ∧ HasD tbl t.1 o.2 ∧ HasD tbl t.2 o.1) ∧
    t.1 < t.2 ∧ o.1 < o.2 ∧ t.2 < bs.length ∧ o.2 < bs.length ∧ ∀ u, (nbOf bs u).length ≤ 1000) wordOf) :=
  kn_of (n := 0) T.f_word_of sc_word_of rfl (fun _ => rfl) (fun _ _ _ _ _ _ us hl => match us, hl with | [_, _, _, _], _ => rfl) fun f cdv A outer s H E hr i ok => by
    obtain ⟨tbl, bs, t, o⟩ := i
    refine ss_cons (s_if (TJ.val (e_call3 (kn_far_in T) hr (e_v 0) (e_v 2) (e_v 3) ok.1)) (fun hk => ss_one (s_ret (EJ.some e_s) (dyq ?_))) fun hk => ss_nil ?_)
    · show _ = wordOf tbl bs t o
      unfold wordOf
      rw [if_pos hk]
    · refine ss_cons (s_if (t_and2 (t_notN nn_list (EJ.some (e_v 1))) fun _ => TJ.val (e_call3 (kn_corner_in T) hr (e_v 1) (e_v 2) (e_v 3) ok.2)) (fun hk2 => ss_one (s_ret (EJ.some e_s) (dyq ?_))) fun hk2 => ss_nil (ss_one (s_ret (e_none (α := Str)) (dyq ?_))))
      · show _ = wordOf tbl bs t o
        unfold wordOf
        rw [if_neg (by rw [hk]; exact Bool.false_ne_true), if_pos (by simpa using hk2)]
      · show _ = wordOf tbl bs t o
        unfold wordOf
        rw [if_neg (by rw [hk]; exact Bool.false_ne_true), if_neg (by simpa using hk2)]
/-- what linked asks: all places are reached from each -/
theorem kn_linked : Kn W 4 "linked" ["web", "corners"] (spF2 (fun (w : Web) (c : Bool) => Valid w ∧ c = true ∧ ∀ p q, p < w.1 → q < w.1 → HasD (farTable w) p q) fun w _ => linkedIn w) :=
  kn_of (n := 11) T.f_linked sc_linked rfl (fun _ => rfl) (fun _ _ _ _ _ _ us hl => match us, hl with | [_, _], _ => rfl) fun f cdv A outer s H E hr i ok => by
    have nd := sc_linked.nd
    obtain ⟨w, c⟩ := i
    obtain ⟨ok, hc, hd⟩ := ok
    simp only at ok hc hd
    subst hc
    have hfew := ok.few
    have tie_at : ∀ j, j < w.2.length → w.2[j]? = some (w.2.getD j (0, 0)) := fun j hj => by
      rw [List.getD_eq_getElem?_getD, List.getElem?_eq_getElem hj]
      rfl
    have tie_ok : ∀ j, j < w.2.length → (w.2.getD j (0, 0)).1 < (w.2.getD j (0, 0)).2 ∧ (w.2.getD j (0, 0)).2 < w.1 := fun j hj => ok.tie _ (List.mem_of_getElem? (tie_at j hj))
    refine ss_cons (s_set nd 2 (e_call1 (kn_far_table T) hr (e_v 0) ok) (ss_cons (s_set nd 3 e_unit ?_)))
    refine ss_cons (s_if (TJ.val (k := true) (e_v 1)) (fun _ => ss_one (s_set nd 3 (e_call1 (kn_beside_all T) (hr.mono (by decide)) (e_v 0) ok) ?_)) (fun z => absurd z (by decide)))
    refine ss_cons (s_set nd 4 (e_at1 (e_v 0)) ?_)
    refine ss_cons (s_new nd 5 (n_listRg T.list_ T.range_ (e_len T.len_ (e_v 4)) (show w.2.length ≤ 1000000 by omega)) fun p5 => ?_)
    refine ss_cons (s_new nd 6 (n_lst (α := Link) l_nil (by decide)) fun p6 => ?_)
    refine ss_cons (s_for (i_range T.range_ (e_len T.len_ (e_v 4)) (show w.2.length ≤ 1000000 by omega)) (g_name nd 7)
      (fun a Γ => ∃ p5 p6 s7 s8 s9 s10 s11, Γ = [.fro ⟨w⟩, .fro ⟨true⟩, .fro ⟨farTable w⟩, .fro ⟨besideAll w⟩, .fro ⟨w.2⟩, .own p5 ⟨(⟨(((List.range w.2.length).take a).foldl (lkRow (farTable w) (besideAll w) w.2) (List.range w.2.length, [])).1⟩ : Ol Nat)⟩,
        .own p6 ⟨(⟨(((List.range w.2.length).take a).foldl (lkRow (farTable w) (besideAll w) w.2) (List.range w.2.length, [])).2⟩ : Ol Link)⟩, s7, s8, s9, s10, s11, .non])
      ⟨p5, p6, .non, .non, .non, .non, .non, rfl⟩ (fun a x Γ hx hp => ?_) fun Γ hp => ?_)
    · obtain ⟨p5, p6, s7, s8, s9, s10, s11, rfl⟩ := hp
      obtain ⟨rfl, ha⟩ := rng_at hx
      have lens := lkRows_len (table := farTable w) (bs := besideAll w) (ties := w.2) (n := w.2.length) ((List.range w.2.length).take x) (List.range w.2.length, []) fun i hi => by
        have := List.mem_range.mp (List.mem_of_mem_take hi)
        omega
      rw [fold_take hx]
      generalize ((List.range w.2.length).take x).foldl (lkRow (farTable w) (besideAll w) w.2) (List.range w.2.length, []) = st at lens
      rw [List.length_range, List.length_take, List.length_range] at lens
      have l2 : st.2.length ≤ 120 * 120 := Nat.le_trans lens.2 (by
        have : w.2.length * min x w.2.length ≤ 120 * 120 := Nat.mul_le_mul hfew (by omega)
        simpa using this)
      refine ss_one (s_for (i_range T.range_ (e_v 7) (show x ≤ 1000000 by omega)) (g_name nd 8)
        (fun b Γ => ∃ p5 p6 s8 s9 s10 s11, Γ = [.fro ⟨w⟩, .fro ⟨true⟩, .fro ⟨farTable w⟩, .fro ⟨besideAll w⟩, .fro ⟨w.2⟩, .own p5 ⟨(⟨(((List.range x).take b).foldl (lkStep (farTable w) (besideAll w) w.2 x) st).1⟩ : Ol Nat)⟩,
          .own p6 ⟨(⟨(((List.range x).take b).foldl (lkStep (farTable w) (besideAll w) w.2 x) st).2⟩ : Ol Link)⟩, .fro ⟨x⟩, s8, s9, s10, s11, .non])
        ⟨p5, p6, s8, s9, s10, s11, rfl⟩ (fun b y Γ hy hp => ?_) fun Γ hp => ?_)
      · obtain ⟨p5, p6, s8, s9, s10, s11, rfl⟩ := hp
        obtain ⟨rfl, hb⟩ := rng_at hy
        have lens2 := lkFold_len (table := farTable w) (bs := besideAll w) (ties := w.2) (i := x) ((List.range x).take y) st
        rw [fold_take hy]
        generalize ((List.range x).take y).foldl (lkStep (farTable w) (besideAll w) w.2 x) st = st2 at lens2
        obtain ⟨ow, fo⟩ := st2
        rw [List.length_take, List.length_range, lens.1] at lens2
        simp only at lens2
        have hyl : y < ow.length := by omega
        have hxl : x < ow.length := by omega
        have hyt : y < w.2.length := by omega
        have hy1 : ow[y]? = some (ow.getD y 0) := by
          rw [List.getD_eq_getElem?_getD, List.getElem?_eq_getElem hyl]
          rfl
        have hx1 : ow[x]? = some (ow.getD x 0) := by
          rw [List.getD_eq_getElem?_getD, List.getElem?_eq_getElem hxl]
          rfl
        have ty := tie_ok y hyt
        have tx := tie_ok x ha
        refine ss_cons (s_set nd 9 (e_ixO 5 (e_v 8) hy1) (ss_cons (s_set nd 10 (e_ixO 5 (e_v 7) hx1) ?_)))
        refine ss_one (s_if (t_neN (e_v 9) (e_v 10)) (fun hk => ?_) fun hk => ?_)
        · have hk2 : ¬ ow.getD y 0 = ow.getD x 0 := by simpa using hk
          refine ss_cons (s_set nd 11 (e_call4 (kn_word_of T) (hr.mono (by decide)) (e_v 2) (e_v 3) (e_ix (e_v 4) (e_v 8) (tie_at y hyt)) (e_ix (e_v 4) (e_v 7) (tie_at x ha))
            ⟨⟨hd _ _ (by omega) (by omega), hd _ _ (by omega) (by omega), hd _ _ (by omega) (by omega), hd _ _ (by omega) (by omega)⟩, ty.1, tx.1, by rw [bs_len]; omega, by rw [bs_len]; omega, nbOf_len w ok⟩) ?_)
          refine ss_one (s_if (t_notN nn_str (e_v 11)) (fun hk3 => ?_) fun hk3 => ?_)
          · obtain ⟨wd, hwd⟩ := Option.isSome_iff_exists.mp hk3
            refine ss_cons (s_app 6 (e_tup3 ((e_v 11).got hwd) (e_ix (e_v 4) (e_v 8) (tie_at y hyt)) (e_ix (e_v 4) (e_v 7) (tie_at x ha))) ?_ ?_)
            · show fo.length < _
              omega
            refine SsJ.fzl 5 ?_
            refine ss_one (s_map nd 5 [("one", 12)] (fun z : Nat => if z = ow.getD x 0 then ow.getD y 0 else z) (i_list (e_v 5)) (gb_name nd 12) (fun j z hz _ _ _ _ _ => e_ix (NJ.fz (n_lst (l_cons (e_v 12) (l_cons (e_v 9) l_nil)) (by simp))) (e_intB T.int_ (e_eqN (e_v 12) (e_v 10))) ?_) ?_ fun p5 => ?_)
            · by_cases h : z = ow.getD x 0
              · rw [decide_eq_true h, if_pos rfl, if_pos h]
                rfl
              · rw [decide_eq_false h, if_neg Bool.false_ne_true, if_neg h]
                rfl
            · show ow.length ≤ _
              omega
            · refine ⟨p5, p6, .fro ⟨y⟩, .fro ⟨ow.getD y 0⟩, .fro ⟨ow.getD x 0⟩, .fro ⟨wordOf (farTable w) (besideAll w) (w.2.getD y (0, 0)) (w.2.getD x (0, 0))⟩, ?_⟩
              have e : lkStep (farTable w) (besideAll w) w.2 x (ow, fo) y = (ow.map (fun z => if z = ow.getD x 0 then ow.getD y 0 else z), fo ++ [⟨wd, w.2.getD y (0, 0), w.2.getD x (0, 0)⟩]) := by
                unfold lkStep
                rw [if_neg hk2, hwd]
              rw [e]
              rfl
          · refine ss_nil ⟨p5, p6, .fro ⟨y⟩, .fro ⟨ow.getD y 0⟩, .fro ⟨ow.getD x 0⟩, .fro ⟨wordOf (farTable w) (besideAll w) (w.2.getD y (0, 0)) (w.2.getD x (0, 0))⟩, ?_⟩
            have hwd : wordOf (farTable w) (besideAll w) (w.2.getD y (0, 0)) (w.2.getD x (0, 0)) = none := by
              cases e : wordOf (farTable w) (besideAll w) (w.2.getD y (0, 0)) (w.2.getD x (0, 0)) with
              | none => rfl
              | some z =>
                rw [e] at hk3
                cases hk3
            have e : lkStep (farTable w) (besideAll w) w.2 x (ow, fo) y = (ow, fo) := by
              unfold lkStep
              rw [if_neg hk2, hwd]
            rw [e]
            rfl
        · have hk2 : ow.getD y 0 = ow.getD x 0 := by simpa using hk
          refine ss_nil ⟨p5, p6, .fro ⟨y⟩, .fro ⟨ow.getD y 0⟩, .fro ⟨ow.getD x 0⟩, s11, ?_⟩
          have e : lkStep (farTable w) (besideAll w) w.2 x (ow, fo) y = (ow, fo) := by
            unfold lkStep
            rw [if_pos hk2]
          rw [e]
          rfl
      · obtain ⟨p5, p6, s8, s9, s10, s11, rfl⟩ := hp
        refine ⟨p5, p6, .fro ⟨x⟩, s8, s9, s10, s11, ?_⟩
        have e : (List.range x).take (List.range x).length = List.range x := List.take_length
        rw [e]
        rfl
    · obtain ⟨p5, p6, s7, s8, s9, s10, s11, rfl⟩ := hp
      have e : (List.range w.2.length).take (List.range w.2.length).length = List.range w.2.length := List.take_length
      rw [e]
      exact ss_one (s_ret (e_fz 6) rfl)
end
end K48

namespace K48
open PySem PySem.Spec PyProof.Rows L2 Ty M
theorem get_getD {α : Type} {xs : List α} {i : Nat} {d : α} (h : i < xs.length) : xs[i]? = some (xs.getD i d) := by
  rw [List.getD_eq_getElem?_getD, List.getElem?_eq_getElem h]
  rfl
section
variable {W : Wd} (T : Top W)
include T
theorem kn_classes_in : Kn W 5 "classes_in" ["web"] (spF1 (fun w : Web => Valid w ∧ ∀ p q, p < w.1 → q < w.1 → HasD (farTable w) p q) classesIn) :=
  kn_of (n := 0) T.f_classes_in sc_classes_in rfl (fun _ => rfl) (fun _ _ _ _ _ _ us hl => match us, hl with | [_], _ => rfl) fun f cdv A outer s H E hr w ok => by
    have lk := linkedIn_ok ok.1
    have hfew := ok.1.few
    exact ss_one (s_ret (e_call2 (kn_hung_in T) (hr.mono (by decide)) (e_at1 (e_v 0)) (e_call2 (kn_linked T) hr (e_v 0) e_b ⟨ok.1, rfl, ok.2⟩) ⟨ok.1.nodup, by omega, lk.1, lk.2⟩) rfl)
theorem kn_apart_of : Kn W 2 "apart_of" ["web", "some"] (spF2 (fun (w : Web) (c : List Tie) => w.2.length ≤ 1000 ∧ c.length ≤ 1000 ∧ c.Nodup) apartOf) :=
  kn_of (n := 2) T.f_apart_of sc_apart_of rfl (fun _ => rfl) (fun _ _ _ _ _ _ us hl => match us, hl with | [_, _], _ => rfl) fun f cdv A outer s H E hr i ok => by
    have nd := sc_apart_of.nd
    obtain ⟨w, c⟩ := i
    obtain ⟨h1, h2, h3⟩ := ok
    simp only at h1 h2 h3
    have ek : (c.map fun t => (t, true)).map (·.1) = c := by
      rw [List.map_map, show ((fun p : Tie × Bool => p.1) ∘ fun t : Tie => (t, true)) = id from rfl, List.map_id]
    refine ss_cons (s_set nd 2 (NJ.fzD (n_dictT T.dict_ hr (NJ.fz (n_map nd [("tie", 3)] (fun t : Tie => (t, true)) (i_list (e_v 1)) (gb_name nd 3) (fun _ _ _ _ _ _ _ _ => e_tup2 (e_v 3) e_b) (show c.length ≤ _ by omega))) ?_)) ?_)
    · exact ek.symm ▸ h3
    refine ss_one (s_ret (NJ.fz (n_fil nd [("tie", 3)] (fun t : Tie => !decide (t ∈ c)) id (i_list (e_at1 (e_v 0))) (gb_name nd 3) (fun _ _ _ _ _ _ _ _ => TJ.as (t_dnotin hr (e_v 3) (e_v 2)) ?_) (fun _ _ _ _ _ _ _ _ _ => e_v 3) (show w.2.length ≤ _ by omega))) (dyq ?_))
    · rw [ek]
      congr 1
      exact decide_eq_decide.mpr Iff.rfl
    · rw [List.map_id]
      rfl
theorem kn_factored_in : Kn W 6 "factored_in" ["web"] (spF1 FacPre facIn) :=
  kn_of (n := 8) T.f_factored_in sc_factored_in rfl (fun _ => rfl) (fun _ _ _ _ _ _ us hl => match us, hl with | [_], _ => rfl) fun f cdv A outer s H E hr w pre => by
    have nd := sc_factored_in.nd
    have h40 := pre.ok.le
    have hfew := pre.ok.few
    have hcl := classesIn_len w
    refine ss_cons (s_new nd 1 (n_lst (α := Web) l_nil (by decide)) fun p1 => ?_)
    refine ss_cons (s_mapL nd 2 [("place", 7)] (fun _ => ([] : List Nat)) (i_range T.range_ (e_at0 (e_v 0)) (by omega)) (gb_name nd 7) (fun _ _ _ _ _ _ _ _ => n_lst l_nil (by decide)) (by rw [List.length_range]; omega) fun p2 => ?_)
    refine ss_cons (s_for (i_list (e_call1 (kn_classes_in T) hr (e_v 0) ⟨pre.ok, pre.dist⟩)) (g_name nd 3)
      (fun j Γ => ∃ p1 p2 s3 s4 s5 s6 s7, Γ = [.fro ⟨w⟩, .own p1 ⟨(⟨((classesIn w).take j).map fun c => withinBy w (layerOf w c)⟩ : Ol Web)⟩, .own p2 ⟨(⟨((classesIn w).take j).foldl (addClass w) (List.replicate w.1 [])⟩ : Oll Nat)⟩, s3, s4, s5, s6, s7, .non])
      ⟨p1, p2, .non, .non, .non, .non, .non, ?_⟩ (fun j c Γ hx hp => ?_) fun Γ hp => ?_)
    · have e : (List.range w.1).map (fun _ => ([] : List Nat)) = List.replicate w.1 [] := by
        rw [List.map_const', List.length_range]
      rw [← e]
      rfl
    · obtain ⟨p1, p2, s3, s4, s5, s6, s7, rfl⟩ := hp
      have hc := List.mem_of_getElem? hx
      have hj : j < (classesIn w).length := (List.getElem?_eq_some_iff.mp hx).1
      have rb := RB.classes h40 ((classesIn w).take j) (RB.start w.1)
      rw [fold_take hx, map_take_succ hx]
      generalize ((classesIn w).take j).foldl (addClass w) (List.replicate w.1 []) = rows at rb
      have rb : RB w.1 (1600 * j) rows := rb.mono (by
        rw [List.length_take, Nat.zero_add]
        exact Nat.mul_le_mul_left _ (Nat.min_le_left _ _))
      have hl0 : (piecesOf (w.1, c))[0]? = some (layerOf w c) := by
        unfold layerOf
        have := pre.ne c hc
        cases e : piecesOf (w.1, c) with
        | nil => exact absurd e this
        | cons a l => rfl
      refine ss_cons (s_set nd 4 (e_ix (e_call1 (kn_pieces T) hr (e_tup2 (e_at0 (e_v 0)) (e_v 3)) (pre.vc c hc)) (e_n 0) hl0) ?_)
      refine ss_cons (s_app 1 (e_call2 (kn_within T) hr (e_v 0) (e_v 4) ⟨pre.ok, pre.pl c hc⟩) ?_ ?_)
      · rw [List.length_map, List.length_take]
        omega
      have vc := pre.vc c hc
      have pl := pieces_le (w.1, apartOf w c)
      refine ss_one (s_for (i_list (e_call1 (kn_pieces T) hr (e_tup2 (e_at0 (e_v 0)) (e_call2 (kn_apart_of T) (hr.mono (by decide)) (e_v 0) (e_v 3) ⟨show w.2.length ≤ 1000 by omega, show c.length ≤ 1000 from Nat.le_trans vc.few (by decide), vc.nodup⟩)) (pre.va c hc))) (g_name nd 5)
        (fun m Γ => ∃ p1 p2 s5 s6 s7, Γ = [.fro ⟨w⟩, .own p1 ⟨(⟨((classesIn w).take j).map (fun c => withinBy w (layerOf w c)) ++ [withinBy w (layerOf w c)]⟩ : Ol Web)⟩, .own p2 ⟨(⟨((piecesOf (w.1, apartOf w c)).take m).foldl (addPiece (layerOf w c)) rows⟩ : Oll Nat)⟩, .fro ⟨c⟩, .fro ⟨layerOf w c⟩, s5, s6, s7, .non])
        ⟨p1, p2, s5, s6, s7, rfl⟩ (fun m pc Γ hx2 hp => ?_) fun Γ hp => ?_)
      · obtain ⟨p1, p2, s5, s6, s7, rfl⟩ := hp
        have hpc := List.mem_of_getElem? hx2
        have hm : m < (piecesOf (w.1, apartOf w c)).length := (List.getElem?_eq_some_iff.mp hx2).1
        have hm40 : m < 40 := by
          have := pl.1
          simp only at this
          omega
        obtain ⟨pcl, pclt⟩ := pl.2 pc hpc
        simp only at pcl pclt
        have rb2 := RB.pieces (layer := layerOf w c) (m := 40) ((piecesOf (w.1, apartOf w c)).take m) (fun q hq => by
          have := (pl.2 q (List.mem_of_mem_take hq)).1
          simp only at this
          omega) rb
        rw [fold_take hx2]
        generalize ((piecesOf (w.1, apartOf w c)).take m).foldl (addPiece (layerOf w c)) rows = rows2 at rb2
        have rb2 : RB w.1 (1600 * j + 1600) rows2 := rb2.mono (by
          rw [List.length_take]
          have : min m (piecesOf (w.1, apartOf w c)).length ≤ m := Nat.min_le_left _ _
          omega)
        have hlay := (pre.pl c hc).len
        refine ss_cons (s_fil nd 6 [("k", 8), ("place", 7)] (fun p : Nat × Nat => decide (p.2 ∈ pc)) (fun p => p.1) (i_enum T.enumerate_ (e_v 4)) (gb_pair nd 8 7) (fun _ _ _ _ _ _ _ _ => t_inL (e_v 7) (e_v 5)) (fun _ _ _ _ _ _ _ _ _ => e_v 8) (by rw [en_len]; omega) fun p6 => ?_)
        rw [show ((en (layerOf w c)).filter (fun p : Nat × Nat => decide (p.2 ∈ pc))).map (fun p => p.1) = standOf (layerOf w c) pc from rfl]
        refine SsJ.fzl 6 ?_
        have hst0 : (standOf (layerOf w c) pc)[0]? = some ((standOf (layerOf w c) pc).headD 0) := by
          have := pre.st c hc pc hpc
          cases e : standOf (layerOf w c) pc with
          | nil => exact absurd e this
          | cons a l => rfl
        refine ss_one (s_for (i_list (e_v 5)) (g_name nd 7)
          (fun q Γ => ∃ p2 s7, Γ = [.fro ⟨w⟩, .own p1 ⟨(⟨((classesIn w).take j).map (fun c => withinBy w (layerOf w c)) ++ [withinBy w (layerOf w c)]⟩ : Ol Web)⟩, .own p2 ⟨(⟨(pc.take q).foldl (addAt ((standOf (layerOf w c) pc).headD 0)) rows2⟩ : Oll Nat)⟩, .fro ⟨c⟩, .fro ⟨layerOf w c⟩, .fro ⟨pc⟩, .fro ⟨standOf (layerOf w c) pc⟩, s7, .non])
          ⟨p2, .non, rfl⟩ (fun q p Γ hx3 hp => ?_) fun Γ hp => ?_)
        · obtain ⟨p2, s7, rfl⟩ := hp
          have hp := pclt p (List.mem_of_getElem? hx3)
          have hq : q < pc.length := (List.getElem?_eq_some_iff.mp hx3).1
          have rb3 := RB.fold (v := (standOf (layerOf w c) pc).headD 0) (pc.take q) rb2
          rw [fold_take hx3]
          generalize (pc.take q).foldl (addAt ((standOf (layerOf w c) pc).headD 0)) rows2 = rows3 at rb3
          have hpr : p < rows3.length := by rw [rb3.len]; exact hp
          have hlr : (rows3.getD p []).length ≤ 1600 * j + 1600 + (pc.take q).length := rb3.le _ (List.mem_of_getElem? (get_getD (d := []) hpr))
          rw [List.length_take] at hlr
          exact ss_one (s_appL 2 (e_v 7) (e_ix (e_v 6) (e_n 0) hst0) (get_getD (d := []) hpr) (by omega) ⟨p2, .fro ⟨p⟩, rfl⟩)
        · obtain ⟨p2, s7, rfl⟩ := hp
          refine ⟨p1, p2, .fro ⟨pc⟩, .fro ⟨standOf (layerOf w c) pc⟩, s7, ?_⟩
          have e : pc.take pc.length = pc := List.take_length
          rw [e]
          rfl
      · obtain ⟨p1, p2, s5, s6, s7, rfl⟩ := hp
        refine ⟨p1, p2, .fro ⟨c⟩, .fro ⟨layerOf w c⟩, s5, s6, s7, ?_⟩
        have e : (piecesOf (w.1, apartOf w c)).take (piecesOf (w.1, apartOf w c)).length = piecesOf (w.1, apartOf w c) := List.take_length
        rw [e]
        rfl
    · obtain ⟨p1, p2, s3, s4, s5, s6, s7, rfl⟩ := hp
      have e : (classesIn w).take (classesIn w).length = classesIn w := List.take_length
      rw [e]
      exact ss_one (s_ret (e_tup2 (e_fz 1) (EJ.fzll 2 (e_v 2))) rfl)
/-! ### namings -/
theorem kn_is_all_places : Kn W 4 "is_all_places" ["web", "thing"] (spF2 (fun (w : Web) (f : List Nat) => f.length = w.1 ∧ w.1 ≤ 1000 ∧ (∀ p ∈ f, p < w.1) ∧ f.Nodup) fun _ _ => true) :=
  kn_of (n := 1) T.f_is_all_places sc_is_all_places rfl (fun _ => rfl) (fun _ _ _ _ _ _ us hl => match us, hl with | [_, _], _ => rfl) fun f cdv A outer s H E hr i ok => by
    have nd := sc_is_all_places.nd
    obtain ⟨w, f⟩ := i
    obtain ⟨h1, h2, h3, h4⟩ := ok
    simp only at h1 h2 h3 h4
    have e1 : (f.map (isPlace w)).all id = true := by
      rw [List.all_map, List.all_eq_true]
      intro p hp
      exact decide_eq_true (h3 p hp)
    refine ss_cons (s_ifNo (TJ.as (t_or2 (t_not (TJ.val (e_isi "list" true ti_list T.isinstance_ (e_v 1) (e_tyv T.list_ (by decide +kernel))))) (fun _ => t_neN (e_len T.len_ (e_v 1)) (e_at0 (e_v 0)))) ?_) ?_)
    · rw [decide_eq_true h1]
      rfl
    refine ss_one (s_ret (EJ.as (e_and2 (e_all T.all_ (NJ.fz (n_map (Γ1 := starts [⟨w⟩, ⟨f⟩] 1) nd [("place", 2)] (isPlace w) (i_list (e_v 1)) (gb_name nd 2) (fun _ _ _ _ _ _ _ _ => e_call2 (kn_is_place T) hr (e_v 0) (e_v 2) trivial) (show f.length ≤ _ by omega)))) (fun _ => e_eqN (e_lenSet T.len_ T.set_ (e_v 1) h4 (by omega)) (e_len T.len_ (e_v 1)))) (dyq ?_)) rfl)
    rw [e1, decide_eq_true rfl]
    rfl
end
end K48

namespace K48
open PySem PySem.Spec PyProof.Rows L2 Ty M
theorem facIn_rows {w : Web} (h : FacPre w) : (facIn w).2.length = w.1 ∧ ∀ r ∈ (facIn w).2, r.length ≤ 120 := by
  have rb := RB.classes h.ok.le (classesIn w) (RB.start w.1)
  exact ⟨rb.len, h.rl⟩
section
variable {W : Wd} (T : Top W)
include T
theorem kn_is_naming_in : Kn W 5 "is_naming_in" ["one", "other", "thing"] (spF3 (fun (one other : Web) (f : List Nat) => Valid one ∧ Valid other ∧ IsNaming one other f) fun _ _ _ => true) :=
  kn_of (n := 3) T.f_is_naming_in sc_is_naming_in rfl (fun _ => rfl) (fun _ _ _ _ _ _ us hl => match us, hl with | [_, _, _], _ => rfl) fun f cdv A outer s H E hr i ok => by
    have nd := sc_is_naming_in.nd
    obtain ⟨one, other, f⟩ := i
    obtain ⟨v1, v2, n⟩ := ok
    simp only at v1 v2 n
    have h40 := v2.le
    have hf1 := v1.few
    refine ss_cons (s_ifNo (TJ.as (t_or3 (t_neN (e_at0 (e_v 0)) (e_at0 (e_v 1))) (fun _ => t_not (TJ.val (e_call2 (kn_is_all_places T) hr (e_v 1) (e_v 2) ⟨n.len, by omega, n.lt, n.nd⟩))) fun _ _ => t_neN (e_len T.len_ (e_at1 (e_v 0))) (e_len T.len_ (e_at1 (e_v 1)))) ?_) ?_)
    · rw [decide_eq_true n.places, decide_eq_true n.ties]
      rfl
    refine ss_cons (s_set nd 3 (e_call1 (kn_ties_by T) (hr.mono (by decide)) (e_v 1) ⟨v2.nodup, Nat.le_trans v2.few (by decide)⟩) ?_)
    have ek : (other.2.map fun t => (t, true)).map (·.1) = other.2 := by
      rw [List.map_map, show ((fun p : Tie × Bool => p.1) ∘ fun t : Tie => (t, true)) = id from rfl, List.map_id]
    refine ss_one (s_ret (e_all T.all_ (NJ.fz (n_map nd [("here", 4), ("there", 5)] (fun t : Tie => decide (tieOf (f.getD t.1 0) (f.getD t.2 0) ∈ (other.2.map fun t => (t, true)).map (·.1))) (i_list (e_at1 (e_v 0))) (gb_pair nd 4 5) (fun j t hx _ _ _ _ _ => ?_) (show one.2.length ≤ 100000 by omega)))) (dyq ?_))
    · have ht := v1.tie t (List.mem_of_getElem? hx)
      have hl : f.length = one.1 := n.len.trans n.places.symm
      refine EJ.as (e_din hr (e_call2 (kn_tie_of T) (hr.mono (by decide)) (e_ix (e_v 2) (e_v 4) (get_getD (xs := f) (d := 0) (show t.1 < f.length by omega))) (e_ix (e_v 2) (e_v 5) (get_getD (xs := f) (d := 0) (show t.2 < f.length by omega))) trivial) (e_v 3)) (dyq ?_)
      exact decide_eq_decide.mpr Iff.rfl
    · rw [ek]
      show _ = true
      rw [List.all_map, List.all_eq_true]
      intro t ht
      exact decide_eq_true (n.tied t ht)
theorem kn_lets_naming : Kn W 6 "lets_naming" ["one", "other", "thing"] (spF3 (fun (one other : Web) (f : List Nat) => Valid one ∧ Valid other ∧ IsNaming one other f) fun _ _ _ => true) :=
  kn_of (n := 0) T.f_lets_naming sc_lets_naming rfl (fun _ => rfl) (fun _ _ _ _ _ _ us hl => match us, hl with | [_, _, _], _ => rfl) fun f cdv A outer s H E hr i ok =>
    ss_cons (s_expr (e_call1 (kn_look_at_web T) (hr.mono (by decide)) (e_v 0) ok.1) (ss_cons (s_expr (e_call1 (kn_look_at_web T) (hr.mono (by decide)) (e_v 1) ok.2.1) (ss_one (s_ret (e_call3 (kn_is_naming_in T) hr (e_v 0) (e_v 1) (e_v 2) ok) rfl)))))
theorem kn_look_at_naming : Kn W 6 "look_at_naming" ["one", "other", "thing"] (spF3 (fun (one other : Web) (f : List Nat) => Valid one ∧ Valid other ∧ IsNaming one other f) fun _ _ _ => ()) :=
  kn_of (n := 0) T.f_look_at_naming sc_look_at_naming rfl (fun _ => rfl) (fun _ _ _ _ _ _ us hl => match us, hl with | [_, _, _], _ => rfl) fun f cdv A outer s H E hr i ok =>
    ss_one (s_ifNo (t_not (TJ.val (k := true) (e_call3 (kn_is_naming_in T) hr (e_v 0) (e_v 1) (e_v 2) ok))) rfl)
theorem kn_turned_back : Kn W 1 "turned_back" ["naming"] (spF1 (fun f : List Nat => f.length ≤ 1000 ∧ ∀ p ∈ f, p < f.length) turnedBack) :=
  kn_of (n := 3) T.f_turned_back sc_turned_back rfl (fun _ => rfl) (fun _ _ _ _ _ _ us hl => match us, hl with | [_], _ => rfl) fun _ cdv A outer s H E hr f ok => by
    have nd := sc_turned_back.nd
    refine ss_cons (s_new nd 1 (n_rep (NJ.fz (n_lst (l_cons (e_n 0) l_nil) (by decide))) (e_len T.len_ (e_v 0)) (by omega)) fun p1 => ?_)
    refine ss_cons (s_for (i_enum T.enumerate_ (e_v 0)) (g_pair nd 2 3)
      (fun j Γ => ∃ p1 s2 s3, Γ = [.fro ⟨f⟩, .own p1 ⟨(⟨((en f).take j).foldl (fun l p => l.set p.2 p.1) (List.replicate f.length 0)⟩ : Ol Nat)⟩, s2, s3])
      ⟨p1, .non, .non, rfl⟩ (fun j p Γ hx hp => ?_) fun Γ hp => ?_)
    · obtain ⟨p1, s2, s3, rfl⟩ := hp
      rw [fold_take hx]
      have hl : (((en f).take j).foldl (fun l p => l.set p.2 p.1) (List.replicate f.length 0)).length = f.length := by
        rw [turned_len, List.length_replicate]
      have hp2 := ok.2 p.2 (List.mem_of_getElem? (en_get hx).2)
      exact ss_one (s_setO 1 (e_v 2) (e_v 3) (by rw [hl]; exact hp2) ⟨p1, .fro ⟨p.1⟩, .fro ⟨p.2⟩, rfl⟩)
    · obtain ⟨p1, s2, s3, rfl⟩ := hp
      have e : (en f).take (en f).length = en f := List.take_length
      rw [e]
      exact ss_one (s_ret (e_fz 1) rfl)
theorem kn_behind : Kn W 1 "behind" ["first", "second"] (spF2 (fun f g : List Nat => f.length ≤ 1000 ∧ ∀ p ∈ f, p < g.length) behind) :=
  kn_of (n := 1) T.f_behind sc_behind rfl (fun _ => rfl) (fun _ _ _ _ _ _ us hl => match us, hl with | [_, _], _ => rfl) fun _ cdv A outer s H E hr i ok => by
    have nd := sc_behind.nd
    obtain ⟨f, g⟩ := i
    obtain ⟨h1, h2⟩ := ok
    simp only at h1 h2
    exact ss_one (s_ret (NJ.fz (n_map nd [("place", 2)] (fun p => g.getD p 0) (i_list (e_v 0)) (gb_name nd 2) (fun j p hx _ _ _ _ _ => e_ix (e_v 1) (e_v 2) (get_getD (h2 p (List.mem_of_getElem? hx)))) (show f.length ≤ 100000 by omega))) rfl)
/-! ### rows -/
theorem kn_look_at_webs : Kn W 5 "look_at_webs" ["thing"] (spF1 (fun ws : List Web => ws.length ≤ 12 ∧ ∀ w ∈ ws, Valid w) fun _ => ()) :=
  kn_of (n := 2) T.f_look_at_webs sc_look_at_webs rfl (fun _ => rfl) (fun _ _ _ _ _ _ us hl => match us, hl with | [_], _ => rfl) fun _ cdv A outer s H E hr ws ok => by
    have nd := sc_look_at_webs.nd
    refine ss_cons (s_ifNo (TJ.as (t_or2 (t_not (TJ.val (e_isi "list" true ti_list T.isinstance_ (e_v 0) (e_tyv T.list_ (by decide +kernel))))) fun _ => t_gtN (e_len T.len_ (e_v 0)) (e_gn T.MOST_WEBS)) ?_) ?_)
    · rw [decide_eq_false (by omega)]
      rfl
    refine ss_one (s_for (i_enum T.enumerate_ (e_v 0)) (g_pair nd 1 2) (fun j Γ => ∃ s1 s2, Γ = [.fro ⟨ws⟩, s1, s2]) ⟨.non, .non, rfl⟩ (fun j p Γ hx hp => ?_) fun Γ hp => rfl)
    obtain ⟨s1, s2, rfl⟩ := hp
    exact ss_one (s_try (ss_one (s_expr (e_call1 (kn_look_at_web T) hr (e_v 2) (ok.2 p.2 (List.mem_of_getElem? (en_get hx).2))) ⟨.fro ⟨p.1⟩, .fro ⟨p.2⟩, rfl⟩)))
theorem kn_places_in : Kn W 1 "places_in" ["webs"] (spF1 (fun ws : List Web => ∀ w ∈ ws, w.1 ≤ 1000) placesIn) :=
  kn_of (n := 3) T.f_places_in sc_places_in rfl (fun _ => rfl) (fun _ _ _ _ _ _ us hl => match us, hl with | [_], _ => rfl) fun _ cdv A outer s H E hr ws ok => by
    have nd := sc_places_in.nd
    refine ss_cons (s_set nd 1 (e_n 1) ?_)
    refine ss_cons (s_for (i_list (e_v 0)) (g_pair nd 2 3) (fun j Γ => ∃ s2 s3, Γ = [.fro ⟨ws⟩, .fro ⟨(ws.take j).foldl (fun a w => a * w.1) 1⟩, s2, s3]) ⟨.non, .non, rfl⟩ (fun j w Γ hx hp => ?_) fun Γ hp => ?_)
    · obtain ⟨s2, s3, rfl⟩ := hp
      rw [fold_take hx]
      have := ok w (List.mem_of_getElem? hx)
      exact ss_one (s_set nd 1 (e_mulNr (e_v 1) (e_v 2) (by omega)) ⟨.fro ⟨w.1⟩, .fro ⟨w.2⟩, rfl⟩)
    · obtain ⟨s2, s3, rfl⟩ := hp
      have e : ws.take ws.length = ws := List.take_length
      rw [e]
      exact ss_one (s_ret (e_v 1) rfl)
theorem kn_ties_in : Kn W 2 "ties_in" ["webs"] (spF1 (fun ws : List Web => ws.length ≤ 100 ∧ ∀ w ∈ ws, 0 < w.1 ∧ w.1 ≤ 1000 ∧ w.2.length ≤ 1000) tiesIn) :=
  kn_of (n := 3) T.f_ties_in sc_ties_in rfl (fun _ => rfl) (fun _ _ _ _ _ _ us hl => match us, hl with | [_], _ => rfl) fun _ cdv A outer s H E hr ws ok => by
    have nd := sc_ties_in.nd
    refine ss_cons (s_set nd 1 (e_call1 (kn_places_in T) hr (e_v 0) fun w hw => (ok.2 w hw).2.1) ?_)
    refine ss_one (s_ret (e_sumN T.sum_ (NJ.fz (n_map nd [("many", 2), ("ties", 3)] (fun w : Web => w.2.length * (placesIn ws / w.1)) (i_list (e_v 0)) (gb_pair nd 2 3) (fun j w hx _ _ _ _ _ => ?_) (by have := ok.1; omega)))) rfl)
    obtain ⟨h1, h2, h3⟩ := ok.2 w (List.mem_of_getElem? hx)
    exact e_mulN (e_len T.len_ (e_v 3)) (e_divN (e_v 1) (e_v 2) h1 (by omega)) (by omega)
theorem kn_number_in : Kn W 1 "number_in" ["webs", "row"] (spF2 (fun (ws : List Web) (row : List Nat) => ∀ w ∈ ws, w.1 ≤ 1000) numberIn) :=
  kn_of (n := 3) T.f_number_in sc_number_in rfl (fun _ => rfl) (fun _ _ _ _ _ _ us hl => match us, hl with | [_, _], _ => rfl) fun _ cdv A outer s H E hr i ok => by
    have nd := sc_number_in.nd
    obtain ⟨ws, row⟩ := i
    refine ss_cons (s_set nd 2 (e_n 0) ?_)
    refine ss_cons (s_for (i_zip T.zip_ (e_v 1) (e_v 0)) (g_pair nd 3 4) (fun j Γ => ∃ s2 s3, Γ = [.fro ⟨ws⟩, .fro ⟨row⟩, .fro ⟨((row.zip ws).take j).foldl (fun a (p : Nat × Web) => a * p.2.1 + p.1) 0⟩, s2, s3]) ⟨.non, .non, rfl⟩ (fun j p Γ hx hp => ?_) fun Γ hp => ?_)
    · obtain ⟨s2, s3, rfl⟩ := hp
      rw [fold_take hx]
      have := ok p.2 (List.mem_of_getElem? (Ty.zip_get hx).2)
      exact ss_one (s_set nd 2 (e_addN (e_mulNr (e_v 2) (e_at0 (e_v 4)) (by omega)) (e_v 3)) ⟨.fro ⟨p.1⟩, .fro ⟨p.2⟩, rfl⟩)
    · obtain ⟨s2, s3, rfl⟩ := hp
      have e : (row.zip ws).take (row.zip ws).length = row.zip ws := List.take_length
      rw [e]
      exact ss_one (s_ret (e_v 2) rfl)
theorem kn_row_in : Kn W 1 "row_in" ["webs", "number"] (spF2 (fun (ws : List Web) (n : Nat) => ws.length ≤ 1000 ∧ ∀ w ∈ ws, 0 < w.1 ∧ w.1 ≤ 1000) rowIn) :=
  kn_of (n := 3) T.f_row_in sc_row_in rfl (fun _ => rfl) (fun _ _ _ _ _ _ us hl => match us, hl with | [_, _], _ => rfl) fun _ cdv A outer s H E hr i ok => by
    have nd := sc_row_in.nd
    obtain ⟨ws, n⟩ := i
    obtain ⟨h1, h2⟩ := ok
    simp only at h1 h2
    refine ss_cons (s_new nd 2 (n_lst (α := Nat) l_nil (by decide)) fun p2 => ?_)
    refine ss_cons (s_for (i_list (NJ.fz (n_rev (e_v 0)))) (g_pair nd 3 4) (fun j Γ => ∃ p2 s3 s4, Γ = [.fro ⟨ws⟩, .fro ⟨numRev (ws.reverse.take j) n⟩, .own p2 ⟨(⟨rowRev (ws.reverse.take j) n⟩ : Ol Nat)⟩, s3, s4]) ⟨p2, .non, .non, rfl⟩ (fun j w Γ hx hp => ?_) fun Γ hp => ?_)
    · obtain ⟨p2, s3, s4, rfl⟩ := hp
      rw [take_len_succ hx]
      obtain ⟨e1, e2⟩ := rowRev_snoc (ws.reverse.take j) n w
      have hw := h2 w (List.mem_reverse.mp (List.mem_of_getElem? hx))
      have hl : (rowRev (ws.reverse.take j) n).length ≤ 1000 := by
        rw [rowRev_len, List.length_take, List.length_reverse]
        omega
      rw [e1, e2]
      exact ss_cons (s_app 2 (e_modN (e_v 1) (e_v 3) hw.1) (by omega) (ss_one (s_set nd 1 (e_divN (e_v 1) (e_v 3) hw.1 (by omega)) ⟨p2, .fro ⟨w.1⟩, .fro ⟨w.2⟩, rfl⟩)))
    · obtain ⟨p2, s3, s4, rfl⟩ := hp
      have e : ws.reverse.take ws.reverse.length = ws.reverse := List.take_length
      rw [e]
      refine SsJ.fzl 2 ?_
      exact ss_one (s_ret (NJ.fz (n_rev (e_v 2))) rfl)
theorem kn_beside_by : Kn W 1 "beside_by" ["lists", "row"] (spF2 (fun (ls : List (List (List Nat))) (row : List Nat) => row.length ≤ 100 ∧ ∀ (k p : Nat), row[k]? = some p → ∃ l q, ls[k]? = some l ∧ l[p]? = some q ∧ q.length ≤ 1000) besideBy) :=
  kn_of (n := 4) T.f_beside_by sc_beside_by rfl (fun _ => rfl) (fun _ _ _ _ _ _ us hl => match us, hl with | [_, _], _ => rfl) fun _ cdv A outer s H E hr i ok => by
    have nd := sc_beside_by.nd
    obtain ⟨ls, row⟩ := i
    obtain ⟨h1, h2⟩ := ok
    simp only at h1 h2
    refine ss_cons (s_new nd 2 (n_lst (α := List Nat) l_nil (by decide)) fun p2 => ?_)
    refine ss_cons (s_for (i_enum T.enumerate_ (e_v 1)) (g_pair nd 3 4) (fun j Γ => ∃ p2 s3 s4 fo, Γ = [.fro ⟨ls⟩, .fro ⟨row⟩, .own p2 ⟨(⟨fo⟩ : Ol (List Nat))⟩, s3, s4, .non] ∧ fo = ((en row).take j).flatMap (fun p => ((ls.getD p.1 []).getD p.2 []).map fun o => row.take p.1 ++ [o] ++ row.drop (p.1 + 1)) ∧ fo.length ≤ 1000 * j)
      ⟨p2, .non, .non, [], rfl, rfl, by simp⟩ (fun j p Γ hx hp => ?_) fun Γ hp => ?_)
    · obtain ⟨p2, s3, s4, fo, rfl, hf, hl⟩ := hp
      have hj : j < row.length := by
        have := (List.getElem?_eq_some_iff.mp hx).1
        rwa [en_len] at this
      obtain ⟨e1, e2⟩ := en_get hx
      obtain ⟨l, q, hl1, hq, hql⟩ := h2 j p.2 e2
      rw [← e1] at hl1
      have eq : (ls.getD p.1 []).getD p.2 [] = q := by
        rw [List.getD_eq_getElem?_getD, List.getD_eq_getElem?_getD, hl1]
        show (l[p.2]?).getD [] = q
        rw [hq]
        rfl
      refine ss_one (s_ext (xs := fo) 2 (NJ.fz (n_map nd [("other", 5)] (fun o => row.take p.1 ++ [o] ++ row.drop (p.1 + 1)) (i_list (e_ix (e_ix (e_v 0) (e_v 3) hl1) (e_v 4) hq)) (gb_name nd 5) (fun _ o _ _ _ _ _ _ => ?_) (by omega))) ?_ ⟨p2, .fro ⟨p.1⟩, .fro ⟨p.2⟩, _, rfl, ?_, ?_⟩)
      · refine NJ.fz (n_cat (NJ.fz (n_cat (NJ.fz (n_take (e_v 1) (e_v 3))) (NJ.fz (n_lst (l_cons (e_v 5) l_nil) (by simp))) ?_)) (NJ.fz (n_drop (e_v 1) (e_addN (e_v 3) (e_n 1)))) ?_)
        · simp only [List.length_take, List.length_singleton]
          omega
        · simp only [List.length_append, List.length_take, List.length_singleton, List.length_drop]
          omega
      · rw [List.length_map]
        omega
      · rw [fm_take_succ hx, hf, eq]
      · rw [List.length_append, List.length_map]
        omega
    · obtain ⟨p2, s3, s4, fo, rfl, hf, hl⟩ := hp
      have e : (en row).take (en row).length = en row := List.take_length
      rw [e] at hf
      subst hf
      exact ss_one (s_ret (NJ.fz (n_sorted T.sorted_ hr (EJ.fzl 2 (e_v 2)))) rfl)
end
end K48

namespace K48
open PySem PySem.Spec PyProof.Rows L2 Ty M
theorem get_map {α β : Type} {f : α → β} {xs : List α} {i : Nat} {y : β} (h : (xs.map f)[i]? = some y) : ∃ x, xs[i]? = some x ∧ f x = y := by
  rw [List.getElem?_map] at h
  exact Option.map_eq_some_iff.mp h
section
variable {W : Wd} (T : Top W)
include T
theorem kn_factoring_of : Kn W 7 "factoring_of" ["webs"] (spF1 (fun ws : List Web => ws.length ≤ 12 ∧ (∀ w ∈ ws, FacPre w) ∧ placesIn ws ≤ 1000) factoringOf) :=
  kn_of (n := 10) T.f_factoring_of sc_factoring_of rfl (fun _ => rfl) (fun _ _ _ _ _ _ us hl => match us, hl with | [_], _ => rfl) fun _ cdv A outer s H E hr ws ok => by
    have nd := sc_factoring_of.nd
    obtain ⟨h1, h2, h3⟩ := ok
    have hp0 : ∀ w ∈ ws, 0 < w.1 ∧ w.1 ≤ 1000 := fun w hw => by
      have := (h2 w hw).ok.pos
      have := (h2 w hw).ok.le
      omega
    refine ss_cons (s_map nd 1 [("web", 10)] facIn (i_list (e_v 0)) (gb_name nd 10) (fun j w hx _ _ _ _ _ => e_call1 (kn_factored_in T) hr (e_v 10) (h2 w (List.mem_of_getElem? hx))) (by omega) fun p1 => ?_)
    refine SsJ.fzl 1 ?_
    refine ss_cons (s_new nd 2 (n_lst (α := Web) l_nil (by decide)) fun p2 => ?_)
    refine ss_cons (s_for (i_list (e_v 1)) (g_pair nd 3 4) (fun j Γ => ∃ p2 s3 s4 fo, Γ = [.fro ⟨ws⟩, .fro ⟨ws.map facIn⟩, .own p2 ⟨(⟨fo⟩ : Ol Web)⟩, s3, s4, .non, .non, .non, .non, .non, .non] ∧ fo = ((ws.map facIn).take j).flatMap (·.1) ∧ fo.length ≤ 1000 * j)
      ⟨p2, .non, .non, [], rfl, rfl, by simp⟩ (fun j p Γ hx hp => ?_) fun Γ hp => ?_)
    · obtain ⟨p2, s3, s4, fo, rfl, hf, hl⟩ := hp
      have hj : j < ws.length := by
        have := (List.getElem?_eq_some_iff.mp hx).1
        rwa [List.length_map] at this
      obtain ⟨w, hw, e⟩ := get_map hx
      have hfl : p.1.length ≤ 120 := by
        rw [← e]
        show ((classesIn w).map _).length ≤ _
        rw [List.length_map]
        exact Nat.le_trans (classesIn_len w) (h2 w (List.mem_of_getElem? hw)).ok.few
      refine ss_one (s_ext (xs := fo) 2 (e_v 3) (by omega) ⟨p2, .fro ⟨p.1⟩, .fro ⟨p.2⟩, _, rfl, ?_, ?_⟩)
      · rw [fm_take_succ hx, hf]
      · rw [List.length_append]
        omega
    · obtain ⟨p2, s3, s4, fo, rfl, hf, hl⟩ := hp
      have e : (ws.map facIn).take (ws.map facIn).length = ws.map facIn := List.take_length
      rw [e] at hf
      subst hf
      refine ss_cons (s_new nd 5 (n_lst (α := List Nat) l_nil (by decide)) fun p5 => ?_)
      refine ss_cons (s_for (i_range T.range_ (e_call1 (kn_places_in T) (hr.mono (by decide)) (e_v 0) fun w hw => (hp0 w hw).2) (by omega)) (g_name nd 6)
        (fun j Γ => ∃ p5 s6 s7 s8 s9, Γ = [.fro ⟨ws⟩, .fro ⟨ws.map facIn⟩, .own p2 ⟨(⟨(ws.map facIn).flatMap (·.1)⟩ : Ol Web)⟩, s3, s4, .own p5 ⟨(⟨((List.range (placesIn ws)).take j).map fun n => ((rowIn ws n).zip (ws.map facIn)).flatMap fun p => p.2.2.getD p.1 []⟩ : Ol (List Nat))⟩, s6, s7, s8, s9, .non])
        ⟨p5, .non, .non, .non, .non, rfl⟩ (fun j n Γ hx hp => ?_) fun Γ hp => ?_)
      · obtain ⟨p5, s6, s7, s8, s9, rfl⟩ := hp
        obtain ⟨rfl, hj⟩ := rng_at hx
        rw [map_take_succ hx]
        refine ss_cons (s_new nd 7 (n_lst (α := Nat) l_nil (by decide)) fun p7 => ?_)
        refine ss_cons (s_for (i_zipS T.zip_ (e_call2 (kn_row_in T) (hr.mono (by decide)) (e_v 0) (e_v 6) ⟨by omega, hp0⟩) (e_v 1) (by rw [rowIn_len, List.length_map])) (g_pair nd 8 9)
          (fun m Γ => ∃ p7 s8 s9 fo, Γ = [.fro ⟨ws⟩, .fro ⟨ws.map facIn⟩, .own p2 ⟨(⟨(ws.map facIn).flatMap (·.1)⟩ : Ol Web)⟩, s3, s4, .own p5 ⟨(⟨((List.range (placesIn ws)).take n).map fun n => ((rowIn ws n).zip (ws.map facIn)).flatMap fun p => p.2.2.getD p.1 []⟩ : Ol (List Nat))⟩, .fro ⟨n⟩, .own p7 ⟨(⟨fo⟩ : Ol Nat)⟩, s8, s9, .non] ∧
            fo = (((rowIn ws n).zip (ws.map facIn)).take m).flatMap (fun p => p.2.2.getD p.1 []) ∧ fo.length ≤ 120 * m)
          ⟨p7, s8, s9, [], rfl, rfl, by simp⟩ (fun m p Γ hx2 hp => ?_) fun Γ hp => ?_)
        · obtain ⟨p7, s8, s9, fo, rfl, hf, hl⟩ := hp
          obtain ⟨e1, e2⟩ := Ty.zip_get hx2
          obtain ⟨w, hw, e3⟩ := get_map e2
          have fw := h2 w (List.mem_of_getElem? hw)
          obtain ⟨f1, f2⟩ := facIn_rows fw
          have hlt : p.1 < p.2.2.length := by
            rw [← e3, f1]
            exact rowIn_get (fun w hw => (hp0 w hw).1) hw e1
          have hm : m < ws.length := (List.getElem?_eq_some_iff.mp hw).1
          have hrl : (p.2.2.getD p.1 []).length ≤ 120 := by
            have := get_getD (d := []) hlt
            rw [← e3] at this ⊢
            exact f2 _ (List.mem_of_getElem? this)
          refine ss_one (s_ext (xs := fo) 7 (e_ix (e_at1 (e_v 9)) (e_v 8) (get_getD (d := []) hlt)) ?_ ⟨p7, .fro ⟨p.1⟩, .fro ⟨p.2⟩, _, rfl, ?_, ?_⟩)
          · omega
          · rw [fm_take_succ hx2, hf]
          · rw [List.length_append]
            omega
        · obtain ⟨p7, s8, s9, fo, rfl, hf, hl⟩ := hp
          have e : ((rowIn ws n).zip (ws.map facIn)).take ((rowIn ws n).zip (ws.map facIn)).length = (rowIn ws n).zip (ws.map facIn) := List.take_length
          rw [e] at hf
          subst hf
          refine SsJ.fzl 7 ?_
          refine ss_one (s_app 5 (e_v 7) ?_ ⟨p5, .fro ⟨n⟩, _, s8, s9, rfl⟩)
          rw [List.length_map, List.length_take, List.length_range]
          omega
      · obtain ⟨p5, s6, s7, s8, s9, rfl⟩ := hp
        have e : (List.range (placesIn ws)).take (List.range (placesIn ws)).length = List.range (placesIn ws) := List.take_length
        rw [e]
        exact ss_one (s_ret (e_tup2 (e_fz 2) (e_fz 5)) rfl)
theorem kn_places_by : Kn W 1 "places_by" ["factoring"] (spF1 (fun f : Fac => f.2.Nodup ∧ f.2.length ≤ 1000) placesBy) :=
  kn_of (n := 2) T.f_places_by sc_places_by rfl (fun _ => rfl) (fun _ _ _ _ _ _ us hl => match us, hl with | [_], _ => rfl) fun _ cdv A outer s H E hr f ok => by
    have nd := sc_places_by.nd
    refine ss_one (s_ret (NJ.fzD (n_dictT T.dict_ hr (NJ.fz (n_map nd [("place", 1), ("row", 2)] (fun p : Nat × List Nat => ((⟨p.2⟩ : Tp Nat), p.1)) (i_enum T.enumerate_ (e_at1 (e_v 0))) (gb_pair nd 1 2) (fun _ _ _ _ _ _ _ _ => e_tup2 (e_tupleOf T.tuple_ (e_v 2)) (e_v 1)) ?_)) ?_)) rfl)
    · rw [en_len]
      have := ok.2
      omega
    · show ((placesBy f).l.map (·.1)).Nodup
      rw [placesBy_keys, List.Nodup, List.pairwise_map]
      exact ok.1.imp fun {a b} h e => h (congrArg Tp.l e)
theorem kn_unlike_at : Kn W 1 "unlike_at" ["row", "other"] (spF2 (fun r o : List Nat => r.length ≤ 1000 ∧ r.length = o.length ∧ unlikes r o ≠ []) unlikeAt) :=
  kn_of (n := 1) T.f_unlike_at sc_unlike_at rfl (fun _ => rfl) (fun _ _ _ _ _ _ us hl => match us, hl with | [_, _], _ => rfl) fun _ cdv A outer s H E hr i ok => by
    have nd := sc_unlike_at.nd
    obtain ⟨r, o⟩ := i
    obtain ⟨h1, h2, h3⟩ := ok
    simp only at h1 h2 h3
    have hx : (unlikes r o)[0]? = some (unlikeAt r o) := by
      unfold unlikeAt
      cases e : unlikes r o with
      | nil => exact absurd e h3
      | cons a l => rfl
    rw [show unlikes r o = (unlikes r o).map id from (List.map_id _).symm] at hx
    refine ss_one (s_ret (e_ix (NJ.fz (n_fil nd [("k", 2)] (fun k => !decide (r.getD k 0 = o.getD k 0)) id (i_range T.range_ (e_len T.len_ (e_v 0)) (show r.length ≤ 1000000 by omega)) (gb_name nd 2) (fun j k hk _ _ _ _ _ => ?_) (fun _ _ _ _ _ _ _ _ _ => e_v 2) (by rw [List.length_range]; show r.length ≤ 100000; omega))) (e_n 0) hx) rfl)
    obtain ⟨rfl, hj⟩ := rng_at hk
    have hj : k < r.length := hj
    exact t_neN (e_ix (e_v 0) (e_v 2) (get_getD hj)) (e_ix (e_v 1) (e_v 2) (get_getD (by omega)))
theorem kn_parted_by : Kn W 2 "parted_by" ["first", "second", "naming"] (spF3 (fun f s n => PartPre f s n) partedBy) :=
  kn_of (n := 9) T.f_parted_by sc_parted_by rfl (fun _ => rfl) (fun _ _ _ _ _ _ us hl => match us, hl with | [_, _, _], _ => rfl) fun _ cdv A outer s H E hr i ok => by
    have nd := sc_parted_by.nd
    obtain ⟨f, g, nam⟩ := i
    have ok : PartPre f g nam := ok
    obtain ⟨m, hm, hrl⟩ := ok.rlen
    have hfac := ok.facs
    refine ss_cons (s_set nd 3 (e_call1 (kn_places_by T) hr (e_v 0) ⟨ok.nd, ok.few⟩) ?_)
    refine ss_cons (s_set nd 4 (e_ix (e_at1 (e_v 0)) (e_n 0) (get_getD (d := []) ok.pos)) ?_)
    refine ss_cons (s_new nd 5 (n_lst (α := Nat) l_nil (by decide)) fun p5 => ?_)
    refine ss_cons (s_new nd 6 (n_lst (α := List Nat) l_nil (by decide)) fun p6 => ?_)
    refine ss_cons (s_for (i_enum T.enumerate_ (e_at0 (e_v 0))) (g_pair nd 7 8)
      (fun j Γ => ∃ p5 p6 s7 s8 s9 s10, Γ = [.fro ⟨f⟩, .fro ⟨g⟩, .fro ⟨nam⟩, .fro ⟨placesBy f⟩, .fro ⟨f.2.getD 0 []⟩, .own p5 ⟨(⟨((List.range f.1.length).take j).map (turnAt f g nam)⟩ : Ol Nat)⟩, .own p6 ⟨(⟨((List.range f.1.length).take j).map (partAt f g nam)⟩ : Ol (List Nat))⟩, s7, s8, s9, s10, .non])
      ⟨p5, p6, .non, .non, .non, .non, rfl⟩ (fun j p Γ hx hp => ?_) fun Γ hp => ?_)
    · obtain ⟨p5, p6, s7, s8, s9, s10, rfl⟩ := hp
      obtain ⟨k, w⟩ := p
      obtain ⟨rfl, hw⟩ := en_get hx
      simp only at hw
      have hk : k < f.1.length := (List.getElem?_eq_some_iff.mp hw).1
      have hr0 : (List.range f.1.length)[k]? = some k := List.getElem?_range hk
      obtain ⟨w2, w3⟩ := ok.two k w hw
      rw [map_take_succ hr0, map_take_succ hr0]
      have ewk : f.1.getD k (0, []) = w := by
        rw [List.getD_eq_getElem?_getD, hw]
        rfl
      have him : images f g nam k = (List.range w.1).map fun a => g.2.getD (nam.getD (f.2.idxOf (baseAt f k a)) 0) [] := by
        unfold images
        rw [ewk]
      refine ss_cons (s_new nd 9 (n_lst (α := List Nat) l_nil (by decide)) fun p9 => ?_)
      refine ss_cons (s_for (i_range T.range_ (e_at0 (e_v 8)) (show w.1 ≤ 1000000 by omega)) (g_name nd 10)
        (fun a Γ => ∃ p9 s10, Γ = [.fro ⟨f⟩, .fro ⟨g⟩, .fro ⟨nam⟩, .fro ⟨placesBy f⟩, .fro ⟨f.2.getD 0 []⟩, .own p5 ⟨(⟨((List.range f.1.length).take k).map (turnAt f g nam)⟩ : Ol Nat)⟩, .own p6 ⟨(⟨((List.range f.1.length).take k).map (partAt f g nam)⟩ : Ol (List Nat))⟩, .fro ⟨k⟩, .fro ⟨w⟩,
          .own p9 ⟨(⟨((List.range w.1).take a).map fun a => g.2.getD (nam.getD (f.2.idxOf (baseAt f k a)) 0) []⟩ : Ol (List Nat))⟩, s10, .non])
        ⟨p9, s10, rfl⟩ (fun a b Γ hy hp => ?_) fun Γ hp => ?_)
      · obtain ⟨p9, s10, rfl⟩ := hp
        obtain ⟨rfl, hb⟩ := rng_at hy
        have hb : b < w.1 := hb
        have mem := ok.mem k w b hw hb
        obtain ⟨n1, n2⟩ := ok.nam _ mem
        refine ss_one (s_app 9 (e_ix (e_at1 (e_v 1)) (e_ix (e_v 2) (e_dget hr (e_v 3) (e_tupleOf T.tuple_ (NJ.fz (n_cat (NJ.fz (n_cat (NJ.fz (n_take (e_v 4) (e_v 7))) (NJ.fz (n_lst (l_cons (e_v 10) l_nil) (by simp))) ?_)) (NJ.fz (n_drop (e_v 4) (e_addN (e_v 7) (e_n 1)))) ?_))) (look_places ok.nd mem)) (get_getD (d := 0) n1)) (get_getD (d := []) n2)) ?_ ⟨p9, .fro ⟨b⟩, ?_⟩)
        · have := ok.base
          simp only [List.length_take, List.length_singleton]
          omega
        · have := ok.base
          simp only [List.length_append, List.length_take, List.length_singleton, List.length_drop]
          omega
        · rw [List.length_map, List.length_take, List.length_range]
          omega
        · rw [map_take_succ hy]
          rfl
      · obtain ⟨p9, s10, rfl⟩ := hp
        have e : (List.range w.1).take (List.range w.1).length = List.range w.1 := List.take_length
        rw [e, ← him]
        refine SsJ.fzl 9 ?_
        have il : (images f g nam k).length = w.1 := by rw [him, List.length_map, List.length_range]
        have i0 := get_getD (xs := images f g nam k) (i := 0) (d := []) (by omega)
        have i1 := get_getD (xs := images f g nam k) (i := 1) (d := []) (by omega)
        have hrow : ∀ r ∈ images f g nam k, r.length = m := fun r hr => by
          rw [him] at hr
          obtain ⟨a, ha, e⟩ := List.mem_map.mp hr
          rw [← e]
          exact hrl _ (List.mem_of_getElem? (get_getD (d := []) (ok.nam _ (ok.mem k w a hw (List.mem_range.mp ha))).2))
        have l0 := hrow _ (List.mem_of_getElem? i0)
        have l1 := hrow _ (List.mem_of_getElem? i1)
        have ht : turnAt f g nam k < m := by
          have u := ok.unl k w hw
          unfold turnAt unlikeAt
          cases e : unlikes ((images f g nam k).getD 0 []) ((images f g nam k).getD 1 []) with
          | nil => exact absurd e u
          | cons a l =>
            have : a ∈ unlikes ((images f g nam k).getD 0 []) ((images f g nam k).getD 1 []) := by
              rw [e]
              exact List.mem_cons_self ..
            unfold unlikes at this
            rw [List.mem_filter, List.mem_range, l0] at this
            exact this.1
        refine ss_cons (s_app 5 (e_call2 (kn_unlike_at T) hr (e_ix (e_v 9) (e_n 0) i0) (e_ix (e_v 9) (e_n 1) i1) ⟨by omega, by omega, ok.unl k w hw⟩) ?_ ?_)
        · rw [List.length_map, List.length_take, List.length_range]
          omega
        refine ss_one (s_app 6 (NJ.fz (n_map nd [("image", 11)] (fun im : List Nat => im.getD (turnAt f g nam k) 0) (i_list (e_v 9)) (gb_name nd 11) (fun j im him2 _ _ _ _ _ => e_ix (e_v 11) (e_lastO (y := turnAt f g nam k) 5 List.getLast?_concat) (get_getD (by rw [hrow im (List.mem_of_getElem? him2)]; exact ht))) (by omega))) ?_ ⟨p5, p6, .fro ⟨k⟩, .fro ⟨w⟩, .fro ⟨images f g nam k⟩, s10, ?_⟩)
        · rw [List.length_map, List.length_take, List.length_range]
          omega
        · rfl
    · obtain ⟨p5, p6, s7, s8, s9, s10, rfl⟩ := hp
      have e : (List.range f.1.length).take (en f.1).length = List.range f.1.length := by
        rw [en_len]
        exact List.take_of_length_le (by simp)
      have e : (List.range f.1.length).take (en (f, g, nam).1.1).length = List.range f.1.length := e
      rw [e]
      exact ss_one (s_ret (e_tup2 (e_fz 5) (e_fz 6)) rfl)
end
end K48

namespace K48
open PySem PySem.Spec PyProof.Rows L2 Ty M
section
variable {W : Wd} (T : Top W)
include T
theorem kn_joined_by : Kn W 2 "joined_by" ["first", "second", "parts"] (spF3 (fun f s p => JoinPre f s p) joinedBy) :=
  kn_of (n := 8) T.f_joined_by sc_joined_by rfl (fun _ => rfl) (fun _ _ _ _ _ _ us hl => match us, hl with | [_, _, _], _ => rfl) fun _ cdv A outer s H E hr i ok => by
    have nd := sc_joined_by.nd
    obtain ⟨f, g, turn, parts⟩ := i
    have ok : JoinPre f g (turn, parts) := ok
    have hfew := ok.few
    have hfac : turn.length ≤ 1000 := ok.facs
    refine ss_cons (s_asg (e_v 2) (g_pair nd 3 4) ?_)
    refine ss_cons (s_set nd 5 (e_call1 (kn_places_by T) hr (e_v 1) ⟨ok.nd, hfew.1⟩) ?_)
    refine ss_cons (s_new nd 6 (n_lst (α := Nat) l_nil (by decide)) fun p6 => ?_)
    refine ss_cons (s_for (i_list (e_at1 (e_v 0))) (g_name nd 7)
      (fun j Γ => ∃ p6 s7 s8 s9 s10, Γ = [.fro ⟨f⟩, .fro ⟨g⟩, .fro ⟨(turn, parts)⟩, .fro ⟨turn⟩, .fro ⟨parts⟩, .fro ⟨placesBy g⟩, .own p6 ⟨(⟨(f.2.take j).map fun row => g.2.idxOf (imageOf turn parts row)⟩ : Ol Nat)⟩, s7, s8, s9, s10])
      ⟨p6, .non, .non, .non, .non, rfl⟩ (fun j row Γ hx hp => ?_) fun Γ hp => ?_)
    · obtain ⟨p6, s7, s8, s9, s10, rfl⟩ := hp
      have hrow : row ∈ f.2 := List.mem_of_getElem? hx
      have hj : j < f.2.length := (List.getElem?_eq_some_iff.mp hx).1
      refine ss_cons (s_new nd 8 (n_rep (NJ.fz (n_lst (l_cons (e_n 0) l_nil) (by decide))) (e_len T.len_ (e_v 3)) (by omega)) fun p8 => ?_)
      refine ss_cons (s_for (i_enum T.enumerate_ (e_v 3)) (g_pair nd 9 10)
        (fun m Γ => ∃ p8 s9 s10, Γ = [.fro ⟨f⟩, .fro ⟨g⟩, .fro ⟨(turn, parts)⟩, .fro ⟨turn⟩, .fro ⟨parts⟩, .fro ⟨placesBy g⟩, .own p6 ⟨(⟨(f.2.take j).map fun row => g.2.idxOf (imageOf turn parts row)⟩ : Ol Nat)⟩, .fro ⟨row⟩,
          .own p8 ⟨(⟨((en turn).take m).foldl (fun im p => im.set p.2 ((parts.getD p.1 []).getD (row.getD p.1 0) 0)) (List.replicate turn.length 0)⟩ : Ol Nat)⟩, s9, s10])
        ⟨p8, s9, s10, rfl⟩ (fun m p Γ hy hp => ?_) fun Γ hp => ?_)
      · obtain ⟨p8, s9, s10, rfl⟩ := hp
        obtain ⟨k, to⟩ := p
        obtain ⟨rfl, hto⟩ := en_get hy
        simp only at hto
        have hk : k < turn.length := (List.getElem?_eq_some_iff.mp hto).1
        obtain ⟨q, hq, hrows⟩ := ok.part k hk
        obtain ⟨x, hx1, hx2⟩ := hrows row hrow
        have eq : parts.getD k [] = q := by
          rw [List.getD_eq_getElem?_getD, show parts[k]? = some q from hq]
          rfl
        have ex : row.getD k 0 = x := by
          rw [List.getD_eq_getElem?_getD, hx1]
          rfl
        have htl : to < turn.length := ok.turn to (List.mem_of_getElem? hto)
        rw [fold_take hy]
        refine ss_one (s_setO 8 (e_ix (e_ix (e_v 4) (e_v 9) hq) (e_ix (e_v 7) (e_v 9) hx1) (get_getD (d := 0) hx2)) (e_v 10) ?_ ⟨p8, .fro ⟨k⟩, .fro ⟨to⟩, ?_⟩)
        · rw [image_len turn parts row, List.length_replicate]
          exact htl
        · rw [← eq, ← ex]
          rfl
      · obtain ⟨p8, s9, s10, rfl⟩ := hp
        have e : ((en turn).take (en turn).length).foldl (fun im (p : Nat × Nat) => im.set p.2 ((parts.getD p.1 []).getD (row.getD p.1 0) 0)) (List.replicate turn.length 0) = imageOf turn parts row := by
          rw [List.take_length]
          rfl
        rw [e]
        refine SsJ.fzl 8 ?_
        refine ss_one (s_app 6 (e_dget hr (e_v 5) (e_tupleOf T.tuple_ (e_v 8)) (look_places ok.nd (ok.mem row hrow))) ?_ ⟨p6, .fro ⟨row⟩, .fro ⟨imageOf turn parts row⟩, s9, s10, ?_⟩)
        · rw [List.length_map, List.length_take]
          omega
        · rw [map_take_succ hx]
          rfl
    · obtain ⟨p6, s7, s8, s9, s10, rfl⟩ := hp
      have e : f.2.take (f, g, turn, parts).1.2.length = f.2 := List.take_length
      rw [e]
      exact ss_one (s_ret (e_fz 6) rfl)
/-! ### products -/
theorem fit_small {ws : List Web} (h : FitPre ws) : (∀ w ∈ ws, w.1 ≤ 1000) ∧ (∀ w ∈ ws, 0 < w.1 ∧ w.1 ≤ 1000) ∧ ∀ w ∈ ws, 0 < w.1 ∧ w.1 ≤ 1000 ∧ w.2.length ≤ 1000 :=
  ⟨fun w hw => Nat.le_trans (h.ok w hw).le (by decide), fun w hw => ⟨(h.ok w hw).pos, Nat.le_trans (h.ok w hw).le (by decide)⟩, fun w hw => ⟨(h.ok w hw).pos, Nat.le_trans (h.ok w hw).le (by decide), Nat.le_trans (h.ok w hw).few (by decide)⟩⟩
theorem kn_fits : Kn W 3 "fits" ["webs"] (spF1 FitPre fun _ => true) :=
  kn_of (n := 0) T.f_fits sc_fits rfl (fun _ => rfl) (fun _ _ _ _ _ _ us hl => match us, hl with | [_], _ => rfl) fun _ cdv A outer s H E hr ws ok => by
    obtain ⟨s1, s2, s3⟩ := fit_small T ok
    have := ok.few
    refine ss_one (s_ret (EJ.as (e_and2 (e_leN (e_call1 (kn_places_in T) (hr.mono (by decide)) (e_v 0) s1) (e_gn T.MOST_PLACES_products)) fun _ => e_leN (e_call1 (kn_ties_in T) hr (e_v 0) ⟨by omega, s3⟩) (e_gn T.MOST_TIES_products)) (dyq ?_)) rfl)
    rw [decide_eq_true ok.places, decide_eq_true ok.ties]
    rfl
theorem besideNums_len {webs : List Web} {n : Nat} (h : FitPre webs) : (besideNums webs n).length ≤ 1000 * 12 := by
  have := h.few
  unfold besideNums besideBy
  rw [List.length_map, (Ty.perm_srt _).length_eq, List.length_flatMap]
  have g : ∀ (l : List (Nat × Nat)), ((l.map fun p => (((webs.map besideAll).getD p.1 []).getD p.2 []).map fun o => (rowIn webs n).take p.1 ++ [o] ++ (rowIn webs n).drop (p.1 + 1)).map List.length).sum ≤ 1000 * l.length := by
    intro l
    induction l with
    | nil => simp
    | cons p l ih =>
      rw [List.map_cons, List.map_cons, List.sum_cons, List.length_cons, List.length_map]
      have : (((webs.map besideAll).getD p.1 []).getD p.2 []).length ≤ 1000 := by
        by_cases hp : p.1 < webs.length
        · have e : (webs.map besideAll).getD p.1 [] = besideAll webs[p.1] := by
            rw [List.getD_eq_getElem?_getD, List.getElem?_map, List.getElem?_eq_getElem hp]
            rfl
          rw [e]
          exact nbOf_len _ (h.ok _ (List.getElem_mem hp)) p.2
        · have e : (webs.map besideAll).getD p.1 [] = [] := by
            rw [List.getD_eq_getElem?_getD, List.getElem?_map, List.getElem?_eq_none (show webs.length ≤ p.1 by omega)]
            rfl
          rw [e]
          simp
      omega
  have h2 := g (en (rowIn webs n))
  rw [en_len, rowIn_len] at h2
  rw [List.map_map] at h2
  exact Nat.le_trans h2 (Nat.mul_le_mul_left _ this)
theorem kn_made_of : Kn W 4 "made_of" ["webs"] (spF1 FitPre madeOf) :=
  kn_of (n := 7) T.f_made_of sc_made_of rfl (fun _ => rfl) (fun _ _ _ _ _ _ us hl => match us, hl with | [_], _ => rfl) fun _ cdv A outer s H E hr ws ok => by
    have nd := sc_made_of.nd
    obtain ⟨s1, s2, s3⟩ := fit_small T ok
    have hfew := ok.few
    have hpl := ok.places
    refine ss_cons (s_ifNo (t_not (TJ.val (k := true) (e_call1 (kn_fits T) hr (e_v 0) ok))) ?_)
    refine ss_cons (s_map nd 1 [("web", 5)] besideAll (i_list (e_v 0)) (gb_name nd 5) (fun j w hx _ _ _ _ _ => e_call1 (kn_beside_all T) (hr.mono (by decide)) (e_v 5) (ok.ok w (List.mem_of_getElem? hx))) (by omega) fun p1 => ?_)
    refine SsJ.fzl 1 ?_
    refine ss_cons (s_new nd 2 (n_lst (α := Tie) l_nil (by decide)) fun p2 => ?_)
    refine ss_cons (s_for (i_range T.range_ (e_call1 (kn_places_in T) (hr.mono (by decide)) (e_v 0) s1) (by omega)) (g_name nd 3)
      (fun j Γ => ∃ p2 s3 s4 fo, Γ = [.fro ⟨ws⟩, .fro ⟨ws.map besideAll⟩, .own p2 ⟨(⟨fo⟩ : Ol Tie)⟩, s3, s4, .non, .non, .non] ∧ fo = ((List.range (placesIn ws)).take j).flatMap (madeTies ws) ∧ fo.length ≤ 12000 * j)
      ⟨p2, .non, .non, [], rfl, rfl, by simp⟩ (fun j n Γ hx hp => ?_) fun Γ hp => ?_)
    · obtain ⟨p2, s3', s4, fo, rfl, hf, hl⟩ := hp
      obtain ⟨rfl, hj⟩ := rng_at hx
      have hbl := besideNums_len T (n := n) ok
      have hml : (madeTies ws n).length ≤ 12000 := by
        unfold madeTies
        rw [List.length_map]
        have := List.length_filter_le (fun o => decide (n < o)) ((besideNums ws n).mergeSort fun a b => decide (a ≤ b))
        rw [List.length_mergeSort] at this
        omega
      have hmt : (((srt (besideNums ws n)).filter fun o => decide (n < o)).map fun o => (n, o)) = madeTies ws n := by
        rw [srt_nat]
        rfl
      have hrow : ∀ (k p : Nat), (rowIn ws n)[k]? = some p → ∃ l q, (ws.map besideAll)[k]? = some l ∧ l[p]? = some q ∧ q.length ≤ 1000 := fun k p hp => by
        have hk : k < ws.length := by
          have := (List.getElem?_eq_some_iff.mp hp).1
          rwa [rowIn_len] at this
        have hw : ws[k]? = some ws[k] := List.getElem?_eq_getElem hk
        have hlt := rowIn_get (fun w hw => (s2 w hw).1) hw hp
        have hv := ok.ok _ (List.mem_of_getElem? hw)
        refine ⟨besideAll ws[k], nbOf (besideAll ws[k]) p, by rw [List.getElem?_map, hw]; rfl, ?_, nbOf_len _ hv p⟩
        exact get_getD (by rw [bs_len]; exact hlt)
      refine ss_cons (s_map nd 4 [("row", 6)] (numberIn ws) (i_list (e_call2 (kn_beside_by T) (hr.mono (by decide)) (e_v 1) (e_call2 (kn_row_in T) (hr.mono (by decide)) (e_v 0) (e_v 3) ⟨by omega, s2⟩) ⟨?_, hrow⟩)) (gb_name nd 6) (fun _ _ _ _ _ _ _ _ => e_call2 (kn_number_in T) (hr.mono (by decide)) (e_v 0) (e_v 6) s1) ?_ fun p4 => ?_)
      · rw [rowIn_len]
        omega
      · have : (besideNums ws n).length = (besideBy (ws.map besideAll) (rowIn ws n)).length := by
          unfold besideNums
          rw [List.length_map]
        omega
      refine SsJ.fzl 4 ?_
      refine ss_one (s_ext (xs := fo) 2 (NJ.fz (n_fil nd [("other", 7)] (fun o => decide (n < o)) (fun o => (n, o)) (i_list (NJ.fz (n_sorted T.sorted_ hr (e_v 4)))) (gb_name nd 7) (fun _ _ _ _ _ _ _ _ => t_gtN (e_v 7) (e_v 3)) (fun _ _ _ _ _ _ _ _ _ => e_tup2 (e_v 3) (e_v 7)) ?_)) ?_ ⟨p2, .fro ⟨n⟩, .fro ⟨besideNums ws n⟩, _, rfl, ?_, ?_⟩)
      · show (srt (besideNums ws n)).length ≤ _
        rw [(Ty.perm_srt _).length_eq]
        omega
      · show fo.length + (((srt (besideNums ws n)).filter fun o => decide (n < o)).map fun o => (n, o)).length ≤ _
        rw [hmt]
        omega
      · show fo ++ (((srt (besideNums ws n)).filter fun o => decide (n < o)).map fun o => (n, o)) = _
        rw [hmt, fm_take_succ hx, hf]
      · show (fo ++ (((srt (besideNums ws n)).filter fun o => decide (n < o)).map fun o => (n, o))).length ≤ _
        rw [hmt, List.length_append]
        omega
    · obtain ⟨p2, s3', s4, fo, rfl, hf, hl⟩ := hp
      have e : (List.range (placesIn ws)).take (List.range (placesIn ws)).length = List.range (placesIn ws) := List.take_length
      rw [e] at hf
      subst hf
      exact ss_one (s_ret (e_tup2 (e_call1 (kn_places_in T) (hr.mono (by decide)) (e_v 0) s1) (e_fz 2)) rfl)
theorem kn_product : Kn W 6 "product" ["webs"] (spF1 FitPre madeOf) :=
  kn_of (n := 0) T.f_product sc_product rfl (fun _ => rfl) (fun _ _ _ _ _ _ us hl => match us, hl with | [_], _ => rfl) fun _ cdv A outer s H E hr ws ok =>
    ss_cons (s_expr (e_call1 (kn_look_at_webs T) hr (e_v 0) ⟨ok.few, ok.ok⟩) (ss_one (s_ret (e_call1 (kn_made_of T) (hr.mono (by decide)) (e_v 0) ok) rfl)))
/-! ### taken -/
theorem kn_followed : Kn W 2 "followed" ["parts", "start", "own", "later"] (spF4 (fun (p : List Nat × List (List Nat)) (start own later : Nat) => start < p.1.length ∧ start < p.2.length ∧ FollowOk p.1 p.2 own later p.1.length (p.1.getD start 0) (p.2.getD start [])) followed) :=
  kn_of (n := 5) T.f_followed sc_followed rfl (fun _ => rfl) (fun _ _ _ _ _ _ us hl => match us, hl with | [_, _, _, _], _ => rfl) fun _ cdv A outer s H E hr i ok => by
    have nd := sc_followed.nd
    obtain ⟨⟨turn, parts⟩, start, own, later⟩ := i
    obtain ⟨h1, h2, h3⟩ := ok
    simp only at h1 h2 h3
    refine ss_cons (s_asg (e_v 0) (g_pair nd 4 5) ?_)
    refine ss_cons (s_set nd 6 (e_ix (e_v 4) (e_v 1) (get_getD (d := 0) h1)) (ss_cons (s_set nd 7 (e_ix (e_v 5) (e_v 1) (get_getD (d := []) h2)) ?_)))
    refine ss_cons (s_while (fun m Γ => ∃ to found s8, Γ = [.fro ⟨(turn, parts)⟩, .fro ⟨start⟩, .fro ⟨own⟩, .fro ⟨later⟩, .fro ⟨turn⟩, .fro ⟨parts⟩, .fro ⟨to⟩, .fro ⟨found⟩, s8] ∧ FollowOk turn parts own later m to found ∧ follow turn parts own later m to found = followed (turn, parts) start own later)
      turn.length ⟨_, _, .non, rfl, h3, rfl⟩ (fun m Γ hp => ?_))
    obtain ⟨to, found, s8, rfl, hf, he⟩ := hp
    refine ⟨_, _, t_geN (e_v 6) (e_v 3), fun hk => ?_, fun hk => ?_⟩
    · have hle : later ≤ to := of_decide_eq_true hk
      cases m with
      | zero => 
        have : to < later := hf
        omega
      | succ m =>
        obtain ⟨⟨a1, a2, a3, a4⟩, a5⟩ := hf hle
        refine ss_cons (s_set nd 8 (e_subN (e_addN (e_v 2) (e_v 6)) (e_v 3) (by omega)) ?_)
        refine ss_cons (s_set nd 7 (e_call2 (kn_behind T) hr (e_v 7) (e_ix (e_v 5) (e_v 8) (get_getD (d := []) a2)) ⟨a4, a3⟩) ?_)
        refine ss_one (s_set nd 6 (e_ix (e_v 4) (e_v 8) (get_getD (d := 0) a1)) ⟨m, by omega, _, _, _, rfl, a5, ?_⟩)
        rw [← he]
        show _ = if later ≤ to then _ else _
        rw [if_pos hle]
    · have hlt : to < later := Nat.lt_of_not_le (of_decide_eq_false hk)
      refine ss_one (s_ret (e_tup2 (e_v 6) (e_v 7)) (dyq ?_))
      rw [← follow_end (turn := turn) (parts := parts) (own := own) m to found hlt, he]
theorem kn_cancelled : Kn W 8 "cancelled" ["one", "other", "third", "naming"] (spF4 (fun (one other third : Web) (n : List Nat) => CancelPre one other third n) cancel) :=
  kn_of (n := 10) T.f_cancelled sc_cancelled rfl (fun _ => rfl) (fun _ _ _ _ _ _ us hl => match us, hl with | [_, _, _, _], _ => rfl) fun _ cdv A outer s H E hr i ok => by
    have nd := sc_cancelled.nd
    obtain ⟨one, other, third, n⟩ := i
    have ok : CancelPre one other third n := ok
    have mem : ∀ (j : Nat) w, [one, other, third][j]? = some w → Valid w ∧ Conn w := fun j w h => by
      have := List.mem_of_getElem? h
      have e : w = one ∨ w = other ∨ w = third := by simpa using this
      rcases e with rfl | rfl | rfl
      · exact ⟨ok.ok1.ok, ok.c1⟩
      · exact ⟨ok.ok2.ok, ok.c2⟩
      · exact ⟨ok.ok3.ok, ok.c3⟩
    refine ss_cons (s_for (i_tup (e_tupT (l_cons (e_v 0) (l_cons (e_v 1) (l_cons (e_v 2) l_nil))) (by simp))) (g_name nd 4)
      (fun j Γ => ∃ s4, Γ = [.fro ⟨one⟩, .fro ⟨other⟩, .fro ⟨third⟩, .fro ⟨n⟩, s4, .non, .non, .non, .non, .non, .non, .non, .non, .non]) ⟨.non, rfl⟩ (fun j w Γ hx hp => ?_) fun Γ hp => ?_)
    · obtain ⟨s4, rfl⟩ := hp
      exact ss_one (s_expr (e_call1 (kn_look_at_web T) (hr.mono (by decide)) (e_v 4) (mem j w hx).1) ⟨_, rfl⟩)
    obtain ⟨s4, rfl⟩ := hp
    refine ss_cons (s_for (i_tup (e_tupT (l_cons (e_v 0) (l_cons (e_v 1) (l_cons (e_v 2) l_nil))) (by simp))) (g_name nd 4)
      (fun j Γ => ∃ s4, Γ = [.fro ⟨one⟩, .fro ⟨other⟩, .fro ⟨third⟩, .fro ⟨n⟩, s4, .non, .non, .non, .non, .non, .non, .non, .non, .non]) ⟨s4, rfl⟩ (fun j w Γ hx hp => ?_) fun Γ hp => ?_)
    · obtain ⟨s4, rfl⟩ := hp
      exact ss_one (s_expr (e_call1 (kn_look_together T) (hr.mono (by decide)) (e_v 4) (mem j w hx)) ⟨_, rfl⟩)
    obtain ⟨s4, rfl⟩ := hp
    refine ss_cons (s_set nd 5 (e_call1 (kn_made_of T) (hr.mono (by decide)) (NJ.fz (n_lst (l_cons (e_v 0) (l_cons (e_v 2) l_nil)) (by simp))) ok.f1) ?_)
    refine ss_cons (s_set nd 6 (e_call1 (kn_made_of T) (hr.mono (by decide)) (NJ.fz (n_lst (l_cons (e_v 1) (l_cons (e_v 2) l_nil)) (by simp))) ok.f2) ?_)
    refine ss_cons (s_expr (e_call3 (kn_look_at_naming T) (hr.mono (by decide)) (e_v 5) (e_v 6) (e_v 3) ⟨ok.v1, ok.v2, ok.nam⟩) ?_)
    refine ss_cons (s_set nd 7 (e_call3 (kn_parted_by T) (hr.mono (by decide)) (e_call1 (kn_factoring_of T) hr (NJ.fz (n_lst (l_cons (e_v 0) (l_cons (e_v 2) l_nil)) (by simp))) ⟨ok.f1.few, ?_, Nat.le_trans ok.f1.places (by decide)⟩)
      (e_call1 (kn_factoring_of T) hr (NJ.fz (n_lst (l_cons (e_v 1) (l_cons (e_v 2) l_nil)) (by simp))) ⟨ok.f2.few, ?_, Nat.le_trans ok.f2.places (by decide)⟩) (e_v 3) ok.part) ?_)
    · intro w hw
      have e : w = one ∨ w = third := by simpa using hw
      rcases e with rfl | rfl
      · exact ok.ok1
      · exact ok.ok3
    · intro w hw
      have e : w = other ∨ w = third := by simpa using hw
      rcases e with rfl | rfl
      · exact ok.ok2
      · exact ok.ok3
    refine ss_cons (s_set nd 8 (e_call1 (kn_factored_in T) (hr.mono (by decide)) (e_v 0) ok.ok1) (ss_cons (s_set nd 9 (e_call1 (kn_factored_in T) (hr.mono (by decide)) (e_v 1) ok.ok2) ?_)))
    have hfl : (facIn one).1.length ≤ 120 := by
      show ((classesIn one).map _).length ≤ _
      rw [List.length_map]
      exact Nat.le_trans (classesIn_len one) ok.ok1.ok.few
    have pl : (partedBy (factoringOf [one, third]) (factoringOf [other, third]) n).1.length = (factoringOf [one, third]).1.length ∧ (partedBy (factoringOf [one, third]) (factoringOf [other, third]) n).2.length = (factoringOf [one, third]).1.length := by
      unfold partedBy
      simp
    refine ss_cons (s_map nd 10 [("k", 11)] (fun k => followed (partedBy (factoringOf [one, third]) (factoringOf [other, third]) n) k (facIn one).1.length (facIn other).1.length) (i_range T.range_ (e_len T.len_ (e_at0 (e_v 8))) (by omega)) (gb_name nd 11) (fun j k hx _ _ _ _ _ => ?_) (by rw [List.length_range]; omega) fun p10 => ?_)
    · obtain ⟨rfl, hj⟩ := rng_at hx
      obtain ⟨f1, f2⟩ := ok.fol k hj
      refine e_call4 (kn_followed T) (hr.mono (by decide)) (e_v 7) (e_v 11) (e_len T.len_ (e_at0 (e_v 8))) (e_len T.len_ (e_at0 (e_v 9))) ⟨by rw [pl.1]; exact f1, by rw [pl.2]; exact f1, ?_⟩
      rw [pl.1]
      exact f2
    rw [show (List.range (facIn one).1.length).map (fun k => followed (partedBy (factoringOf [one, third]) (factoringOf [other, third]) n) k (facIn one).1.length (facIn other).1.length) = endsOfParts (partedBy (factoringOf [one, third]) (factoringOf [other, third]) n) (facIn one).1.length (facIn other).1.length from rfl]
    have jp := ok.join
    have el : (endsOfParts (partedBy (factoringOf [one, third]) (factoringOf [other, third]) n) (facIn one).1.length (facIn other).1.length).length ≤ 120 := by
      unfold endsOfParts
      rw [List.length_map, List.length_range]
      exact hfl
    refine SsJ.fzl 10 ?_
    refine ss_one (s_ret (e_call3 (kn_joined_by T) (hr.mono (by decide)) (e_v 8) (e_v 9) (e_tup2 (NJ.fz (n_map nd [("to", 12), ("some", 13)] (fun p : Nat × List Nat => p.1) (i_list (e_v 10)) (gb_pair nd 12 13) (fun _ _ _ _ _ _ _ _ => e_v 12) (by omega))) (NJ.fz (n_map nd [("to", 12), ("some", 13)] (fun p : Nat × List Nat => p.2) (i_list (e_v 10)) (gb_pair nd 12 13) (fun _ _ _ _ _ _ _ _ => e_v 13) (by omega)))) jp) rfl)
end
end K48

namespace K48
open PySem PySem.Spec PyProof.Rows L2 Ty M
section
variable {W : Wd} (T : Top W)
include T
/-! ### the pool -/
theorem kn_take : Kn W 1 "_law_take" ["_law_pool_here", "_law_many_here"] (spP (fun m : Nat => [⟨m⟩]) (fun m _ => 0 < m ∧ m < 1073741824) (fun m w => ⟨takeV w m⟩) fun m w => takeS w m) :=
  kn_ofP (n := 1) T.f_law_take sc_law_take rfl (fun _ => rfl) (fun _ _ _ _ _ _ us hl => match us, hl with | [_, _], _ => rfl) fun f cdv A outer s H E hr m w qs ok => by
    have nd := sc_law_take.nd
    obtain ⟨g, q⟩ := w
    refine ss_cons (s_if (t_gtN (e_ixO 0 (e_n 0) rfl) (e_n 0)) (fun hk => ?_) fun hk => ss_nil ?_)
    · have hk : 0 < g := of_decide_eq_true hk
      refine ss_cons (s_set nd 2 (e_modN (e_ixO 0 (e_n 0) rfl) (e_v 1) ok.1) (ss_cons (s_setO (n := 0) (xs := [g, q]) 0 (e_divN (e_ixO 0 (e_n 0) rfl) (e_v 1) ok.1 ok.2) (e_n 0) (by simp) (ss_one (s_ret (e_v 2) ⟨?_, ?_⟩)))))
      · refine dyq ?_
        unfold takeV
        rw [if_pos hk]
      · unfold takeS
        rw [if_pos hk]
        rfl
    · have hk : ¬ 0 < g := of_decide_eq_false hk
      have hs : (q * 48271 + 11) % 2147483647 < 2147483647 := Nat.mod_lt _ (by decide)
      refine ss_cons (s_setO (n := 1) (xs := [g, q]) 0 (e_modN (e_addN (e_mulNr (e_ixO 0 (e_n 1) rfl) (e_n 48271) (by decide)) (e_n 11)) (e_n 2147483647) (by decide)) (e_n 1) (by simp) ?_)
      refine ss_one (s_ret (e_modN (e_divN (e_modN (e_mulNr (n := (q * 48271 + 11) % 2147483647) (e_ixO 0 (e_n 1) rfl) (e_ixO 0 (e_n 1) rfl) (by omega)) (e_n 2147483629) (by decide)) (e_n 16) (by decide) (by decide)) (e_v 1) ok.1) ⟨dyq ?_, ?_⟩)
      · unfold takeV takeS
        rw [if_neg hk, if_neg hk]
      · unfold takeS
        rw [if_neg hk]
        rfl
/-- what the pool starts with -/
theorem kn_pool : Kn W 1 "_law_pool" ["_law_script", "_law_k"] (spN (fun p : Scr W.K × Nat => [⟨p.1⟩, ⟨p.2⟩]) (fun p => p.2 < 3) fun p => pl (((if 10 ^ 18 ≤ (p.1.l.getD p.2 0) then p.1.l.getD p.2 0 else 0).toNat),
    ((((max (p.1.l.getD p.2 0) (-1 - p.1.l.getD p.2 0) + 7919 * p.2 * p.2 + 104729 * p.2 + 17) % 2147483629).toNat * 48271) % 2147483647))) :=
  kn_ofN (n := 3) T.f_law_pool sc_law_pool rfl (fun _ => rfl) (fun _ _ _ _ _ _ us hl => match us, hl with | [_, _], _ => rfl) fun f cdv A outer s H E hr i ok => by
    have nd := sc_law_pool.nd
    obtain ⟨sc, k⟩ := i
    have ok : k < 3 := ok
    have fin : ∀ c : Int, c = sc.l.getD k 0 → SsJ (cxOf CX0 W.P W.w W.K W.mg W.base ["_law_script", "_law_k", "_law_cell", "_law_number_here", "_law_great"] "_law_pool" (defScope s_law_pool) f cdv A outer s H E).nox ((defBody s_law_pool).drop 2) [.fro ⟨sc⟩, .fro ⟨k⟩, .fro ⟨c⟩, .non, .non]
        ⟨fun _ => False, fun _ _ => False, fun _ z => z = pl (((if 10 ^ 18 ≤ (sc.l.getD k 0) then sc.l.getD k 0 else 0).toNat), ((((max (sc.l.getD k 0) (-1 - sc.l.getD k 0) + 7919 * k * k + 104729 * k + 17) % 2147483629).toNat * 48271) % 2147483647))⟩ := fun c hc => by
      have hpos : 0 ≤ (max c (-1 - c) + 7919 * (k : Int) * k + 104729 * k + 17) % 2147483629 := Int.emod_nonneg _ (by decide)
      refine ss_cons (s_set nd 3 (EJ.nat (n := ((max c (-1 - c) + 7919 * (k : Int) * k + 104729 * k + 17) % 2147483629).toNat) (e_modI (e_addI (e_addI (e_addI (e_maxI T.max_ (e_v 2) (e_subI (e_negI (e_i 1)) (e_v 2))) (e_mulI (e_mulI (e_i 7919) (e_v 1).int (.inl ⟨by decide, by decide⟩)) (e_v 1).int (.inr ⟨by omega, by omega⟩))) (e_mulI (e_i 104729) (e_v 1).int (.inl ⟨by decide, by decide⟩))) (e_i 17)) (e_i 2147483629) (by decide)) (Int.toNat_of_nonneg hpos).symm) ?_)
      refine ss_cons (s_set nd 4 (e_n 0) ?_)
      refine ss_cons (s_if (t_geI (e_v 2) (e_powI (n := 18) (e_i 10) (e_n 18) (by decide) (by decide))) (fun hk => ss_one (s_set nd 4 (EJ.nat (n := c.toNat) (e_v 2) ?_) ?_)) fun hk => ss_nil ?_)
      · have : (10 : Int) ^ 18 ≤ c := of_decide_eq_true hk
        omega
      · have hk : (10 : Int) ^ 18 ≤ c := of_decide_eq_true hk
        refine ss_one (s_retN (n_lst (l_cons (e_v 4) (l_cons (e_modN (e_mulNr (e_v 3) (e_n 48271) (by decide)) (e_n 2147483647) (by decide)) l_nil)) (by simp)) ?_)
        rw [← hc, if_pos hk]
      · have hk : ¬ (10 : Int) ^ 18 ≤ c := of_decide_eq_false hk
        refine ss_one (s_retN (n_lst (l_cons (e_v 4) (l_cons (e_modN (e_mulNr (e_v 3) (e_n 48271) (by decide)) (e_n 2147483647) (by decide)) l_nil)) (by simp)) ?_)
        rw [← hc, if_neg hk]
        rfl
    refine ss_cons (s_set nd 2 (e_i 0) ?_)
    refine ss_cons (s_if (t_ltN (e_v 1) (e_lenS T.len_ (e_v 0))) (fun hk => ss_one (s_set nd 2 (e_ixS (y := sc) (i := sc.l.getD k 0) (e_v 0) (e_v 1) (get_getD (of_decide_eq_true hk))) ?_)) fun hk => ss_nil ?_)
    · exact fin _ rfl
    · refine fin 0 ?_
      have hk : ¬ k < sc.l.length := of_decide_eq_false hk
      rw [List.getD_eq_getElem?_getD, List.getElem?_eq_none (by omega)]
      rfl
end
end K48

namespace K48
open PySem PySem.Spec PyProof.Rows L2 Ty M
section
variable {W : Wd} (T : Top W)
include T
theorem kn_shuffled : Kn W 2 "_law_shuffled" ["_law_pool_here", "_law_many_here"] (spP (fun m : Nat => [⟨m⟩]) (fun m _ => m ≤ 1000) (fun m w => ⟨(shuf w m).1⟩) fun m w => (shuf w m).2.1) :=
  kn_ofP (n := 2) T.f_law_shuffled sc_law_shuffled rfl (fun _ => rfl) (fun _ _ _ _ _ _ us hl => match us, hl with | [_, _], _ => rfl) fun f cdv A outer s H E hr m w qs ok => by
    have nd := sc_law_shuffled.nd
    refine ss_cons (s_new nd 2 (n_listRg T.list_ T.range_ (e_v 1) (by omega)) fun p2 => ?_)
    refine ss_one (s_ret (NJ.fz (n_lc (Γ' := [.own qs (pl (shuf w m).2.1), .fro ⟨m⟩, .own p2 ⟨(⟨(shuf w m).2.2⟩ : Ol Nat)⟩, .non]) (y := (shuf w m).1) nd [("_law_k", 3)] (blkOk_by (by rfl)) (i_range T.range_ (e_v 1) (by omega)) (gb_name nd 3) (by rw [List.length_range]; omega)
      (fun i Γ ys => Γ = [.own qs (pl (mapA shufStep ((List.range m).take i) (w, List.range m)).2.1), .fro ⟨m⟩, .own p2 ⟨(⟨(mapA shufStep ((List.range m).take i) (w, List.range m)).2.2⟩ : Ol Nat)⟩, .non] ∧ ys = (mapA shufStep ((List.range m).take i) (w, List.range m)).1)
      ⟨rfl, rfl⟩ (fun i x Γ ys hx hp => ?_) (fun Γ ys hp => ?_))) ⟨rfl, rfl⟩)
    · obtain ⟨rfl, rfl⟩ := hp
      obtain ⟨rfl, hx2⟩ := rng_at hx
      have hl := shuf_names w m x (by omega)
      have e := mapA_take (f := shufStep) (s := (w, List.range m)) hx
      generalize mapA shufStep ((List.range m).take x) (w, List.range m) = st at hl e ⊢
      have ht := takeV_lt st.2.1 (m := st.2.2.length) (by omega)
      refine ⟨_, true, fun _ _ _ _ _ => .nil, fun _ => ⟨_, _, fun s H C cl fp => e_popO 2 (e_callP 0 (st.2.2.length) (kn_take T) hr (a_1 (e_lenO 2 T.len_)) ⟨by omega, by omega⟩) (get_getD (d := 0) ht) (by omega), ?_, ?_⟩, fun z => nomatch z⟩
      · rw [e]
        rfl
      · rw [e]
        rfl
    · obtain ⟨rfl, rfl⟩ := hp
      have e : (List.range m).take (List.range m).length = List.range m := List.take_length
      rw [e]
      exact ⟨rfl, rfl⟩
theorem kn_web : Kn W 2 "_law_web" ["_law_pool_here", "_law_most", "_law_more"] (spP (fun p : Nat × Nat => [⟨p.1⟩, ⟨p.2⟩]) (fun p _ => 0 < p.1 ∧ p.1 ≤ 100 ∧ p.2 ≤ 100) (fun p w => ⟨webV w p.1 p.2⟩) fun p w => (webS w p.1 p.2).pool) :=
  kn_ofP (n := 8) T.f_law_web sc_law_web rfl (fun _ => rfl) (fun _ _ _ _ _ _ us hl => match us, hl with | [_, _, _], _ => rfl) fun f cdv A outer s H E hr i w qs ok => by
    have nd := sc_law_web.nd
    obtain ⟨most, more⟩ := i
    obtain ⟨h1, h2, h3⟩ := ok
    simp only at h1 h2 h3
    obtain ⟨m1, m2⟩ := webS_m w (more := more) h1
    have mp := webS_pairs w (more := more) h1
    have mo := webS_order w most more
    have em : 1 + takeV w most = (webS w most more).m := rfl
    refine ss_cons (s_set nd 3 (e_addN (e_n 1) (e_callP 0 most (kn_take T) hr (a_1 (e_v 1)) ⟨h1, by omega⟩)) ?_)
    rw [em]
    generalize hm : (webS w most more).m = m at m1 m2 mp mo
    refine ss_cons (s_new nd 4 (n_listRg T.list_ T.range_ (e_v 3) (by omega)) fun p4 => ?_)
    refine ss_cons (s_lc (Γ' := [.own qs (pl (shuf (takeS w most) m).2.1), .fro ⟨most⟩, .fro ⟨more⟩, .fro ⟨m⟩, .own p4 ⟨(⟨(shuf (takeS w most) m).2.2⟩ : Ol Nat)⟩, .non, .non, .non, .non, .non, .non]) (y := (shuf (takeS w most) m).1) nd 5 [("_law_k", 7)] (blkOk_by (by rfl)) (i_range T.range_ (e_v 3) (by omega)) (gb_name nd 7) (by rw [List.length_range]; omega)
      (fun i Γ ys => Γ = [.own qs (pl (mapA shufStep ((List.range m).take i) (takeS w most, List.range m)).2.1), .fro ⟨most⟩, .fro ⟨more⟩, .fro ⟨m⟩, .own p4 ⟨(⟨(mapA shufStep ((List.range m).take i) (takeS w most, List.range m)).2.2⟩ : Ol Nat)⟩, .non, .non, .non, .non, .non, .non] ∧ ys = (mapA shufStep ((List.range m).take i) (takeS w most, List.range m)).1)
      ⟨rfl, rfl⟩ (fun i x Γ ys hx hp => ?_) (fun Γ ys hp => ?_) fun p5 => ?_)
    · obtain ⟨rfl, rfl⟩ := hp
      obtain ⟨rfl, hx2⟩ := rng_at hx
      have hl := shuf_names (takeS w most) m x (by omega)
      have e := mapA_take (f := shufStep) (s := (takeS w most, List.range m)) hx
      generalize mapA shufStep ((List.range m).take x) (takeS w most, List.range m) = st at hl e ⊢
      have ht := takeV_lt st.2.1 (m := st.2.2.length) (by omega)
      refine ⟨_, true, fun _ _ _ _ _ => .nil, fun _ => ⟨_, _, fun s H C cl fp => e_popO 4 (e_callP 0 (st.2.2.length) (kn_take T) hr (a_1 (e_lenO 4 T.len_)) ⟨by omega, by omega⟩) (get_getD (d := 0) ht) (by omega), ?_, ?_⟩, fun z => nomatch z⟩
      · rw [e]
        rfl
      · rw [e]
        rfl
    · obtain ⟨rfl, rfl⟩ := hp
      have e : (List.range m).take (List.range m).length = List.range m := List.take_length
      rw [e]
      exact ⟨rfl, rfl⟩
    refine SsJ.fzl 5 ?_
    refine ss_cons (s_lc (Γ' := [.own qs (pl (mapA pairStep (List.range' 1 (m - 1)) (shuf (takeS w most) m).2.1).2), .fro ⟨most⟩, .fro ⟨more⟩, .fro ⟨m⟩, .own p4 ⟨(⟨(shuf (takeS w most) m).2.2⟩ : Ol Nat)⟩, .fro ⟨(shuf (takeS w most) m).1⟩, .non, .non, .non, .non, .non]) (y := (mapA pairStep (List.range' 1 (m - 1)) (shuf (takeS w most) m).2.1).1) nd 6 [("_law_k", 7)] (blkOk_by (by rfl)) (i_range2 T.range_ (e_n 1) (e_v 3) (by omega) (by omega)) (gb_name nd 7) (by rw [List.length_range']; omega)
      (fun i Γ ys => Γ = [.own qs (pl (mapA pairStep ((List.range' 1 (m - 1)).take i) (shuf (takeS w most) m).2.1).2), .fro ⟨most⟩, .fro ⟨more⟩, .fro ⟨m⟩, .own p4 ⟨(⟨(shuf (takeS w most) m).2.2⟩ : Ol Nat)⟩, .fro ⟨(shuf (takeS w most) m).1⟩, .non, .non, .non, .non, .non] ∧ ys = (mapA pairStep ((List.range' 1 (m - 1)).take i) (shuf (takeS w most) m).2.1).1)
      ⟨rfl, rfl⟩ (fun i x Γ ys hx hp => ?_) (fun Γ ys hp => ?_) fun p6 => ?_)
    · obtain ⟨rfl, rfl⟩ := hp
      have hx2 : 1 ≤ x ∧ x < m := by
        have := List.mem_of_getElem? hx
        rw [List.mem_range'] at this
        obtain ⟨j, hj, rfl⟩ := this
        omega
      have e := mapA_take (f := pairStep) (s := (shuf (takeS w most) m).2.1) hx
      generalize mapA pairStep ((List.range' 1 (m - 1)).take i) (shuf (takeS w most) m).2.1 = st at e ⊢
      refine ⟨_, true, fun _ _ _ _ _ => .nil, fun _ => ⟨_, _, fun s H C cl fp => e_tup2 (e_v 7) (e_callP 0 x (kn_take T) hr (a_1 (e_v 7)) ⟨by omega, by omega⟩), ?_, ?_⟩, fun z => nomatch z⟩
      · rw [e]
        rfl
      · rw [e]
        rfl
    · obtain ⟨rfl, rfl⟩ := hp
      have e : (List.range' 1 (m - 1)).take (List.range' 1 (m - 1)).length = List.range' 1 (m - 1) := List.take_length
      rw [e]
      exact ⟨rfl, rfl⟩
    have l2 : (mapA pairStep (List.range' 1 (m - 1)) (shuf (takeS w most) m).2.1).1.length = m - 1 := by rw [mapA_len, List.length_range']
    have epool : (webS w most more).pool = (mapA (extStep m) (List.range (takeV (mapA pairStep (List.range' 1 (m - 1)) (shuf (takeS w most) m).2.1).2 (more + 1))) (takeS (mapA pairStep (List.range' 1 (m - 1)) (shuf (takeS w most) m).2.1).2 (more + 1))).2 := by
      rw [← hm]
      rfl
    have epairs : (webS w most more).pairs = (mapA pairStep (List.range' 1 (m - 1)) (shuf (takeS w most) m).2.1).1 ++ (mapA (extStep m) (List.range (takeV (mapA pairStep (List.range' 1 (m - 1)) (shuf (takeS w most) m).2.1).2 (more + 1))) (takeS (mapA pairStep (List.range' 1 (m - 1)) (shuf (takeS w most) m).2.1).2 (more + 1))).1 := by
      rw [← hm]
      rfl
    have eorder : (webS w most more).order = (shuf (takeS w most) m).1 := by
      rw [← hm]
      rfl
    generalize mapA pairStep (List.range' 1 (m - 1)) (shuf (takeS w most) m).2.1 = s2 at l2 epool epairs
    generalize (shuf (takeS w most) m).2.2 = nm
    rw [eorder] at mo
    have hc := takeV_lt s2.2 (m := more + 1) (by omega)
    refine ss_cons (s_for (i_range T.range_ (e_callP 0 (more + 1) (kn_take T) hr (a_1 (e_addN (e_v 2) (e_n 1))) ⟨by omega, by omega⟩) (by omega)) (g_name nd 7)
      (fun i Γ => ∃ p6 s7, Γ = [.own qs (pl (mapA (extStep m) ((List.range (takeV s2.2 (more + 1))).take i) (takeS s2.2 (more + 1))).2), .fro ⟨most⟩, .fro ⟨more⟩, .fro ⟨m⟩, .own p4 ⟨(⟨nm⟩ : Ol Nat)⟩, .fro ⟨(shuf (takeS w most) m).1⟩, .own p6 ⟨(⟨s2.1 ++ (mapA (extStep m) ((List.range (takeV s2.2 (more + 1))).take i) (takeS s2.2 (more + 1))).1⟩ : Ol (Nat × Nat))⟩, s7, .non, .non, .non])
      ⟨p6, .non, ?_⟩ (fun i x Γ hx hp => ?_) fun Γ hp => ?_)
    · have e : s2.1 ++ (mapA (extStep m) ((List.range (takeV s2.2 (more + 1))).take 0) (takeS s2.2 (more + 1))).1 = s2.1 := List.append_nil _
      rw [e]
      rfl
    · obtain ⟨p6, s7, rfl⟩ := hp
      obtain ⟨rfl, hx2⟩ := rng_at hx
      rw [mapA_take hx]
      have lm : (mapA (extStep m) ((List.range (takeV s2.2 (more + 1))).take x) (takeS s2.2 (more + 1))).1.length ≤ x := by
        rw [mapA_len, List.length_take]
        omega
      generalize mapA (extStep m) ((List.range (takeV s2.2 (more + 1))).take x) (takeS s2.2 (more + 1)) = st at lm
      refine ss_one (s_app 6 (e_tup2 (e_callP 0 m (kn_take T) hr (a_1 (e_v 3)) ⟨m1, by omega⟩) (e_callP 0 m (kn_take T) hr (a_1 (e_v 3)) ⟨m1, by omega⟩)) ?_ ⟨p6, .fro ⟨x⟩, ?_⟩)
      · rw [List.length_append]
        omega
      · rw [← List.append_assoc]
        rfl
    · obtain ⟨p6, s7, rfl⟩ := hp
      have e : (List.range (takeV s2.2 (more + 1))).take (List.range (takeV s2.2 (more + 1))).length = List.range (takeV s2.2 (more + 1)) := List.take_length
      rw [e, ← epool, ← epairs]
      have lp : (webS w most more).pairs.length ≤ 1000 := by
        rw [epairs, List.length_append, mapA_len, List.length_range]
        omega
      refine SsJ.fzl 6 ?_
      refine ss_cons (s_new nd 8 (n_dnewT (κ := Tie) (β := Bool)) fun p8 => ?_)
      refine ss_cons (s_for (i_list (e_v 6)) (g_pair nd 9 10)
        (fun i Γ => ∃ p8 s9 s10, Γ = [.own qs (pl (webS w most more).pool), .fro ⟨most⟩, .fro ⟨more⟩, .fro ⟨m⟩, .own p4 ⟨(⟨nm⟩ : Ol Nat)⟩, .fro ⟨(shuf (takeS w most) m).1⟩, .fro ⟨(webS w most more).pairs⟩, s7, .own p8 ⟨(⟨((webS w most more).pairs.take i).foldl (tieStep (shuf (takeS w most) m).1) []⟩ : Od Tie Bool)⟩, s9, s10] ∧ (((webS w most more).pairs.take i).foldl (tieStep (shuf (takeS w most) m).1) []).length ≤ i)
        ⟨p8, .non, .non, rfl, by simp⟩ (fun i q Γ hx hp => ?_) fun Γ hp => ?_)
      · obtain ⟨p8, s9, s10, rfl, hl⟩ := hp
        have hq := mp q (List.mem_of_getElem? hx)
        have hi : i < (webS w most more).pairs.length := (List.getElem?_eq_some_iff.mp hx).1
        rw [fold_take hx]
        generalize ((webS w most more).pairs.take i).foldl (tieStep (shuf (takeS w most) m).1) [] = l at hl
        have o1 := get_getD (xs := (shuf (takeS w most) m).1) (i := q.1) (d := 0) (by omega)
        have o2 := get_getD (xs := (shuf (takeS w most) m).1) (i := q.2) (d := 0) (by omega)
        refine ss_one (s_if (t_neN (e_v 9) (e_v 10)) (fun hk => ?_) fun hk => ?_)
        · have hk2 : ¬ q.1 = q.2 := by simpa using hk
          have e : tieStep (shuf (takeS w most) m).1 l q = putL l (tieOf ((shuf (takeS w most) m).1.getD q.1 0) ((shuf (takeS w most) m).1.getD q.2 0)) true := if_neg hk2
          rw [e]
          have := putL_len l (tieOf ((shuf (takeS w most) m).1.getD q.1 0) ((shuf (takeS w most) m).1.getD q.2 0)) true
          exact ss_one (s_dputO (l := l) 8 hr e_b (e_tup2 (e_minN T.min_ (e_ix (e_v 5) (e_v 9) o1) (e_ix (e_v 5) (e_v 10) o2)) (e_maxN T.max_ (e_ix (e_v 5) (e_v 9) o1) (e_ix (e_v 5) (e_v 10) o2))) (by omega) ⟨p8, .fro ⟨q.1⟩, .fro ⟨q.2⟩, rfl, by omega⟩)
        · have hk2 : q.1 = q.2 := by simpa using hk
          have e : tieStep (shuf (takeS w most) m).1 l q = l := if_pos hk2
          rw [e]
          exact ss_nil ⟨p8, .fro ⟨q.1⟩, .fro ⟨q.2⟩, rfl, by omega⟩
      · obtain ⟨p8, s9, s10, rfl, hl⟩ := hp
        have e : (webS w most more).pairs.take (webS w most more).pairs.length = (webS w most more).pairs := List.take_length
        rw [e]
        refine ss_one (s_ret (e_tup2 (e_v 3) (NJ.fz (n_sortedO 8 T.sorted_ hr))) ⟨dyq ?_, rfl⟩)
        show _ = webV w most more
        unfold webV tiesOf
        rw [hm, eorder]
end
end K48

namespace K48
open PySem PySem.Spec PyProof.Rows L2 Ty M
section
variable {W : Wd} (T : Top W)
include T
theorem kn_many : Kn W 1 "_law_many" ["_law_webs"] (spF1 (fun ws : List Web => ∀ w ∈ ws, w.1 ≤ 1000) placesIn) :=
  kn_of (n := 3) T.f_law_many sc_law_many rfl (fun _ => rfl) (fun _ _ _ _ _ _ us hl => match us, hl with | [_], _ => rfl) fun _ cdv A outer s H E hr ws ok => by
    have nd := sc_law_many.nd
    refine ss_cons (s_set nd 1 (e_n 1) ?_)
    refine ss_cons (s_for (i_list (e_v 0)) (g_pair nd 2 3) (fun j Γ => ∃ s2 s3, Γ = [.fro ⟨ws⟩, .fro ⟨(ws.take j).foldl (fun a w => a * w.1) 1⟩, s2, s3]) ⟨.non, .non, rfl⟩ (fun j w Γ hx hp => ?_) fun Γ hp => ?_)
    · obtain ⟨s2, s3, rfl⟩ := hp
      rw [fold_take hx]
      have := ok w (List.mem_of_getElem? hx)
      exact ss_one (s_set nd 1 (e_mulNr (e_v 1) (e_v 2) (by omega)) ⟨.fro ⟨w.1⟩, .fro ⟨w.2⟩, rfl⟩)
    · obtain ⟨s2, s3, rfl⟩ := hp
      have e : ws.take ws.length = ws := List.take_length
      rw [e]
      exact ss_one (s_ret (e_v 1) rfl)
theorem kn_number : Kn W 1 "_law_number" ["_law_webs", "_law_row"] (spF2 (fun (ws : List Web) (row : List Nat) => ∀ w ∈ ws, w.1 ≤ 1000) numberIn) :=
  kn_of (n := 3) T.f_law_number sc_law_number rfl (fun _ => rfl) (fun _ _ _ _ _ _ us hl => match us, hl with | [_, _], _ => rfl) fun _ cdv A outer s H E hr i ok => by
    have nd := sc_law_number.nd
    obtain ⟨ws, row⟩ := i
    refine ss_cons (s_set nd 2 (e_n 0) ?_)
    refine ss_cons (s_for (i_zip T.zip_ (e_v 1) (e_v 0)) (g_pair nd 3 4) (fun j Γ => ∃ s2 s3, Γ = [.fro ⟨ws⟩, .fro ⟨row⟩, .fro ⟨((row.zip ws).take j).foldl (fun a (p : Nat × Web) => a * p.2.1 + p.1) 0⟩, s2, s3]) ⟨.non, .non, rfl⟩ (fun j p Γ hx hp => ?_) fun Γ hp => ?_)
    · obtain ⟨s2, s3, rfl⟩ := hp
      rw [fold_take hx]
      have := ok p.2 (List.mem_of_getElem? (Ty.zip_get hx).2)
      exact ss_one (s_set nd 2 (e_addN (e_mulNr (e_v 2) (e_at0 (e_v 4)) (by omega)) (e_v 3)) ⟨.fro ⟨p.1⟩, .fro ⟨p.2⟩, rfl⟩)
    · obtain ⟨s2, s3, rfl⟩ := hp
      have e : (row.zip ws).take (row.zip ws).length = row.zip ws := List.take_length
      rw [e]
      exact ss_one (s_ret (e_v 2) rfl)
theorem kn_webs_of : Kn W 1 "_law_webs_of" ["_law_dressed_here"] (spF1 (fun ds : List Drs => ds.length ≤ 1000) fun ds => ds.map (·.c)) :=
  kn_of (n := 3) T.f_law_webs_of sc_law_webs_of rfl (fun _ => rfl) (fun _ _ _ _ _ _ us hl => match us, hl with | [_], _ => rfl) fun _ cdv A outer s H E hr ds ok => by
    have nd := sc_law_webs_of.nd
    exact ss_one (s_ret (NJ.fz (n_map nd [("_law_which", 1), ("_law_order", 2), ("_law_web_here", 3)] (fun d : Drs => d.c) (i_list (e_v 0)) (gb_trip nd 1 2 3) (fun _ _ _ _ _ _ _ _ => e_v 3) (by omega))) rfl)
theorem kn_rows : Kn W 1 "_law_rows" ["_law_webs"] (spF1 (fun ws : List Web => ws.length ≤ 12 ∧ (∀ w ∈ ws, 0 < w.1 ∧ w.1 ≤ 1000) ∧ placesIn ws ≤ 1000) rowsOf) :=
  kn_of (n := 6) T.f_law_rows sc_law_rows rfl (fun _ => rfl) (fun _ _ _ _ _ _ us hl => match us, hl with | [_], _ => rfl) fun _ cdv A outer s H E hr ws ok => by
    have nd := sc_law_rows.nd
    obtain ⟨h1, h2, h3⟩ := ok
    refine ss_cons (s_set nd 1 (NJ.fz (n_lst (l_cons (NJ.fz (n_lst (α := Nat) l_nil (by decide))) l_nil) (by simp))) ?_)
    refine ss_cons (s_for (i_list (e_v 0)) (g_pair nd 2 3) (fun j Γ => ∃ s2 s3 s4 s5, Γ = [.fro ⟨ws⟩, .fro ⟨(ws.take j).foldl rowsStep [[]]⟩, s2, s3, s4, s5, .non]) ⟨.non, .non, .non, .non, rfl⟩ (fun j w Γ hx hp => ?_) fun Γ hp => ?_)
    · obtain ⟨s2, s3, s4, s5, rfl⟩ := hp
      rw [fold_take hx]
      have hw := h2 w (List.mem_of_getElem? hx)
      have hj : j < ws.length := (List.getElem?_eq_some_iff.mp hx).1
      have hl : ((ws.take j).foldl rowsStep [[]]).length = placesIn (ws.take j) := rowsFold_len _ _
      have hl2 : rowsStep ((ws.take j).foldl rowsStep [[]]) w = (ws.take (j + 1)).foldl rowsStep [[]] := (fold_take hx).symm
      have hl3 := placesIn_take (fun w hw => (h2 w hw).1) (j + 1)
      have hl4 : ((ws.take (j + 1)).foldl rowsStep [[]]).length = placesIn (ws.take (j + 1)) := rowsFold_len _ _
      have hm : ∀ r ∈ (ws.take j).foldl rowsStep [[]], r.length ≤ 12 := fun r hr => by
        have := rowsFold_mem (ws.take j) [[]] 0 (by simp) r hr
        rw [List.length_take] at this
        omega
      have hp1 := placesIn_take (fun w hw => (h2 w hw).1) j
      rw [← hl2, rowsStep_len, hl] at hl4
      generalize (ws.take j).foldl rowsStep [[]] = rows at hl hl2 hm
      refine ss_cons (s_new nd 4 (n_lst (α := List Nat) l_nil (by decide)) fun p4 => ?_)
      refine ss_cons (s_for (i_list (e_v 1)) (g_name nd 5) (fun i Γ => ∃ p4 s5 fo, Γ = [.fro ⟨ws⟩, .fro ⟨rows⟩, .fro ⟨w.1⟩, .fro ⟨w.2⟩, .own p4 ⟨(⟨fo⟩ : Ol (List Nat))⟩, s5, .non] ∧ fo = rowsStep (rows.take i) w)
        ⟨p4, s5, [], rfl, rfl⟩ (fun i r Γ hy hp => ?_) fun Γ hp => ?_)
      · obtain ⟨p4, s5, fo, rfl, hf⟩ := hp
        have hr1 := hm r (List.mem_of_getElem? hy)
        have hi : i < rows.length := (List.getElem?_eq_some_iff.mp hy).1
        have hfl : fo.length + w.1 ≤ 1000 := by
          rw [hf, rowsStep_len, List.length_take, Nat.min_eq_left (by omega), ← Nat.succ_mul]
          have : i.succ * w.1 ≤ rows.length * w.1 := Nat.mul_le_mul_right _ hi
          rw [hl] at this
          omega
        refine ss_one (s_ext (xs := fo) 4 (NJ.fz (n_map nd [("_law_place", 6)] (fun p => r ++ [p]) (i_range T.range_ (e_v 2) (by omega)) (gb_name nd 6) (fun _ p _ _ _ _ _ _ => NJ.fz (n_cat (e_v 5) (NJ.fz (n_lst (l_cons (e_v 6) l_nil) (by simp))) ?_)) (by rw [List.length_range]; omega))) ?_ ⟨p4, .fro ⟨r⟩, _, rfl, ?_⟩)
        · simp only [List.length_singleton]
          omega
        · rw [List.length_map, List.length_range]
          omega
        · rw [hf]
          unfold rowsStep
          rw [fm_take_succ hy]
      · obtain ⟨p4, s5, fo, rfl, hf⟩ := hp
        have e : rows.take rows.length = rows := List.take_length
        rw [e] at hf
        subst hf
        refine SsJ.fzl 4 ?_
        exact ss_one (s_set nd 1 (e_v 4) ⟨.fro ⟨w.1⟩, .fro ⟨w.2⟩, _, s5, rfl⟩)
    · obtain ⟨s2, s3, s4, s5, rfl⟩ := hp
      have e : ws.take ws.length = ws := List.take_length
      rw [e]
      exact ss_one (s_ret (e_v 1) rfl)
theorem kn_law_product : Kn W 2 "_law_product" ["_law_webs"] (spF1 (fun ws : List Web => ws.length ≤ 12 ∧ (∀ w ∈ ws, 0 < w.1 ∧ w.1 ≤ 1000) ∧ placesIn ws ≤ 100 ∧ ∀ w ∈ ws, w.2.length ≤ 120 ∧ ∀ t ∈ w.2, t.1 < t.2 ∧ t.2 < w.1) prodOf) :=
  kn_of (n := 8) T.f_law_product sc_law_product rfl (fun _ => rfl) (fun _ _ _ _ _ _ us hl => match us, hl with | [_], _ => rfl) fun _ cdv A outer s H E hr ws ok => by
    have nd := sc_law_product.nd
    obtain ⟨h1, h2, h3, h4⟩ := ok
    have h5 : ∀ w ∈ ws, w.2.length ≤ 120 := fun w hw => (h4 w hw).1
    have hrl : (rowsOf ws).length ≤ 100 := by rw [rowsOf_len]; exact h3
    refine ss_cons (s_set nd 1 (e_call1 (kn_rows T) hr (e_v 0) ⟨h1, h2, by omega⟩) ?_)
    refine ss_cons (s_new nd 2 (n_lst (α := Tie) l_nil (by decide)) fun p2 => ?_)
    refine ss_cons (s_for (i_enum T.enumerate_ (e_v 1)) (g_pair nd 3 4) (fun j Γ => ∃ p2 s3 s4 s5 s6 s7 s8, Γ = [.fro ⟨ws⟩, .fro ⟨rowsOf ws⟩, .own p2 ⟨(⟨((en (rowsOf ws)).take j).foldl (prRow ws) []⟩ : Ol Tie)⟩, s3, s4, s5, s6, s7, s8])
      ⟨p2, .non, .non, .non, .non, .non, .non, rfl⟩ (fun j p Γ hx hp => ?_) fun Γ hp => ?_)
    · obtain ⟨p2, s3, s4, s5, s6, s7, s8, rfl⟩ := hp
      have hj : j < (rowsOf ws).length := by
        have := (List.getElem?_eq_some_iff.mp hx).1
        rwa [en_len] at this
      have l1 := prRow_len h5 h1 ((en (rowsOf ws)).take j) []
      rw [List.length_take, List.length_nil] at l1
      rw [fold_take hx]
      generalize ((en (rowsOf ws)).take j).foldl (prRow ws) [] = ties at l1
      obtain ⟨n, row⟩ := p
      obtain ⟨_, hrow⟩ := en_get hx
      simp only at hrow
      have hrow2 := rowsOf_mem (List.mem_of_getElem? hrow)
      refine ss_cons (s_set nd 5 (e_n 1) ?_)
      refine ss_one (s_for (i_rangeDown T.range_ (e_subI (e_len T.len_ (e_v 0)).int (e_i 1)) (by omega)) (g_name nd 6) (fun i Γ => ∃ p2 s6 s7 s8, Γ = [.fro ⟨ws⟩, .fro ⟨rowsOf ws⟩, .own p2 ⟨(⟨(((List.range ws.length).reverse.take i).foldl (prWeb ws n row) (1, ties)).2⟩ : Ol Tie)⟩, .fro ⟨n⟩, .fro ⟨row⟩, .fro ⟨(((List.range ws.length).reverse.take i).foldl (prWeb ws n row) (1, ties)).1⟩, s6, s7, s8])
        ⟨p2, s6, s7, s8, rfl⟩ (fun i k Γ hy hp => ?_) fun Γ hp => ?_)
      · obtain ⟨p2, s6, s7, s8, rfl⟩ := hp
        have hk : k < ws.length := by
          have := List.mem_of_getElem? hy
          rw [List.mem_reverse, List.mem_range] at this
          exact this
        have hi : i < ws.length := by
          have := (List.getElem?_eq_some_iff.mp hy).1
          rwa [List.length_reverse, List.length_range] at this
        have l2 := prWeb_len h5 n row ((List.range ws.length).reverse.take i) (1, ties)
        rw [List.length_take] at l2
        simp only at l2
        rw [fold_take hy]
        generalize ((List.range ws.length).reverse.take i).foldl (prWeb ws n row) (1, ties) = st at l2
        obtain ⟨wt, tl⟩ := st
        simp only at l2
        have hw := get_getD (xs := ws) (d := (0, [])) hk
        have hwm := List.mem_of_getElem? hw
        have h4w := h4 _ hwm
        have h2w := h2 _ hwm
        have hrk := get_getD (xs := row) (i := k) (d := 0) (by omega)
        refine ss_cons (s_for (i_list (e_at1 (e_ix (e_v 0) (e_v 6) hw))) (g_pair nd 7 8) (fun m Γ => ∃ p2 s7 s8, Γ = [.fro ⟨ws⟩, .fro ⟨rowsOf ws⟩, .own p2 ⟨(⟨((ws.getD k (0, [])).2.take m).foldl (prTie n (row.getD k 0) wt) tl⟩ : Ol Tie)⟩, .fro ⟨n⟩, .fro ⟨row⟩, .fro ⟨wt⟩, .fro ⟨k⟩, s7, s8])
          ⟨p2, s7, s8, rfl⟩ (fun m t Γ hz hp => ?_) fun Γ hp => ?_)
        · obtain ⟨p2, s7, s8, rfl⟩ := hp
          have ht := h4w.2 t (List.mem_of_getElem? hz)
          have hm : m < (ws.getD k (0, [])).2.length := (List.getElem?_eq_some_iff.mp hz).1
          have l3 := prTie_len n (row.getD k 0) wt ((ws.getD k (0, [])).2.take m) tl
          rw [List.length_take] at l3
          rw [fold_take hz]
          generalize ((ws.getD k (0, [])).2.take m).foldl (prTie n (row.getD k 0) wt) tl = fo at l3
          refine ss_one (s_if (t_eqN (e_ix (e_v 4) (e_v 6) hrk) (e_v 7)) (fun hk2 => ?_) fun hk2 => ?_)
          · have hk3 : row.getD k 0 = t.1 := of_decide_eq_true hk2
            have e : prTie n (row.getD k 0) wt fo t = fo ++ [(n, n + (t.2 - t.1) * wt)] := if_pos hk3
            rw [e]
            exact ss_one (s_app (xs := fo) 2 (e_tup2 (e_v 3) (e_addN (e_v 3) (e_mulN (e_subN (e_v 8) (e_v 7) (by omega)) (e_v 5) (by omega)))) (by omega) ⟨p2, .fro ⟨t.1⟩, .fro ⟨t.2⟩, rfl⟩)
          · have hk3 : ¬ row.getD k 0 = t.1 := of_decide_eq_false hk2
            have e : prTie n (row.getD k 0) wt fo t = fo := if_neg hk3
            rw [e]
            exact ss_nil ⟨p2, .fro ⟨t.1⟩, .fro ⟨t.2⟩, rfl⟩
        · obtain ⟨p2, s7, s8, rfl⟩ := hp
          refine ss_one (s_set nd 5 (e_mulNr (e_v 5) (e_at0 (e_ix (e_v 0) (e_v 6) hw)) (by omega)) ⟨p2, .fro ⟨k⟩, s7, s8, ?_⟩)
          have e : (ws.getD k (0, [])).2.take (ws.getD k (0, [])).2.length = (ws.getD k (0, [])).2 := List.take_length
          rw [e]
          rfl
      · obtain ⟨p2, s6, s7, s8, rfl⟩ := hp
        refine ⟨p2, .fro ⟨n⟩, .fro ⟨row⟩, .fro ⟨(((List.range ws.length).reverse.take (List.range ws.length).reverse.length).foldl (prWeb ws n row) (1, ties)).1⟩, s6, s7, s8, ?_⟩
        have e : (List.range ws.length).reverse.take (List.range ws.length).reverse.length = (List.range ws.length).reverse := List.take_length
        rw [e]
        rfl
    · obtain ⟨p2, s3, s4, s5, s6, s7, s8, rfl⟩ := hp
      have e : (en (rowsOf ws)).take (en (rowsOf ws)).length = en (rowsOf ws) := List.take_length
      rw [e]
      exact ss_one (s_ret (e_tup2 (e_len T.len_ (e_v 1)) (NJ.fz (n_sorted T.sorted_ hr (EJ.fzl 2 (e_v 2))))) rfl)
theorem kn_renumbered : Kn W 2 "_law_renumbered" ["_law_web_here", "_law_order"] (spF2 (fun (w : Web) (o : List Nat) => w.2.length ≤ 100000 ∧ ∀ t ∈ w.2, t.1 < o.length ∧ t.2 < o.length) renumbered) :=
  kn_of (n := 3) T.f_law_renumbered sc_law_renumbered rfl (fun _ => rfl) (fun _ _ _ _ _ _ us hl => match us, hl with | [_, _], _ => rfl) fun _ cdv A outer s H E hr i ok => by
    have nd := sc_law_renumbered.nd
    obtain ⟨w, o⟩ := i
    obtain ⟨h1, h2⟩ := ok
    simp only at h1 h2
    refine ss_cons (s_map nd 2 [("_law_one", 3), ("_law_other", 4)] (fun t : Tie => tieOf (o.getD t.1 0) (o.getD t.2 0)) (i_list (e_at1 (e_v 0))) (gb_pair nd 3 4) (fun j t hx _ _ _ _ _ => ?_) h1 fun p2 => ?_)
    · have ht := h2 t (List.mem_of_getElem? hx)
      exact e_tup2 (e_minN T.min_ (e_ix (e_v 1) (e_v 3) (get_getD ht.1)) (e_ix (e_v 1) (e_v 4) (get_getD ht.2))) (e_maxN T.max_ (e_ix (e_v 1) (e_v 3) (get_getD ht.1)) (e_ix (e_v 1) (e_v 4) (get_getD ht.2)))
    · refine SsJ.fzl 2 ?_
      exact ss_one (s_ret (e_tup2 (e_at0 (e_v 0)) (NJ.fz (n_sorted T.sorted_ hr (e_v 2)))) rfl)
end
end K48

namespace K48
open PySem PySem.Spec PyProof.Rows L2 Ty M
section
variable {W : Wd} (T : Top W)
include T
theorem kn_bases : Kn W 3 "_law_bases" ["_law_pool_here", "_law_most"] (spP (fun m : Nat => [⟨m⟩]) (fun m _ => m ≤ 100) (fun m w => ⟨((basS w m).bases, (basS w m).found)⟩) fun m w => (basS w m).pool) :=
  kn_ofP (n := 6) T.f_law_bases sc_law_bases rfl (fun _ => rfl) (fun _ _ _ _ _ _ us hl => match us, hl with | [_, _], _ => rfl) fun f cdv A outer s H E hr m w qs ok => by
    have nd := sc_law_bases.nd
    refine ss_cons (s_new nd 2 (n_lc (Γ' := [.own qs (pl (bas1 w).2), .fro ⟨m⟩, .non, .non, .non, .non, .non, .non]) (y := (bas1 w).1) nd [("_law_turn", 5)] (blkOk_by (by rfl)) (i_range T.range_ (e_n 3) (by decide)) (gb_name nd 5) (by rw [List.length_range]; decide)
      (fun i Γ ys => Γ = [.own qs (pl (mapA baseStep ((List.range 3).take i) w).2), .fro ⟨m⟩, .non, .non, .non, .non, .non, .non] ∧ ys = (mapA baseStep ((List.range 3).take i) w).1)
      ⟨by rw [List.take_zero]; rfl, by rw [List.take_zero]; rfl⟩ (fun i x Γ ys hx hp => ?_) (fun Γ ys hp => ?_)) fun p2 => ?_)
    · obtain ⟨rfl, rfl⟩ := hp
      have e := mapA_take (f := baseStep) (s := w) hx
      generalize mapA baseStep ((List.range 3).take i) w = st at e ⊢
      have hs := sizes_ok _ (takeV_lt st.2 (m := 8) (by decide))
      refine ⟨_, true, fun _ _ _ _ _ => .nil, fun _ => ⟨_, _, fun s H C cl fp => e_callP 0 (sizes.getD (takeV st.2 8) 0, 2) (kn_web T) hr (a_2 (e_ix (xs := sizes) (NJ.fz (n_lst (l_cons (e_n 1) (l_cons (e_n 2) (l_cons (e_n 2) (l_cons (e_n 3) (l_cons (e_n 4) (l_cons (e_n 6) (l_cons (e_n 8) (l_cons (e_n 12) l_nil)))))))) (show sizes.length ≤ 1000 by decide))) (e_callP 0 8 (kn_take T) (hr.mono (by decide)) (a_1 (e_n 8)) ⟨by decide, by decide⟩) (get_getD (d := 0) (show _ < 8 from takeV_lt _ (by decide)))) (e_n 2)) ⟨hs.1, by have := hs.2; show sizes.getD _ 0 ≤ 100; omega, (show (2 : Nat) ≤ 100 by decide)⟩, ?_, ?_⟩, fun z => nomatch z⟩
      · rw [e]
        rfl
      · rw [e]
        rfl
    · obtain ⟨rfl, rfl⟩ := hp
      have e : (List.range 3).take (List.range 3).length = List.range 3 := List.take_length
      rw [e]
      exact ⟨rfl, rfl⟩
    have hb : ∀ v ∈ (bas1 w).1, 0 < v.1 ∧ v.1 ≤ 12 := bases_small w (List.range 3)
    have hbl : (bas1 w).1.length = 3 := by
      unfold bas1
      rw [mapA_len, List.length_range]
    have e0 : basS w m = ⟨(bas1 w).1, (bas2 (bas1 w) m).2, (bas2 (bas1 w) m).1⟩ := rfl
    rw [e0]
    simp only
    generalize bas1 w = s1 at hb hbl ⊢
    have e2 : bas2 s1 m = (List.range (takeV (takeS s1.2 4) (m + 1))).foldl (pickStep s1.1 (bounds.getD (takeV s1.2 4) 0)) (takeS (takeS s1.2 4) (m + 1), []) := rfl
    refine SsJ.fzl 2 ?_
    refine ss_cons (s_set nd 3 (e_ix (xs := bounds) (NJ.fz (n_lst (l_cons (e_n 6) (l_cons (e_n 12) (l_cons (e_n 16) (l_cons (e_n 18) l_nil)))) (show bounds.length ≤ 1000 by decide))) (e_callP 0 4 (kn_take T) (hr.mono (by decide)) (a_1 (e_n 4)) ⟨by decide, by decide⟩) (get_getD (d := 0) (show _ < 4 from takeV_lt _ (by decide)))) ?_)
    refine ss_cons (s_new nd 4 (n_lst (α := Nat) l_nil (by decide)) fun p4 => ?_)
    have hc := takeV_lt (takeS s1.2 4) (m := m + 1) (by omega)
    refine ss_cons (s_for (i_range T.range_ (e_callP 0 (m + 1) (kn_take T) (hr.mono (by decide)) (a_1 (e_addN (e_v 1) (e_n 1))) ⟨by omega, by omega⟩) (by omega)) (g_name nd 5)
      (fun i Γ => ∃ p4 s5 s6, Γ = [.own qs (pl (((List.range (takeV (takeS s1.2 4) (m + 1))).take i).foldl (pickStep s1.1 (bounds.getD (takeV s1.2 4) 0)) (takeS (takeS s1.2 4) (m + 1), [])).1), .fro ⟨m⟩, .fro ⟨s1.1⟩, .fro ⟨bounds.getD (takeV s1.2 4) 0⟩,
        .own p4 ⟨(⟨(((List.range (takeV (takeS s1.2 4) (m + 1))).take i).foldl (pickStep s1.1 (bounds.getD (takeV s1.2 4) 0)) (takeS (takeS s1.2 4) (m + 1), [])).2⟩ : Ol Nat)⟩, s5, s6, .non])
      ⟨p4, .non, .non, rfl⟩ (fun i x Γ hx hp => ?_) fun Γ hp => ?_)
    · obtain ⟨p4, s5, s6, rfl⟩ := hp
      obtain ⟨rfl, hx2⟩ := rng_at hx
      have pk := pick_ok (bases := s1.1) (bound := bounds.getD (takeV s1.2 4) 0) ((List.range (takeV (takeS s1.2 4) (m + 1))).take x) (takeS (takeS s1.2 4) (m + 1), []) (by simp)
      rw [List.length_take] at pk
      rw [fold_take hx]
      generalize ((List.range (takeV (takeS s1.2 4) (m + 1))).take x).foldl (pickStep s1.1 (bounds.getD (takeV s1.2 4) 0)) (takeS (takeS s1.2 4) (m + 1), []) = st at pk
      obtain ⟨pk1, pk2⟩ := pk
      simp only [List.length_nil] at pk2
      have ht := takeV_lt st.1 (m := 3) (by decide)
      have hm : ∀ y ∈ st.2 ++ [takeV st.1 3], y < 3 := fun y hy => by
        rcases List.mem_append.mp hy with z | z
        · exact pk1 y z
        · have e : y = takeV st.1 3 := by simpa using z
          omega
      have hll : (st.2 ++ [takeV st.1 3]).length ≤ 1000 := by
        rw [List.length_append, List.length_singleton]
        omega
      refine ss_cons (s_set nd 6 (e_callP 0 3 (kn_take T) (hr.mono (by decide)) (a_1 (e_n 3)) ⟨by decide, by decide⟩) ?_)
      refine ss_one (s_if (t_leN (e_call1 (kn_many T) (hr.mono (by decide)) (NJ.fz (n_map nd [("_law_one", 7)] (fun y => s1.1.getD y (0, [])) (i_list (NJ.fz (n_catO 4 (NJ.fz (n_lst (l_cons (e_v 6) l_nil) (by simp))) ?_))) (gb_name nd 7) (fun j y hy _ _ _ _ _ => e_ix (e_v 2) (e_v 7) (get_getD ?_)) ?_)) ?_) (e_v 3)) (fun hk => ?_) fun hk => ?_)
      · simp only [List.length_singleton]
        omega
      · have := hm y (List.mem_of_getElem? hy)
        omega
      · show (st.2 ++ [takeV st.1 3]).length ≤ _
        omega
      · intro v hv
        obtain ⟨y, hy, e⟩ := List.mem_map.mp hv
        have h3 := hm y hy
        have := hb v (by rw [← e]; exact List.mem_of_getElem? (get_getD (d := (0, [])) (by omega)))
        omega
      · have hk2 : placesIn ((st.2 ++ [takeV st.1 3]).map fun y => s1.1.getD y (0, [])) ≤ bounds.getD (takeV s1.2 4) 0 := of_decide_eq_true hk
        refine ss_one (s_app (xs := st.2) 4 (e_v 6) (by omega) ⟨p4, .fro ⟨x⟩, .fro ⟨takeV st.1 3⟩, ?_⟩)
        have e : pickStep s1.1 (bounds.getD (takeV s1.2 4) 0) st x = (takeS st.1 3, st.2 ++ [takeV st.1 3]) := by
          unfold pickStep
          rw [if_pos hk2]
        rw [e]
        rfl
      · have hk2 : ¬ placesIn ((st.2 ++ [takeV st.1 3]).map fun y => s1.1.getD y (0, [])) ≤ bounds.getD (takeV s1.2 4) 0 := of_decide_eq_false hk
        refine ss_nil ⟨p4, .fro ⟨x⟩, .fro ⟨takeV st.1 3⟩, ?_⟩
        have e : pickStep s1.1 (bounds.getD (takeV s1.2 4) 0) st x = (takeS st.1 3, st.2) := by
          unfold pickStep
          rw [if_neg hk2]
        rw [e]
        rfl
    · obtain ⟨p4, s5, s6, rfl⟩ := hp
      have e : (List.range (takeV (takeS s1.2 4) (m + 1))).take (List.range (takeV (takeS s1.2 4) (m + 1))).length = List.range (takeV (takeS s1.2 4) (m + 1)) := List.take_length
      rw [e, ← e2]
      exact ss_one (s_ret (e_tup2 (e_v 2) (e_fz 4)) ⟨rfl, rfl⟩)
theorem kn_dressed : Kn W 3 "_law_dressed" ["_law_pool_here", "_law_bases_here", "_law_some"] (spP (fun p : List Web × List Nat => [⟨p.1⟩, ⟨p.2⟩]) (fun p _ => BasOk p.1 ∧ p.2.length ≤ 100 ∧ ∀ x ∈ p.2, x < 3) (fun p w => ⟨(dressed w p.1 p.2).1⟩) fun p w => (dressed w p.1 p.2).2) :=
  kn_ofP (n := 3) T.f_law_dressed sc_law_dressed rfl (fun _ => rfl) (fun _ _ _ _ _ _ us hl => match us, hl with | [_, _, _], _ => rfl) fun f cdv A outer s H E hr i w qs ok => by
    have nd := sc_law_dressed.nd
    obtain ⟨bases, some_⟩ := i
    obtain ⟨bo, h1, h2⟩ := ok
    simp only at bo h1 h2
    refine ss_cons (s_new nd 3 (n_lst (α := Drs) l_nil (by decide)) fun p3 => ?_)
    refine ss_cons (s_for (i_list (e_v 2)) (g_name nd 4)
      (fun i Γ => ∃ p3 s4 s5, Γ = [.own qs (pl (mapA (drStep bases) (some_.take i) w).2), .fro ⟨bases⟩, .fro ⟨some_⟩, .own p3 ⟨(⟨(mapA (drStep bases) (some_.take i) w).1⟩ : Ol Drs)⟩, s4, s5])
      ⟨p3, .non, .non, rfl⟩ (fun i x Γ hx hp => ?_) fun Γ hp => ?_)
    · obtain ⟨p3, s4, s5, rfl⟩ := hp
      have hx3 := h2 x (List.mem_of_getElem? hx)
      have hi : i < some_.length := (List.getElem?_eq_some_iff.mp hx).1
      have hl : (mapA (drStep bases) (some_.take i) w).1.length ≤ 100 := by
        rw [mapA_len, List.length_take]
        omega
      rw [mapA_take hx]
      generalize mapA (drStep bases) (some_.take i) w = st at hl
      have hbx := get_getD (xs := bases) (i := x) (d := (0, [])) (by rw [bo.len]; exact hx3)
      have hb := bo.ok _ (List.mem_of_getElem? hbx)
      have hol : (shuf st.2 (bases.getD x (0, [])).1).1.length = (bases.getD x (0, [])).1 := by
        show (mapA shufStep _ _).1.length = _
        rw [mapA_len, List.length_range]
      refine ss_cons (s_set nd 5 (e_callP 0 (bases.getD x (0, [])).1 (kn_shuffled T) hr (a_1 (e_at0 (e_ix (e_v 1) (e_v 4) hbx))) (by show (bases.getD x (0, [])).1 ≤ 1000; omega)) ?_)
      refine ss_one (s_app 3 (e_tup3 (e_v 4) (e_v 5) (e_call2 (kn_renumbered T) hr (e_ix (e_v 1) (e_v 4) hbx) (e_v 5) ⟨by have := hb.2.2.1; omega, fun t ht => ?_⟩)) (by omega) ⟨p3, .fro ⟨x⟩, .fro ⟨(shuf st.2 (bases.getD x (0, [])).1).1⟩, rfl⟩)
      have := hb.2.2.2 t ht
      rw [hol]
      omega
    · obtain ⟨p3, s4, s5, rfl⟩ := hp
      have e : some_.take some_.length = some_ := List.take_length
      rw [e]
      exact ss_one (s_ret (e_fz 3) ⟨rfl, rfl⟩)
theorem kn_matched : Kn W 2 "_law_matched" ["_law_pool_here", "_law_ones", "_law_others"] (spP (fun p : List Drs × List Drs => [⟨p.1⟩, ⟨p.2⟩]) (fun p w => MtPre w p.1 p.2) (fun p w => ⟨(matched w p.1 p.2).1⟩) fun p w => (matched w p.1 p.2).2.1) :=
  kn_ofP (n := 4) T.f_law_matched sc_law_matched rfl (fun _ => rfl) (fun _ _ _ _ _ _ us hl => match us, hl with | [_, _, _], _ => rfl) fun f cdv A outer s H E hr i w qs ok => by
    have nd := sc_law_matched.nd
    obtain ⟨ones, others⟩ := i
    have ok : MtPre w ones others := ok
    have o1 := ok.l1
    have o2 := ok.l2
    have wh : ∀ j, j < others.length → ∃ o, others[j]? = some o ∧ o.a = whichAt others j := fun j hj => by
      refine ⟨others[j], List.getElem?_eq_getElem hj, ?_⟩
      unfold whichAt
      rw [List.getElem?_eq_getElem hj]
      rfl
    refine ss_cons (s_new nd 3 (n_mapL nd [("_law_which", 4)] (fun x => (List.range others.length).filter fun j => decide (whichAt others j = x)) (i_range T.range_ (e_n 3) (by decide)) (gb_name nd 4) (fun j x hx _ _ _ _ _ => ?_) (by rw [List.length_range]; decide)) fun p3 => ?_)
    · refine n_listOf T.list_ (EJ.as (NJ.fz (n_fil nd [("_law_j", 5)] (fun j => decide (whichAt others j = x)) id (i_range T.range_ (e_len T.len_ (e_v 2)) (by omega)) (gb_name nd 5) (fun j y hy _ _ _ _ _ => ?_) (fun _ _ _ _ _ _ _ _ _ => e_v 5) (by rw [List.length_range]; omega))) (dyq (List.map_id _)))
      obtain ⟨rfl, hj⟩ := rng_at hy
      obtain ⟨o, ho, e⟩ := wh y hj
      rw [← e]
      exact t_eqN (e_at30 (e_ix (e_v 2) (e_v 5) ho)) (e_v 4)
    · rw [show (List.range 3).map (fun x => (List.range others.length).filter fun j => decide (whichAt others j = x)) = left0 others from rfl]
      refine ss_one (s_ret (NJ.fz (n_lc (Γ' := [.own qs (pl (matched w ones others).2.1), .fro ⟨ones⟩, .fro ⟨others⟩, .own p3 ⟨(⟨(matched w ones others).2.2⟩ : Oll Nat)⟩, .non, .non, .non]) (y := (matched w ones others).1) nd [("_law_one", 6)] (blkOk_by (by rfl)) (i_list (e_v 1)) (gb_name nd 6) (show ones.length ≤ 100000 by omega)
        (fun i Γ ys => Γ = [.own qs (pl (mapA mtStep (ones.take i) (w, left0 others)).2.1), .fro ⟨ones⟩, .fro ⟨others⟩, .own p3 ⟨(⟨(mapA mtStep (ones.take i) (w, left0 others)).2.2⟩ : Oll Nat)⟩, .non, .non, .non] ∧ ys = (mapA mtStep (ones.take i) (w, left0 others)).1)
        ⟨rfl, rfl⟩ (fun i o Γ ys hx hp => ?_) (fun Γ ys hp => ?_))) ⟨rfl, rfl⟩)
      · obtain ⟨rfl, rfl⟩ := hp
        have hne := ok.ne i o hx
        have hlt := ok.lt o (List.mem_of_getElem? hx)
        have hlen := mt_len others (ones.take i) (w, left0 others)
        have hle := mt_le (n := others.length) (ones.take i) (w, left0 others) (left0_le others)
        have e := mapA_take (f := mtStep) (s := (w, left0 others)) hx
        generalize mapA mtStep (ones.take i) (w, left0 others) = st at hne hlen hle e ⊢
        have l3 : st.2.2.length = 3 := by
          rw [hlen]
          simp [left0]
        have hz := get_getD (xs := st.2.2) (i := o.a) (d := []) (by omega)
        have hz2 := hle _ (List.mem_of_getElem? hz)
        have ht := takeV_lt st.2.1 hne
        refine ⟨_, true, fun _ _ _ _ _ => .nil, fun _ => ⟨_, _, fun s H C cl fp => e_popL 3 (e_at30 (e_v 6)) (e_callP 0 (st.2.2.getD o.a []).length (kn_take T) hr (a_1 (e_lenL 3 T.len_ (e_at30 (e_v 6)) hz)) ⟨hne, by omega⟩) hz (get_getD (d := 0) ht) (by omega), ?_, ?_⟩, fun z => nomatch z⟩
        · rw [e]
          rfl
        · rw [e]
          rfl
      · obtain ⟨rfl, rfl⟩ := hp
        have e : ones.take ones.length = ones := List.take_length
        have e : ones.take ((ones, others).1).length = ones := e
        rw [e]
        exact ⟨rfl, rfl⟩
theorem kn_led : Kn W 1 "_law_led" ["_law_ones", "_law_others", "_law_match", "_law_row"] (spF4 (fun (ones others : List Drs) (mt row : List Nat) => LedPre ones others mt row) led) :=
  kn_of (n := 3) T.f_law_led sc_law_led rfl (fun _ => rfl) (fun _ _ _ _ _ _ us hl => match us, hl with | [_, _, _, _], _ => rfl) fun _ cdv A outer s H E hr i ok => by
    have nd := sc_law_led.nd
    obtain ⟨ones, others, mt, row⟩ := i
    have ok : LedPre ones others mt row := ok
    have hf := ok.few
    refine ss_cons (s_new nd 4 (n_rep (NJ.fz (n_lst (l_cons (e_n 0) l_nil) (by decide))) (e_len T.len_ (e_v 3)) (show row.length ≤ 1000000 by omega)) fun p4 => ?_)
    refine ss_cons (s_for (i_enum T.enumerate_ (e_v 3)) (g_pair nd 5 6) (fun i Γ => ∃ p4 s5 s6, Γ = [.fro ⟨ones⟩, .fro ⟨others⟩, .fro ⟨mt⟩, .fro ⟨row⟩, .own p4 ⟨(⟨((en row).take i).foldl (ledStep ones others mt) (List.replicate row.length 0)⟩ : Ol Nat)⟩, s5, s6])
      ⟨p4, .non, .non, rfl⟩ (fun i p Γ hx hp => ?_) fun Γ hp => ?_)
    · obtain ⟨p4, s5, s6, rfl⟩ := hp
      obtain ⟨k, x⟩ := p
      obtain ⟨rfl, hrow⟩ := en_get hx
      simp only at hrow
      obtain ⟨j, o, q, h1, h2, h3, h4, h5, h6⟩ := ok.mt k x hrow
      have ll := led_len ones others mt ((en row).take k) (List.replicate row.length 0)
      rw [List.length_replicate] at ll
      have ejm : mt.getD k 0 = j := by
        rw [List.getD_eq_getElem?_getD, h1]
        rfl
      have e : ((en row).take (k + 1)).foldl (ledStep ones others mt) (List.replicate row.length 0) = (((en row).take k).foldl (ledStep ones others mt) (List.replicate row.length 0)).set j (o.b.getD (q.b.idxOf x) 0) := by
        rw [fold_take hx]
        show List.set _ (mt.getD k 0) _ = _
        rw [ejm]
        show List.set _ _ ((((others[j]?).map (·.b)).getD []).getD ((((ones[k]?).map (·.b)).getD []).idxOf x) 0) = _
        rw [h3, h4]
        rfl
      rw [e]
      generalize ((en row).take k).foldl (ledStep ones others mt) (List.replicate row.length 0) = im at ll
      have hidx : q.b[q.b.idxOf x]? = some x := by
        have hl := List.idxOf_lt_length_of_mem h5
        rw [List.getElem?_eq_getElem hl]
        congr 1
        exact List.getElem_idxOf hl
      refine ss_one (s_setO (xs := im) 4 (e_ix (e_at31 (e_ix (e_v 1) (e_ix (e_v 2) (e_v 5) h1) h3)) (e_index (e_at31 (e_ix (e_v 0) (e_v 5) h4)) (e_v 6) hidx ?_) (get_getD (d := 0) h6)) (e_ix (e_v 2) (e_v 5) h1) (by omega) ⟨p4, .fro ⟨k⟩, .fro ⟨x⟩, rfl⟩)
      intro m' hm hx'
      obtain ⟨hl, he⟩ := List.getElem?_eq_some_iff.mp hx'
      have := List.not_of_lt_findIdx (p := (· == x)) (xs := q.b) hm
      simp [he] at this
    · obtain ⟨p4, s5, s6, rfl⟩ := hp
      have e : (en row).take (en row).length = en row := List.take_length
      have e : (en row).take (en (ones, others, mt, row).2.2.2).length = en row := e
      rw [e]
      exact ss_one (s_ret (e_fz 4) rfl)
end
end K48

namespace K48
open PySem PySem.Spec PyProof.Rows L2 Ty M
section
variable {W : Wd} (T : Top W)
include T
theorem kn_case : Kn W 4 "_law_case" ["_law_pool_here"] (spP (fun _ : CaseS => []) (fun c w => IsCase w c ∧ CaseOk c) (fun c _ => ⟨([.l (c.web 0), .l (c.web 1), .l (c.web 2), .r c.naming] : List (Cl Web (List Nat)))⟩) fun c _ => c.nums.2) :=
  kn_ofP (n := 19) T.f_law_case sc_law_case rfl (fun _ => rfl) (fun _ _ _ _ _ _ us hl => match us, hl with | [_], _ => rfl) fun f cdv A outer s H E hr c w qs ok => by
    have nd := sc_law_case.nd
    obtain ⟨ic, ok⟩ := ok
    refine ss_cons (s_asg (x := ((basS w 5).bases, (basS w 5).found)) (EJ.as (e_callP 0 5 (kn_bases T) hr (a_1 (e_n 5)) (show 5 ≤ 100 by decide)) rfl) (g_pair nd 1 2) ?_)
    rw [← ic.f1, ← ic.f2, ← ic.f3]
    have hc := ok.cut
    have hf := ok.few
    have h3 := ok.l3
    have h1 := ok.l1
    have h2 := ok.l2
    refine ss_cons (s_set nd 3 (e_callP 0 (c.some.length + 1) (kn_take T) (hr.mono (by decide)) (a_1 (e_addN (e_len T.len_ (e_v 2)) (e_n 1))) ⟨by omega, by omega⟩) ?_)
    rw [← ic.f4, ← ic.f5]
    refine ss_cons (s_set nd 4 (e_callP 0 (c.bases, c.some.take c.cut) (kn_dressed T) hr (a_2 (e_v 1) (NJ.fz (n_take (e_v 2) (e_v 3)))) ⟨ok.bas, ?_, fun x hx => ok.lt3 x (List.mem_of_mem_take hx)⟩) ?_)
    · show (c.some.take c.cut).length ≤ 100
      rw [List.length_take]
      omega
    rw [← ic.f6, ← ic.f7]
    refine ss_cons (s_set nd 5 (e_callP 0 c.cut (kn_shuffled T) (hr.mono (by decide)) (a_1 (e_v 3)) (show c.cut ≤ 1000 by omega)) ?_)
    rw [← ic.f8, ← ic.f9]
    refine ss_cons (s_set nd 6 (e_callP 0 (c.bases, c.order.map fun k => c.some.getD k 0) (kn_dressed T) hr (a_2 (e_v 1) (NJ.fz (n_map nd [("_law_k", 17)] (fun k => c.some.getD k 0) (i_list (e_v 5)) (gb_name nd 17) (fun j k hk _ _ _ _ _ => e_ix (e_v 2) (e_v 17) (get_getD (ok.ord.2 k (List.mem_of_getElem? hk)))) (by have := ok.ord.1; omega)))) ⟨ok.bas, ?_, fun x hx => ?_⟩) ?_)
    · show (c.order.map _).length ≤ 100
      rw [List.length_map]
      have := ok.ord.1
      omega
    · obtain ⟨k, hk, e⟩ := List.mem_map.mp hx
      rw [← e]
      exact ok.lt3 _ (List.mem_of_getElem? (get_getD (ok.ord.2 k hk)))
    rw [← ic.f10, ← ic.f11]
    refine ss_cons (s_set nd 7 (e_callP 0 (c.bases, c.some.drop c.cut) (kn_dressed T) hr (a_2 (e_v 1) (NJ.fz (n_drop (e_v 2) (e_v 3)))) ⟨ok.bas, ?_, fun x hx => ok.lt3 x (List.mem_of_mem_drop hx)⟩) ?_)
    · show (c.some.drop c.cut).length ≤ 100
      rw [List.length_drop]
      omega
    rw [← ic.f12, ← ic.f13]
    refine ss_cons (s_set nd 8 (e_callP 0 (c.ones ++ c.thirds, c.others ++ c.thirds) (kn_matched T) (hr.mono (by decide)) (a_2 (NJ.fz (n_cat (e_v 4) (e_v 7) (by omega))) (NJ.fz (n_cat (e_v 6) (e_v 7) (by omega)))) ok.mt) ?_)
    rw [← ic.f14, ← ic.f15]
    refine ss_cons (s_set nd 9 (NJ.fz (n_lst (l_cons (e_call1 (kn_webs_of T) (hr.mono (by decide)) (e_v 4) (by omega)) (l_cons (e_call1 (kn_webs_of T) (hr.mono (by decide)) (e_v 6) (by omega)) (l_cons (e_call1 (kn_webs_of T) (hr.mono (by decide)) (e_v 7) (by omega)) l_nil))) (by simp))) ?_)
    rw [show c.ones.map (·.c) = c.w1 from rfl, show c.others.map (·.c) = c.w2 from rfl, show c.thirds.map (·.c) = c.w3 from rfl]
    have pw : ∀ (j : Nat) ws, [c.w1, c.w2, c.w3][j]? = some ws → ws.length ≤ 12 ∧ (∀ w ∈ ws, 0 < w.1 ∧ w.1 ≤ 1000) ∧ placesIn ws ≤ 100 ∧ ∀ w ∈ ws, w.2.length ≤ 120 ∧ ∀ t ∈ w.2, t.1 < t.2 ∧ t.2 < w.1 := fun j ws h => by
      have := List.mem_of_getElem? h
      have e : ws = c.w1 ∨ ws = c.w2 ∨ ws = c.w3 := by simpa using this
      rcases e with rfl | rfl | rfl
      · exact ok.w1
      · exact ok.w2
      · exact ok.w3
    refine ss_cons (s_set nd 10 (NJ.fz (n_map nd [("_law_own", 18)] prodOf (i_list (e_v 9)) (gb_name nd 18) (fun j ws hx _ _ _ _ _ => e_call1 (kn_law_product T) (hr.mono (by decide)) (e_v 18) (pw j ws hx)) (show 3 ≤ 100000 by decide))) ?_)
    rw [show [c.w1, c.w2, c.w3].map prodOf = c.made from rfl]
    have p1 : (prodOf c.w1).1 ≤ 100 := by rw [prodOf_fst]; exact ok.w1.2.2.1
    have p2 : (prodOf c.w2).1 ≤ 100 := by rw [prodOf_fst]; exact ok.w2.2.2.1
    have p3 : (prodOf c.w3).1 ≤ 100 := by rw [prodOf_fst]; exact ok.w3.2.2.1
    have hm : ∀ (j : Nat) v, c.made[j]? = some v → v.1 ≤ 1000 := fun j v h => by
      have := List.mem_of_getElem? h
      have e : v = prodOf c.w1 ∨ v = prodOf c.w2 ∨ v = prodOf c.w3 := by simpa [CaseS.made] using this
      rcases e with rfl | rfl | rfl <;> omega
    refine ss_cons (s_set nd 11 (NJ.fz (n_lc (Γ' := [.own qs (pl c.nums.2), .fro ⟨c.bases⟩, .fro ⟨c.some⟩, .fro ⟨c.cut⟩, .fro ⟨c.ones⟩, .fro ⟨c.order⟩, .fro ⟨c.others⟩, .fro ⟨c.thirds⟩, .fro ⟨c.mt⟩, .fro ⟨[c.w1, c.w2, c.w3]⟩, .fro ⟨c.made⟩, .non, .non, .non, .non, .non, .non, .non, .non, .non]) (y := c.nums.1) nd [("_law_web_here", 19)] (blkOk_by (by rfl)) (i_list (e_v 10)) (gb_name nd 19) (show c.made.length ≤ 100000 from (show 3 ≤ 100000 by decide))
      (fun i Γ ys => Γ = [.own qs (pl (mapA numStep (c.made.take i) c.p6).2), .fro ⟨c.bases⟩, .fro ⟨c.some⟩, .fro ⟨c.cut⟩, .fro ⟨c.ones⟩, .fro ⟨c.order⟩, .fro ⟨c.others⟩, .fro ⟨c.thirds⟩, .fro ⟨c.mt⟩, .fro ⟨[c.w1, c.w2, c.w3]⟩, .fro ⟨c.made⟩, .non, .non, .non, .non, .non, .non, .non, .non, .non] ∧ ys = (mapA numStep (c.made.take i) c.p6).1)
      ⟨by rw [List.take_zero]; rfl, by rw [List.take_zero]; rfl⟩ (fun i v Γ ys hx hp => ?_) (fun Γ ys hp => ?_))) ?_)
    · obtain ⟨rfl, rfl⟩ := hp
      have e := mapA_take (f := numStep) (s := c.p6) hx
      generalize mapA numStep (c.made.take i) c.p6 = st at e ⊢
      refine ⟨_, true, fun _ _ _ _ _ => .nil, fun _ => ⟨_, _, fun s H C cl fp => e_callP 0 v.1 (kn_shuffled T) (hr.mono (by decide)) (a_1 (e_at0 (e_v 19))) (hm i v hx), ?_, ?_⟩, fun z => nomatch z⟩
      · rw [e]
        rfl
      · rw [e]
        rfl
    · obtain ⟨rfl, rfl⟩ := hp
      rw [List.take_length]
      exact ⟨rfl, rfl⟩
    obtain ⟨u0, v0⟩ := nums_len c 0 (by decide)
    obtain ⟨u1, v1⟩ := nums_len c 1 (by decide)
    obtain ⟨u2, v2⟩ := nums_len c 2 (by decide)
    have v0 : (c.num 0).length = (prodOf c.w1).1 := v0
    have v1 : (c.num 1).length = (prodOf c.w2).1 := v1
    have v2 : (c.num 2).length = (prodOf c.w3).1 := v2
    have hmul : (prodOf c.w1).1 * (prodOf c.w3).1 ≤ 10000 := Nat.le_trans (Nat.mul_le_mul p1 p3) (by decide)
    refine ss_cons (s_new nd 12 (n_rep (n := (prodOf c.w1).1 * (prodOf c.w3).1) (NJ.fz (n_lst (l_cons (e_n 0) l_nil) (by decide))) (e_mulNr (e_at0 (e_ix (y := prodOf c.w1) (e_v 10) (e_n 0) rfl)) (e_at0 (e_ix (y := prodOf c.w3) (e_v 10) (e_n 2) rfl)) (by omega)) (by omega)) fun p12 => ?_)
    have len13 : c.w1.length + c.w3.length ≤ 1000000 := by
      have a := ok.w1.1
      have b := ok.w3.1
      omega
    refine ss_cons (s_for (i_list (e_call1 (kn_rows T) (hr.mono (by decide)) (NJ.fz (n_cat (xs := c.w1) (ys := c.w3) (e_ix (e_v 9) (e_n 0) rfl) (e_ix (e_v 9) (e_n 2) rfl) len13)) ⟨ok.w13.1, ?_, ok.w13.2⟩)) (g_name nd 13)
      (fun i Γ => ∃ p12 s13 s14 s15 s16, Γ = [.own qs (pl c.nums.2), .fro ⟨c.bases⟩, .fro ⟨c.some⟩, .fro ⟨c.cut⟩, .fro ⟨c.ones⟩, .fro ⟨c.order⟩, .fro ⟨c.others⟩, .fro ⟨c.thirds⟩, .fro ⟨c.mt⟩, .fro ⟨[c.w1, c.w2, c.w3]⟩, .fro ⟨c.made⟩, .fro ⟨c.nums.1⟩,
        .own p12 ⟨(⟨((rowsOf (c.w1 ++ c.w3)).take i).foldl c.nstep (List.replicate ((prodOf c.w1).1 * (prodOf c.w3).1) 0)⟩ : Ol Nat)⟩, s13, s14, s15, s16, .non, .non, .non])
      ⟨p12, .non, .non, .non, .non, rfl⟩ (fun i row Γ hx hp => ?_) fun Γ hp => ?_)
    · intro w hw
      rcases List.mem_append.mp hw with z | z
      · exact ok.w1.2.1 w z
      · exact ok.w3.2.1 w z
    · obtain ⟨p12, s13, s14, s15, s16, rfl⟩ := hp
      have hrow := List.mem_of_getElem? hx
      obtain ⟨n0, n1, n2, n3⟩ := ok.n0 row hrow
      have hsrc := ok.src row hrow
      have hll : (((rowsOf (c.w1 ++ c.w3)).take i).foldl c.nstep (List.replicate ((prodOf c.w1).1 * (prodOf c.w3).1) 0)).length = (prodOf c.w1).1 * (prodOf c.w3).1 := by
        have g : ∀ (rs : List (List Nat)) (l : List Nat), (rs.foldl c.nstep l).length = l.length := by
          intro rs
          induction rs with
          | nil => exact fun _ => rfl
          | cons r rs ih =>
            intro l
            rw [List.foldl_cons, ih]
            exact List.length_set
        rw [g, List.length_replicate]
      rw [fold_take hx]
      generalize ((rowsOf (c.w1 ++ c.w3)).take i).foldl c.nstep (List.replicate ((prodOf c.w1).1 * (prodOf c.w3).1) 0) = fo at hll
      refine ss_cons (s_set nd 14 (e_call4 (kn_led T) (hr.mono (by decide)) (NJ.fz (n_cat (e_v 4) (e_v 7) (by omega))) (NJ.fz (n_cat (e_v 6) (e_v 7) (by omega))) (e_v 8) (e_v 13) (ok.led row hrow)) ?_)
      rw [show led (c.ones ++ c.thirds) (c.others ++ c.thirds) c.mt row = c.img row from rfl]
      refine ss_cons (s_set nd 15 (e_mulNr (e_ix (e_ix (e_v 11) (e_n 0) u0) (e_call2 (kn_number T) (hr.mono (by decide)) (e_ix (y := c.w1) (e_v 9) (e_n 0) rfl) (NJ.fz (n_take (e_v 13) (e_v 3))) fun w hw => (ok.w1.2.1 w hw).2) (get_getD (d := 0) (by omega))) (e_at0 (e_ix (y := prodOf c.w3) (e_v 10) (e_n 2) rfl)) (by omega)) ?_)
      refine ss_cons (s_set nd 16 (e_mulNr (e_ix (e_ix (e_v 11) (e_n 1) u1) (e_call2 (kn_number T) (hr.mono (by decide)) (e_ix (y := c.w2) (e_v 9) (e_n 1) rfl) (NJ.fz (n_take (e_v 14) (e_v 3))) fun w hw => (ok.w2.2.1 w hw).2) (get_getD (d := 0) (by omega))) (e_at0 (e_ix (y := prodOf c.w3) (e_v 10) (e_n 2) rfl)) (by omega)) ?_)
      refine ss_cons (s_set nd 15 (e_addN (e_v 15) (e_ix (e_ix (e_v 11) (e_n 2) u2) (e_call2 (kn_number T) (hr.mono (by decide)) (e_ix (y := c.w3) (e_v 9) (e_n 2) rfl) (NJ.fz (n_drop (e_v 13) (e_v 3))) fun w hw => (ok.w3.2.1 w hw).2) (get_getD (d := 0) (by omega)))) ?_)
      refine ss_one (s_setO (xs := fo) (n := c.src row) (y := c.dst row) 12 (e_addN (e_v 16) (e_ix (e_ix (e_v 11) (e_n 2) u2) (e_call2 (kn_number T) (hr.mono (by decide)) (e_ix (y := c.w3) (e_v 9) (e_n 2) rfl) (NJ.fz (n_drop (e_v 14) (e_v 3))) fun w hw => (ok.w3.2.1 w hw).2) (get_getD (d := 0) (by omega)))) (e_v 15) (by omega) ⟨p12, .fro ⟨row⟩, .fro ⟨c.img row⟩, .fro ⟨c.src row⟩, _, rfl⟩)
    · obtain ⟨p12, s13, s14, s15, s16, rfl⟩ := hp
      rw [List.take_length, show (rowsOf (c.w1 ++ c.w3)).foldl c.nstep (List.replicate ((prodOf c.w1).1 * (prodOf c.w3).1) 0) = c.naming from rfl]
      refine ss_one (s_ret (NJ.fz (n_cat (NJ.fz (n_map nd [("_law_k", 17)] (fun k => (Cl.l (c.web k) : Cl Web (List Nat))) (i_range T.range_ (e_n 3) (by decide)) (gb_name nd 17) (fun j k hk _ _ _ _ _ => EJ.cl (EJ.as (e_call2 (kn_renumbered T) (hr.mono (by decide)) (e_ix (y := c.made.getD k (0, [])) (e_v 10) (e_v 17) (get_getD (d := (0, [])) ?_)) (e_ix (y := c.num k) (e_v 11) (e_v 17) (nums_len c k ?_).1) ⟨(ok.ren k ?_).1, fun t ht => ?_⟩) rfl)) (by rw [List.length_range]; decide))) (NJ.fz (n_lst (l_cons (EJ.cr (EJ.fzl 12 (e_v 12))) l_nil) (by simp))) (by simp))) ⟨rfl, rfl⟩)
      · show k < 3
        have := rng_at hk
        omega
      · have := rng_at hk
        omega
      · have := rng_at hk
        omega
      · have h3k : k < 3 := by
          have := rng_at hk
          omega
        rw [(nums_len c k h3k).2]
        exact (ok.ren k h3k).2 t ht
end
end K48

namespace K48
open PySem PySem.Spec PyProof.Rows L2 Ty M
section
variable {W : Wd} (T : Top W)
include T
theorem kn_beside : Kn W 1 "_law_beside" ["_law_found", "_law_many_here"] (spF2 (fun (f : List Nat) (m : Nat) => f.length ≤ 100 ∧ m ≤ 100) bothOf) :=
  kn_of (n := 3) T.f_law_beside sc_law_beside rfl (fun _ => rfl) (fun _ _ _ _ _ _ us hl => match us, hl with | [_, _], _ => rfl) fun _ cdv A outer s H E hr i ok => by
    have nd := sc_law_beside.nd
    obtain ⟨f, m⟩ := i
    obtain ⟨h1, h2⟩ := ok
    simp only at h1 h2
    refine ss_cons (s_new nd 2 (n_lst (α := Nat) l_nil (by decide)) fun p2 => ?_)
    refine ss_cons (s_for (i_list (e_v 0)) (g_name nd 3) (fun j Γ => ∃ p2 s3 fo, Γ = [.fro ⟨f⟩, .fro ⟨m⟩, .own p2 ⟨(⟨fo⟩ : Ol Nat)⟩, s3, .non] ∧ fo = bothOf (f.take j) m ∧ fo.length ≤ 100 * j)
      ⟨p2, .non, [], rfl, rfl, by simp⟩ (fun j p Γ hx hp => ?_) fun Γ hp => ?_)
    · obtain ⟨p2, s3, fo, rfl, hf, hl⟩ := hp
      have hj : j < f.length := (List.getElem?_eq_some_iff.mp hx).1
      refine ss_one (s_ext (xs := fo) 2 (NJ.fz (n_map nd [("_law_at", 4)] (fun a => p * m + a) (i_range T.range_ (e_v 1) (by omega)) (gb_name nd 4) (fun _ _ _ _ _ _ _ _ => e_addN (e_mulNr (e_v 3) (e_v 1) (by omega)) (e_v 4)) (by rw [List.length_range]; omega))) ?_ ⟨p2, .fro ⟨p⟩, _, rfl, ?_, ?_⟩)
      · rw [List.length_map, List.length_range]
        omega
      · rw [hf]
        unfold bothOf
        rw [fm_take_succ hx]
      · rw [List.length_append, List.length_map, List.length_range]
        omega
    · obtain ⟨p2, s3, fo, rfl, hf, hl⟩ := hp
      have e : f.take f.length = f := List.take_length
      rw [e] at hf
      subst hf
      exact ss_one (s_ret (e_fz 2) rfl)
theorem kn_turned : Kn W 1 "_law_turned" ["_law_found", "_law_ones", "_law_others", "_law_many_here"] (spF4 (fun (f : List Nat) (a b m : Nat) => f.length ≤ 10000 ∧ 0 < m ∧ m ≤ 1000 ∧ a ≤ 1000 ∧ b ≤ 1000 ∧ ∀ j, j < f.length → spotOf m a j < f.length) turnAbout) :=
  kn_of (n := 4) T.f_law_turned sc_law_turned rfl (fun _ => rfl) (fun _ _ _ _ _ _ us hl => match us, hl with | [_, _, _, _], _ => rfl) fun _ cdv A outer s H E hr i ok => by
    have nd := sc_law_turned.nd
    obtain ⟨f, a, b, m⟩ := i
    obtain ⟨h1, h2, h3, h4, h5, h6⟩ := ok
    simp only at h1 h2 h3 h4 h5 h6
    refine ss_cons (s_new nd 4 (n_rep (NJ.fz (n_lst (l_cons (e_n 0) l_nil) (by decide))) (e_len T.len_ (e_v 0)) (show f.length ≤ 1000000 by omega)) fun p4 => ?_)
    refine ss_cons (s_for (i_enum T.enumerate_ (e_v 0)) (g_pair nd 5 6) (fun j Γ => ∃ p4 s5 s6 s7, Γ = [.fro ⟨f⟩, .fro ⟨a⟩, .fro ⟨b⟩, .fro ⟨m⟩, .own p4 ⟨(⟨((en f).take j).foldl (fun l p => l.set (spotOf m a p.1) (spotOf m b p.2)) (List.replicate f.length 0)⟩ : Ol Nat)⟩, s5, s6, s7])
      ⟨p4, .non, .non, .non, rfl⟩ (fun j p Γ hx hp => ?_) fun Γ hp => ?_)
    · obtain ⟨p4, s5, s6, s7, rfl⟩ := hp
      have hj : j < f.length := by
        have := (List.getElem?_eq_some_iff.mp hx).1
        rwa [en_len] at this
      have hsp := h6 j hj
      rw [← (en_get hx).1] at hsp
      have ll := turnAbout_len a b m ((en f).take j) (List.replicate f.length 0)
      rw [List.length_replicate] at ll
      rw [fold_take hx]
      generalize ((en f).take j).foldl (fun l p => l.set (spotOf m a p.1) (spotOf m b p.2)) (List.replicate f.length 0) = fo at ll
      refine ss_cons (s_set nd 7 (e_addN (e_mulNr (e_modN (e_v 5) (e_v 3) h2) (e_v 1) (by omega)) (e_divN (e_v 5) (e_v 3) h2 (by omega))) ?_)
      exact ss_one (s_setO (xs := fo) (n := spotOf m a p.1) (y := spotOf m b p.2) 4 (e_addN (e_mulNr (e_modN (e_v 6) (e_v 3) h2) (e_v 2) (by omega)) (e_divN (e_v 6) (e_v 3) h2 (by omega))) (e_v 7) (by omega) ⟨p4, .fro ⟨p.1⟩, .fro ⟨p.2⟩, .fro ⟨spotOf m a p.1⟩, rfl⟩)
    · obtain ⟨p4, s5, s6, s7, rfl⟩ := hp
      have e : (en f).take (en f).length = en f := List.take_length
      have e : (en f).take (en (f, a, b, m).1).length = en f := e
      rw [e]
      exact ss_one (s_ret (e_fz 4) rfl)
theorem kn_right : Kn W 9 "_law_right" ["_law_one", "_law_other", "_law_third", "_law_naming"] (spF4 (fun (one other third : Web) (n : List Nat) => RightPre one other third n) fun _ _ _ _ => true) :=
  kn_of (n := 11) T.f_law_right sc_law_right rfl (fun _ => rfl) (fun _ _ _ _ _ _ us hl => match us, hl with | [_, _, _, _], _ => rfl) fun _ cdv A outer s H E hr i ok => by
    have nd := sc_law_right.nd
    obtain ⟨one, other, third, n⟩ := i
    have ok : RightPre one other third n := ok
    have v1 := ok.c1.ok1.ok
    have v2 := ok.c1.ok2.ok
    have v3 := ok.c1.ok3.ok
    have h1 := v1.le
    have h2 := v2.le
    have h3 := v3.le
    have h3p := v3.pos
    refine ss_cons (s_set nd 4 (e_call4 (kn_cancelled T) hr (e_v 0) (e_v 1) (e_v 2) (e_v 3) ok.c1) ?_)
    refine ss_cons (s_set nd 5 (e_call2 (kn_beside T) (hr.mono (by decide)) (e_v 4) (e_at0 (e_v 2)) ⟨ok.l1, show third.1 ≤ 100 by omega⟩) ?_)
    refine ss_cons (s_set nd 6 (NJ.fz (n_lst (l_cons (e_call1 (kn_product T) (hr.mono (by decide)) (NJ.fz (n_lst (l_cons (e_v 0) (l_cons (e_v 2) l_nil)) (by simp))) ok.c1.f1) (l_cons (e_call1 (kn_product T) (hr.mono (by decide)) (NJ.fz (n_lst (l_cons (e_v 1) (l_cons (e_v 2) l_nil)) (by simp))) ok.c1.f2) l_nil)) (by simp))) ?_)
    refine ss_cons (s_ifNo (t_not (TJ.val (k := true) (e_call3 (kn_lets_naming T) (hr.mono (by decide)) (e_ix (y := madeOf [one, third]) (e_v 6) (e_n 0) rfl) (e_ix (y := madeOf [other, third]) (e_v 6) (e_n 1) rfl) (e_v 5) ⟨ok.c1.v1, ok.c1.v2, ok.n1⟩))) ?_)
    refine ss_cons (s_set nd 7 (e_call4 (kn_cancelled T) hr (e_v 0) (e_v 1) (e_v 2) (e_v 5) ok.c2) ?_)
    refine ss_cons (s_set nd 8 (e_call2 (kn_behind T) (hr.mono (by decide)) (e_v 4) (e_call1 (kn_turned_back T) (hr.mono (by decide)) (e_v 7) ⟨by have := ok.t2.1; omega, ok.t2.2⟩) ⟨by have := ok.l1; omega, ok.b2⟩) ?_)
    refine ss_cons (s_ifNo (TJ.as (t_or2 (t_not (TJ.val (k := true) (e_call3 (kn_lets_naming T) (hr.mono (by decide)) (e_v 0) (e_v 1) (e_v 7) ⟨v1, v2, ok.n2⟩))) fun _ => t_not (TJ.val (k := true) (e_call3 (kn_lets_naming T) (hr.mono (by decide)) (e_v 0) (e_v 0) (e_v 8) ⟨v1, v1, ok.n3⟩))) rfl) ?_)
    refine ss_cons (s_set nd 9 (e_call4 (kn_turned T) (hr.mono (by decide)) (e_v 3) (e_at0 (e_v 0)) (e_at0 (e_v 1)) (e_at0 (e_v 2)) ⟨ok.t3.1, show 0 < third.1 by omega, show third.1 ≤ 1000 by omega, show one.1 ≤ 1000 by omega, show other.1 ≤ 1000 by omega, ok.t3.2⟩) ?_)
    refine ss_cons (s_set nd 10 (NJ.fz (n_lst (l_cons (e_call1 (kn_product T) (hr.mono (by decide)) (NJ.fz (n_lst (l_cons (e_v 2) (l_cons (e_v 0) l_nil)) (by simp))) ok.f3) (l_cons (e_call1 (kn_product T) (hr.mono (by decide)) (NJ.fz (n_lst (l_cons (e_v 2) (l_cons (e_v 1) l_nil)) (by simp))) ok.f4) l_nil)) (by simp))) ?_)
    refine ss_cons (s_ifNo (t_not (TJ.val (k := true) (e_call3 (kn_lets_naming T) (hr.mono (by decide)) (e_ix (y := madeOf [third, one]) (e_v 10) (e_n 0) rfl) (e_ix (y := madeOf [third, other]) (e_v 10) (e_n 1) rfl) (e_v 9) ⟨ok.v3, ok.v4, ok.n4⟩))) ?_)
    refine ss_cons (s_set nd 11 (e_tup2 (e_n 1) (NJ.fz (n_lst (α := Tie) l_nil (by decide)))) ?_)
    refine ss_cons (s_set nd 12 (e_call4 (kn_cancelled T) hr (e_v 11) (e_v 11) (e_v 2) (NJ.fz (n_listRg T.list_ T.range_ (e_at0 (e_v 2)) (show third.1 ≤ 1000000 by omega))) ok.c3) ?_)
    refine ss_cons (s_set nd 13 (e_call4 (kn_cancelled T) hr (e_v 0) (e_v 1) (e_v 11) (e_v 4) ok.c4) ?_)
    refine ss_cons (s_ifNo (TJ.as (t_or2 (t_neL hr (e_v 12) (NJ.fz (n_lst (l_cons (e_n 0) l_nil) (by simp)))) fun _ => t_not (TJ.val (k := true) (e_call3 (kn_lets_naming T) (hr.mono (by decide)) (e_v 0) (e_v 1) (e_v 13) ⟨v1, v2, ok.n5⟩))) ?_) ?_)
    · rw [decide_eq_true ok.e3]
      rfl
    refine ss_cons (s_set nd 14 (e_call4 (kn_cancelled T) hr (e_ix (y := madeOf [one, third]) (e_v 6) (e_n 0) rfl) (e_ix (y := madeOf [other, third]) (e_v 6) (e_n 1) rfl) (e_v 11) (e_v 3) ok.c5) ?_)
    exact ss_one (s_ret (e_call3 (kn_lets_naming T) (hr.mono (by decide)) (e_ix (y := madeOf [one, third]) (e_v 6) (e_n 0) rfl) (e_ix (y := madeOf [other, third]) (e_v 6) (e_n 1) rfl) (e_v 14) ⟨ok.c1.v1, ok.c1.v2, ok.n6⟩) rfl)
end
end K48

namespace K48
open PySem PySem.Spec PyProof.Rows L2 Ty M
def poolAt (l : List Int) (k : Nat) : Pool := (((if 10 ^ 18 ≤ (l.getD k 0) then l.getD k 0 else 0).toNat),
    ((((max (l.getD k 0) (-1 - l.getD k 0) + 7919 * k * k + 104729 * k + 17) % 2147483629).toNat * 48271) % 2147483647))
def LawPre (l : List Int) : Prop := ∀ k, k < 3 → ∃ c, IsCase (poolAt l k) c ∧ CaseOk c ∧ RightPre (c.web 0) (c.web 1) (c.web 2) c.naming
section
variable {W : Wd} (T : Top W)
include T
theorem kn_pool' : Kn W 1 "_law_pool" ["_law_script", "_law_k"] (spN (fun p : Scr W.K × Nat => [⟨p.1⟩, ⟨p.2⟩]) (fun p => p.2 < 3) fun p => pl (poolAt p.1.l p.2)) := kn_pool T
theorem kn_law : Kn W 10 "law" ["_law_script"] (spF1 (fun s : Scr W.K => LawPre s.l) fun _ => true) :=
  kn_of (n := 5) T.f_law sc_law rfl (fun _ => rfl) (fun _ _ _ _ _ _ us hl => match us, hl with | [_], _ => rfl) fun _ cdv A outer s H E hr sc ok => by
    have nd := sc_law.nd
    refine ss_cons (s_for (i_range T.range_ (e_maxN T.max_ (e_n 1) (e_minN T.min_ (e_lenS (y := sc) T.len_ (e_v 0)) (e_n 3))) (by omega)) (g_name nd 1) (fun j Γ => ∃ s1 s2 s3 s4 s5, Γ = [.fro ⟨sc⟩, s1, s2, s3, s4, s5]) ⟨.non, .non, .non, .non, .non, rfl⟩ (fun j k Γ hx hp => ?_) fun Γ hp => ?_)
    · obtain ⟨s1, s2, s3, s4, s5, rfl⟩ := hp
      obtain ⟨rfl, hk⟩ := rng_at hx
      obtain ⟨c, ic, co, rp⟩ := ok k (by omega)
      refine ss_cons (s_four nd 2 3 4 5 (EJ.as (e_callPN (w := poolAt sc.l k) c (kn_case T) (hr.mono (by decide)) (n_callG (y := fun p : Scr W.K × Nat => pl (poolAt p.1.l p.2)) (ds := fun p : Scr W.K × Nat => [⟨p.1⟩, ⟨p.2⟩]) (pre := fun p => p.2 < 3) (sc, k) (kn_pool' T) (hr.mono (by decide)) (a_2 (e_v 0) (e_v 1)) (show k < 3 by omega)) rfl ⟨ic, co⟩) rfl) ?_)
      exact ss_one (s_ifNo (t_not (TJ.val (k := true) (e_call4 (kn_right T) hr (e_v 2) (e_v 3) (e_v 4) (e_v 5) rp))) ⟨_, _, _, _, _, rfl⟩)
    · obtain ⟨s1, s2, s3, s4, s5, rfl⟩ := hp
      exact ss_one (s_ret e_b rfl)
end
end K48

/-! A web as a graph with a distance; its heads are closed and minimal labels. -/
namespace M
open Ty (en T3 addL look srt)
open A (Dist Clo Via)
def adjW (w : Web) (u v : Nat) : Prop := (u, v) ∈ w.2 ∨ (v, u) ∈ w.2
noncomputable def dW (w : Web) (u v : Nat) : Nat := (far (nbW w) u v).getD 0
/-- ties as they must be, few or many -/
structure Plain (w : Web) : Prop where
  tie : ∀ t ∈ w.2, t.1 < t.2 ∧ t.2 < w.1
  nd : w.2.Nodup
theorem Valid.plain {w : Web} (h : Valid w) : Plain w := ⟨h.tie, h.nodup⟩
section
variable {w : Web}
theorem adjW.symm {u v : Nat} (h : adjW w u v) : adjW w v u := Or.symm h
theorem adjW.lt (V : Plain w) {u v : Nat} (h : adjW w u v) : u < w.1 := by
  rcases h with h | h
  · have := V.tie _ h
    simp only at this
    omega
  · exact (V.tie _ h).2
theorem adjW.ne (V : Plain w) {u v : Nat} (h : adjW w u v) : u ≠ v := by
  rcases h with h | h
  · have := V.tie _ h
    simp only at this
    omega
  · have := V.tie _ h
    simp only at this
    omega
theorem tieOf_comm (u v : Nat) : tieOf u v = tieOf v u := by
  unfold tieOf
  rw [Nat.min_comm, Nat.max_comm]
theorem tieOf_lt {u v : Nat} (h : u < v) : tieOf u v = (u, v) := by
  unfold tieOf
  rw [Nat.min_eq_left (by omega), Nat.max_eq_right (by omega)]
theorem tieOf_gt {u v : Nat} (h : v < u) : tieOf u v = (v, u) := by
  rw [tieOf_comm, tieOf_lt h]
theorem adjW_tie (V : Plain w) {u v : Nat} : adjW w u v ↔ tieOf u v ∈ w.2 ∧ u ≠ v := by
  constructor
  · intro h
    refine ⟨?_, h.ne V⟩
    rcases h with h | h
    · have := V.tie _ h
      rw [tieOf_lt this.1]
      exact h
    · have := V.tie _ h
      rw [tieOf_gt this.1]
      exact h
  · intro ⟨h, hne⟩
    rcases Nat.lt_or_gt_of_ne hne with c | c
    · rw [tieOf_lt c] at h
      exact .inl h
    · rw [tieOf_gt c] at h
      exact .inr h
theorem mem_nbW {u v : Nat} (hu : u < w.1) : v ∈ nbW w u ↔ adjW w u v := by
  rw [show nbW w u = nbs w u from nbOf_beside hu, mem_nbs]
  exact Iff.rfl
theorem mem_nbW' (V : Plain w) {u v : Nat} : v ∈ nbW w u ↔ adjW w u v := by
  by_cases hu : u < w.1
  · exact mem_nbW hu
  · constructor
    · intro h
      exfalso
      unfold nbW nbOf besideAll at h
      rw [List.getD_eq_getElem?_getD, List.getElem?_eq_none (by simp; omega)] at h
      cases h
    · intro h
      exact absurd (h.lt V) hu
theorem way_lt (V : Plain w) {k u v : Nat} (h : Way (nbW w) u k v) (hu : u < w.1) : v < w.1 := by
  cases h with
  | nil => exact hu
  | step _ h => exact ((mem_nbW' V).mp h).symm.lt V
theorem way_one (V : Plain w) {u v : Nat} (h : adjW w u v) : Way (nbW w) u 1 v := .step .nil ((mem_nbW' V).mpr h)
theorem way_back (V : Plain w) {k u v : Nat} (h : Way (nbW w) u k v) : Way (nbW w) v k u := by
  induction h with
  | nil => exact .nil
  | @step k a b _ h ih =>
    have := (way_one V ((mem_nbW' V).mp h).symm).trans ih
    rw [Nat.add_comm] at this
    exact this
theorem Rch.back (V : Plain w) {u v : Nat} (h : Rch (nbW w) u v) : Rch (nbW w) v u := by
  obtain ⟨k, h⟩ := h
  exact ⟨k, way_back V h⟩
theorem conn_all (V : Plain w) (C : Conn w) {u v : Nat} (hu : u < w.1) (hv : v < w.1) : Rch (nbW w) u v := ((C u hu).back V).trans (C v hv)
theorem dW_spec (V : Plain w) (C : Conn w) {u v : Nat} (hu : u < w.1) (hv : v < w.1) : far (nbW w) u v = some (dW w u v) := by
  have h := far_isSome.mpr (conn_all V C hu hv)
  unfold dW
  cases e : far (nbW w) u v with
  | none => rw [e] at h; cases h
  | some d => rfl
theorem dW_le (V : Plain w) (C : Conn w) {u v k : Nat} (hu : u < w.1) (hv : v < w.1) (h : Way (nbW w) u k v) : dW w u v ≤ k := (far_some.mp (dW_spec V C hu hv)).2 k h
theorem dW_way (V : Plain w) (C : Conn w) {u v : Nat} (hu : u < w.1) (hv : v < w.1) : Way (nbW w) u (dW w u v) v := (far_some.mp (dW_spec V C hu hv)).1
theorem distW (V : Plain w) (C : Conn w) : Dist w.1 (adjW w) (dW w) := by
  have sym : ∀ {u v}, u < w.1 → v < w.1 → dW w u v ≤ dW w v u := fun hu hv => dW_le V C hu hv (way_back V (dW_way V C hv hu))
  refine ⟨fun h => h.lt V, fun h => h.symm, fun h => h.ne V rfl, fun hu => ?_, fun hu hv => Nat.le_antisymm (sym hu hv) (sym hv hu), fun {u v x} h hx => ?_, fun {u v} hu hv hne => ?_⟩
  · have := dW_le V C hu hu .nil
    omega
  · have := dW_le V C (h.lt V) hx ((way_one V h).trans (dW_way V C (h.symm.lt V) hx))
    omega
  · have hw := dW_way V C hv hu
    generalize e : dW w v u = k at hw
    have e2 : dW w u v = k := by
      have h1 := sym hu hv
      have h2 := sym hv hu
      omega
    cases hw with
    | nil => exact absurd rfl hne
    | @step j x _ hw hx =>
      have ha := ((mem_nbW' V).mp hx)
      have hxn := ha.lt V
      refine ⟨x, ha.symm, ?_⟩
      have h1 := dW_le V C hxn hv (way_back V hw)
      have h2 := dW_le V C hu hv ((way_one V ha.symm).trans (dW_way V C hxn hv))
      omega
theorem hasD (V : Plain w) (C : Conn w) {p q : Nat} (hp : p < w.1) (hq : q < w.1) : HasD (farTable w) p q := by
  refine ⟨farBy (besideAll w) p, dW w p q, ?_, ?_⟩
  · unfold farTable
    rw [get_map_range _ hp]
  · unfold farBy
    rw [get_map_range _ (by simpa [besideAll] using hq)]
    exact congrArg some (dW_spec V C hp hq)
theorem tb_dW (V : Plain w) (C : Conn w) {p q : Nat} (hp : p < w.1) (hq : q < w.1) : tb (farTable w) p q = dW w p q := by
  refine tb_of (row := farBy (besideAll w) p) ?_ ?_
  · unfold farTable
    rw [get_map_range _ hp]
  · unfold farBy
    rw [get_map_range _ (by simpa [besideAll] using hq)]
    exact congrArg some (dW_spec V C hp hq)
/-! ### links -/
theorem farIn_iff (V : Plain w) (C : Conn w) {t o : Tie} (ht : t ∈ w.2) (ho : o ∈ w.2) : farIn (farTable w) t o = true ↔ dW w t.1 o.1 + dW w t.2 o.2 ≠ dW w t.1 o.2 + dW w t.2 o.1 := by
  have h1 := V.tie t ht
  have h2 := V.tie o ho
  unfold farIn
  rw [tb_dW V C (by omega) (by omega), tb_dW V C (by omega) (by omega), tb_dW V C (by omega) (by omega), tb_dW V C (by omega) (by omega)]
  simp
theorem nbs_nodup (V : Plain w) (p : Nat) : (nbs w p).Nodup := by
  unfold nbs
  rw [(List.mergeSort_perm _ _).nodup_iff]
  unfold rawNb
  rw [List.Nodup, List.pairwise_flatMap]
  constructor
  · intro t ht
    have := V.tie t ht
    by_cases c1 : t.1 = p
    · rw [if_pos c1, if_neg (by omega)]
      simp
    · rw [if_neg c1]
      split <;> simp
  · refine List.Pairwise.imp_of_mem (fun {t o} ht ho hne x hx y hy e => hne ?_) V.nd
    subst e
    have h1 := V.tie t ht
    have h2 := V.tie o ho
    have g : ∀ {t : Tie}, t.1 < t.2 → x ∈ ((if t.1 = p then [t.2] else []) ++ (if t.2 = p then [t.1] else []) : List Nat) → t = tieOf p x := fun {t} h hx => by
      rcases List.mem_append.mp hx with z | z
      · by_cases c : t.1 = p
        · rw [if_pos c] at z
          have e : x = t.2 := by simpa using z
          rw [e, ← c, tieOf_lt h]
        · rw [if_neg c] at z
          cases z
      · by_cases c : t.2 = p
        · rw [if_pos c] at z
          have e : x = t.1 := by simpa using z
          rw [e, ← c, tieOf_gt h]
        · rw [if_neg c] at z
          cases z
    rw [g h1.1 hx, g h2.1 hy]
theorem single {l : List Nat} {x : Nat} (nd : l.Nodup) : l = [x] ↔ ∀ y, y ∈ l ↔ y = x := by
  constructor
  · intro h y
    rw [h, List.mem_singleton]
  · intro h
    cases l with
    | nil => exact absurd ((h x).mpr rfl) (fun z => by cases z)
    | cons a l =>
      have e := (h a).mp (List.mem_cons_self ..)
      subst e
      cases l with
      | nil => rfl
      | cons b l =>
        have e2 := (h b).mp (List.mem_cons_of_mem _ (List.mem_cons_self ..))
        subst e2
        simp at nd
theorem corner_ends {x p q : Nat} (h1 : p ≠ q) (h2 : x ≠ p) (h3 : x ≠ q) : sharedOf (tieOf x p) (tieOf x q) = [x] ∧ endsOf (tieOf x p) (tieOf x q) = [p, q] := by
  have s : sharedOf (tieOf x p) (tieOf x q) = [x] := by
    unfold sharedOf
    rcases Nat.lt_or_gt_of_ne h2 with a | a <;> rcases Nat.lt_or_gt_of_ne h3 with b | b
    · rw [tieOf_lt a, tieOf_lt b]
      simp [List.filter_cons, h1, Ne.symm h2]
    · rw [tieOf_lt a, tieOf_gt b]
      simp [List.filter_cons, h1, Ne.symm h2]
    · rw [tieOf_gt a, tieOf_lt b]
      simp [List.filter_cons, h1, Ne.symm h2]
    · rw [tieOf_gt a, tieOf_gt b]
      simp [List.filter_cons, h1, Ne.symm h2]
  refine ⟨s, ?_⟩
  unfold endsOf
  rw [s]
  rcases Nat.lt_or_gt_of_ne h2 with a | a <;> rcases Nat.lt_or_gt_of_ne h3 with b | b
  · rw [tieOf_lt a, tieOf_lt b]
    simp [List.filter_cons, Ne.symm h2, Ne.symm h3]
  · rw [tieOf_lt a, tieOf_gt b]
    simp [List.filter_cons, Ne.symm h2, Ne.symm h3]
  · rw [tieOf_gt a, tieOf_lt b]
    simp [List.filter_cons, Ne.symm h2, Ne.symm h3]
  · rw [tieOf_gt a, tieOf_gt b]
    simp [List.filter_cons, Ne.symm h2, Ne.symm h3]
theorem corner_shape {t o : Tie} (h1 : t.1 < t.2) (h2 : o.1 < o.2) (h : (sharedOf t o).length = 1) : ∃ x p q, p ≠ q ∧ x ≠ p ∧ x ≠ q ∧ t = tieOf x p ∧ o = tieOf x q := by
  obtain ⟨a, b⟩ := t
  obtain ⟨c, d⟩ := o
  simp only at h1 h2
  have e : sharedOf (a, b) (c, d) = (if a = c ∨ a = d then [a] else []) ++ (if b = c ∨ b = d then [b] else []) := by
    unfold sharedOf
    by_cases h3 : a = c ∨ a = d <;> by_cases h4 : b = c ∨ b = d <;> simp [h3, h4, List.filter_cons]
  rw [e] at h
  by_cases h3 : a = c ∨ a = d
  · by_cases h4 : b = c ∨ b = d
    · rw [if_pos h3, if_pos h4] at h
      simp at h
    · rcases h3 with h3 | h3
      · exact ⟨a, b, d, by omega, by omega, by omega, (tieOf_lt h1).symm, by rw [h3]; exact (tieOf_lt h2).symm⟩
      · exact ⟨a, b, c, by omega, by omega, by omega, (tieOf_lt h1).symm, by rw [h3]; exact (tieOf_gt h2).symm⟩
  · by_cases h4 : b = c ∨ b = d
    · rcases h4 with h4 | h4
      · exact ⟨b, a, d, by omega, by omega, by omega, (tieOf_gt h1).symm, by rw [h4]; exact (tieOf_lt h2).symm⟩
      · exact ⟨b, a, c, by omega, by omega, by omega, (tieOf_gt h1).symm, by rw [h4]; exact (tieOf_gt h2).symm⟩
    · rw [if_neg h3, if_neg h4] at h
      simp at h
theorem corner_iff (V : Plain w) {t o : Tie} (ht : t ∈ w.2) (ho : o ∈ w.2) : cornerIn (besideAll w) t o = true ↔ ∃ x p q, p ≠ q ∧ adjW w x p ∧ adjW w x q ∧ t = tieOf x p ∧ o = tieOf x q ∧ ∀ y, adjW w y p → adjW w y q → y = x := by
  have h1 := V.tie t ht
  have h2 := V.tie o ho
  have key : ∀ {x p q}, p ≠ q → adjW w x p → adjW w x q → t = tieOf x p → o = tieOf x q → (cornerIn (besideAll w) t o = true ↔ ∀ y, adjW w y p → adjW w y q → y = x) := fun {x p q} hne hp hq et eo => by
    obtain ⟨s1, s2⟩ := corner_ends hne (hp.ne V) (hq.ne V)
    unfold cornerIn
    rw [et, eo, s1, s2, if_pos (show [x].length = 1 from rfl)]
    show decide (((nbOf (besideAll w) p).filter fun y => decide (y ∈ nbOf (besideAll w) q)) = [x]) = true ↔ _
    have lp := hp.symm.lt V
    rw [decide_eq_true_eq, nbOf_beside lp, single ((nbs_nodup V p).filter _)]
    have mm : ∀ y, (y ∈ (nbs w p).filter fun y => decide (y ∈ nbOf (besideAll w) q)) ↔ adjW w y p ∧ adjW w y q := fun y => by
      rw [List.mem_filter, decide_eq_true_eq, show (y ∈ nbOf (besideAll w) q) ↔ adjW w q y from mem_nbW' V, mem_nbs]
      exact ⟨fun h => ⟨Or.symm h.1, h.2.symm⟩, fun h => ⟨Or.symm h.1, h.2.symm⟩⟩
    constructor
    · intro h y a b
      exact (h y).mp ((mm y).mpr ⟨a, b⟩)
    · intro h y
      rw [mm y]
      exact ⟨fun z => h y z.1 z.2, fun z => by rw [z]; exact ⟨hp, hq⟩⟩
  constructor
  · intro h
    have hl : (sharedOf t o).length = 1 := Classical.byContradiction fun z => by
      unfold cornerIn at h
      rw [if_neg z] at h
      cases h
    obtain ⟨x, p, q, hne, n1, n2, et, eo⟩ := corner_shape h1.1 h2.1 hl
    have hp : adjW w x p := (adjW_tie V).mpr ⟨by rw [← et]; exact ht, n1⟩
    have hq : adjW w x q := (adjW_tie V).mpr ⟨by rw [← eo]; exact ho, n2⟩
    exact ⟨x, p, q, hne, hp, hq, et, eo, (key hne hp hq et eo).mp h⟩
  · intro ⟨x, p, q, hne, hp, hq, et, eo, h⟩
    exact (key hne hp hq et eo).mpr h
theorem word_iff {tbl : List (List (Option Nat))} {bs : List (List Nat)} {t o : Tie} : wordOf tbl bs t o ≠ none ↔ farIn tbl t o = true ∨ cornerIn bs t o = true := by
  unfold wordOf
  cases farIn tbl t o <;> cases cornerIn bs t o <;> simp
theorem word_sym (V : Plain w) (C : Conn w) {t o : Tie} (ht : t ∈ w.2) (ho : o ∈ w.2) (h : wordOf (farTable w) (besideAll w) t o ≠ none) : wordOf (farTable w) (besideAll w) o t ≠ none := by
  rw [word_iff] at h ⊢
  rcases h with h | h
  · refine .inl ((farIn_iff V C ho ht).mpr ?_)
    have h := (farIn_iff V C ht ho).mp h
    have D := distW V C
    have h1 := V.tie t ht
    have h2 := V.tie o ho
    rw [D.sym (u := o.1) (v := t.1) (by omega) (by omega), D.sym (u := o.2) (v := t.2) (by omega) (by omega), D.sym (u := o.1) (v := t.2) (by omega) (by omega), D.sym (u := o.2) (v := t.1) (by omega) (by omega)]
    omega
  · obtain ⟨x, p, q, hne, hp, hq, et, eo, h⟩ := (corner_iff V ht ho).mp h
    exact .inr ((corner_iff V ho ht).mpr ⟨x, q, p, hne.symm, hq, hp, eo, et, fun y a b => h y b a⟩)
/-- the label of an edge: the head of its tie -/
noncomputable def labW (w : Web) (u v : Nat) : Tie := hdW w (tieOf u v)
theorem far_adj (V : Plain w) (C : Conn w) {u v x y : Nat} (h1 : adjW w u v) (h2 : adjW w x y) : farIn (farTable w) (tieOf u v) (tieOf x y) = true ↔ dW w u x + dW w v y ≠ dW w u y + dW w v x := by
  rw [farIn_iff V C ((adjW_tie V).mp h1).1 ((adjW_tie V).mp h2).1]
  rcases Nat.lt_or_gt_of_ne (h1.ne V) with a | a <;> rcases Nat.lt_or_gt_of_ne (h2.ne V) with b | b
  · rw [tieOf_lt a, tieOf_lt b]
  · rw [tieOf_lt a, tieOf_gt b]
    simp only
    omega
  · rw [tieOf_gt a, tieOf_lt b]
    simp only
    omega
  · rw [tieOf_gt a, tieOf_gt b]
    simp only
    omega
theorem cloW (V : Plain w) (C : Conn w) : Clo w.1 (adjW w) (dW w) (labW w) := by
  have lk : ∀ {t o}, t ∈ w.2 → o ∈ w.2 → wordOf (farTable w) (besideAll w) t o ≠ none → hdW w t = hdW w o := fun ht ho => hdW_link (fun t ht o ho => word_sym V C ht ho) ht ho
  refine ⟨fun {u v} _ => congrArg (hdW w) (tieOf_comm u v), fun {u v x y} h1 h2 hne => ?_, fun {x u v} h1 h2 hne hl => ?_⟩
  · exact lk ((adjW_tie V).mp h1).1 ((adjW_tie V).mp h2).1 (word_iff.mpr (.inl ((far_adj V C h1 h2).mpr hne)))
  · refine Classical.byContradiction fun z => hl ?_
    refine lk ((adjW_tie V).mp h1).1 ((adjW_tie V).mp h2).1 (word_iff.mpr (.inr ?_))
    exact (corner_iff V ((adjW_tie V).mp h1).1 ((adjW_tie V).mp h2).1).mpr ⟨x, u, v, hne, h1, h2, rfl, rfl, fun y a b => Classical.byContradiction fun c => z ⟨y, c, a, b⟩⟩
theorem fineW (V : Plain w) (C : Conn w) (mu : Nat → Nat → Nat) (K : Clo w.1 (adjW w) (dW w) mu) {u v x y : Nat} (h1 : adjW w u v) (h2 : adjW w x y) (e : labW w u v = labW w x y) : mu u v = mu x y := by
  have at_ : ∀ {u v}, adjW w u v → mu (tieOf u v).1 (tieOf u v).2 = mu u v := fun {u v} h => by
    rcases Nat.lt_or_gt_of_ne (h.ne V) with a | a
    · rw [tieOf_lt a]
    · rw [tieOf_gt a]
      exact (K.sym h).symm
  have := hdW_min (w := w) (fun t => mu t.1 t.2) (fun t ht o ho hw => ?_) e
  · rw [← at_ h1, ← at_ h2]
    exact this
  · have t1 := V.tie t ht
    have o1 := V.tie o ho
    rcases word_iff.mp hw with h | h
    · exact K.theta (.inl ht) (.inl ho) ((farIn_iff V C ht ho).mp h)
    · obtain ⟨x, p, q, hne, hp, hq, et, eo, h⟩ := (corner_iff V ht ho).mp h
      rw [et, eo, at_ hp, at_ hq]
      refine Classical.byContradiction fun z => ?_
      obtain ⟨y, g1, g2, g3⟩ := K.tau hp hq hne z
      exact g1 (h y g2 g3)
end
end M

/-! facIn is a factoring. -/
namespace M
open Ty (en T3 addL look srt)
open A (Dist Clo Via Lay Fa)
/-! ### pieces -/
section
variable {w : Web}
theorem mem_comp {p q : Nat} : q ∈ comp w p ↔ q < w.1 ∧ Rch (nbW w) p q := by
  unfold comp
  rw [List.mem_filter, List.mem_range, far_isSome]
theorem comp_eq (V : Plain w) {p q : Nat} (h : Rch (nbW w) p q) : comp w p = comp w q := by
  unfold comp
  refine List.filter_congr fun x _ => ?_
  rw [Bool.eq_iff_iff, far_isSome, far_isSome]
  exact ⟨fun z => (Rch.back V h).trans z, fun z => h.trans z⟩
theorem mem_pieces {pc : List Nat} : pc ∈ piecesOf w ↔ ∃ h, h < w.1 ∧ isHead w h = true ∧ pc = comp w h := by
  unfold piecesOf
  rw [List.mem_map]
  constructor
  · intro ⟨h, h1, e⟩
    rw [List.mem_filter, List.mem_range] at h1
    exact ⟨h, h1.1, h1.2, e.symm⟩
  · intro ⟨h, h1, h2, e⟩
    exact ⟨h, List.mem_filter.mpr ⟨List.mem_range.mpr h1, h2⟩, e.symm⟩
theorem piece_at (V : Plain w) {pc : List Nat} {p : Nat} (h : pc ∈ piecesOf w) (hp : p ∈ pc) : pc = comp w p := by
  obtain ⟨q, _, _, e⟩ := mem_pieces.mp h
  rw [e] at hp ⊢
  exact comp_eq V (mem_comp.mp hp).2
theorem head_iff {p : Nat} : isHead w p = true ↔ ∀ q, q < p → ¬ Rch (nbW w) q p := by
  unfold isHead
  rw [List.all_eq_true]
  constructor
  · intro h q hq z
    have := h q (List.mem_range.mpr hq)
    rw [Option.isNone_iff_eq_none, far_none] at this
    exact this z
  · intro h q hq
    rw [Option.isNone_iff_eq_none, far_none]
    exact h q (List.mem_range.mp hq)
theorem comp_piece (V : Plain w) {p : Nat} (hp : p < w.1) : comp w p ∈ piecesOf w := by
  obtain ⟨h, h1, h2⟩ := least (P := fun q => Rch (nbW w) q p) ⟨p, Rch.refl p⟩
  have hl := h2 p (Rch.refl p)
  exact mem_pieces.mpr ⟨h, by omega, head_iff.mpr fun q hq z => by
    have := h2 q (z.trans h1)
    omega, (comp_eq V h1).symm⟩
theorem pieces_apart (V : Plain w) : (piecesOf w).Pairwise fun a b => ∀ x, x ∈ a → x ∉ b := by
  unfold piecesOf
  rw [List.pairwise_map]
  have h0 : ((List.range w.1).filter (isHead w)).Pairwise (· < ·) := List.pairwise_lt_range.filter _
  refine List.Pairwise.imp_of_mem (fun {a b} ha hb hlt x h1 h2 => ?_) h0
  have hb2 := (List.mem_filter.mp hb).2
  exact head_iff.mp hb2 a hlt ((mem_comp.mp h1).2.trans (Rch.back V (mem_comp.mp h2).2))
theorem comp_nodup (p : Nat) : (comp w p).Nodup := List.nodup_range.filter _
theorem piece_nodup {pc : List Nat} (h : pc ∈ piecesOf w) : pc.Nodup := by
  obtain ⟨q, _, _, e⟩ := mem_pieces.mp h
  rw [e]
  exact comp_nodup q
theorem pieces_first (h : 0 < w.1) : (piecesOf w).headD [] = comp w 0 := by
  obtain ⟨n, ts⟩ := w
  cases n with
  | zero => simp at h
  | succ n =>
    unfold piecesOf
    have : isHead (n + 1, ts) 0 = true := rfl
    rw [show (n + 1, ts).1 = n + 1 from rfl, List.range_succ_eq_map, List.filter_cons, if_pos this]
    rfl
end
/-! ### rows -/
theorem addAt_len (v : Nat) (rows : List (List Nat)) (q : Nat) : (addAt v rows q).length = rows.length := List.length_set
theorem getD_set {α : Type} {l : List α} {i j : Nat} {x d : α} (h : i < l.length) : (l.set i x).getD j d = if j = i then x else l.getD j d := by
  rw [List.getD_eq_getElem?_getD, List.getD_eq_getElem?_getD]
  by_cases e : j = i
  · subst e
    rw [List.getElem?_set_self h, if_pos rfl]
    rfl
  · rw [List.getElem?_set_ne (Ne.symm e), if_neg e]
theorem fold_at (v : Nat) {p : Nat} : ∀ (ps : List Nat) (rows : List (List Nat)), ps.Nodup → (∀ q ∈ ps, q < rows.length) → (ps.foldl (addAt v) rows).length = rows.length ∧ (ps.foldl (addAt v) rows).getD p [] = if p ∈ ps then rows.getD p [] ++ [v] else rows.getD p []
  | [], rows, _, _ => ⟨rfl, by simp⟩
  | q :: ps, rows, nd, h => by
    rw [List.nodup_cons] at nd
    have hq := h q (List.mem_cons_self ..)
    have ih := fold_at v (p := p) ps (addAt v rows q) nd.2 fun x hx => by
      rw [addAt_len]
      exact h x (List.mem_cons_of_mem _ hx)
    rw [List.foldl_cons]
    refine ⟨ih.1.trans (addAt_len ..), ih.2.trans ?_⟩
    unfold addAt
    rw [getD_set hq]
    by_cases e : p = q
    · subst e
      rw [if_neg nd.1, if_pos rfl, if_pos (List.mem_cons_self ..)]
    · rw [if_neg e]
      simp only [List.mem_cons, e, false_or]
theorem fold_pieces {layer : List Nat} {p : Nat} : ∀ (pcs : List (List Nat)) (rows : List (List Nat)), (∀ pc ∈ pcs, pc.Nodup ∧ ∀ q ∈ pc, q < rows.length) → (pcs.Pairwise fun a b => ∀ x, x ∈ a → x ∉ b) →
    (pcs.foldl (addPiece layer) rows).length = rows.length ∧ ((∀ pc ∈ pcs, p ∉ pc) → (pcs.foldl (addPiece layer) rows).getD p [] = rows.getD p []) ∧
      ∀ pc ∈ pcs, p ∈ pc → (pcs.foldl (addPiece layer) rows).getD p [] = rows.getD p [] ++ [(standOf layer pc).headD 0]
  | [], rows, _, _ => ⟨rfl, fun _ => rfl, fun pc h => by cases h⟩
  | q :: pcs, rows, h, hp => by
    rw [List.pairwise_cons] at hp
    have hq := h q (List.mem_cons_self ..)
    have f := fold_at ((standOf layer q).headD 0) (p := p) q rows hq.1 hq.2
    have f' : (addPiece layer rows q).length = rows.length ∧ (addPiece layer rows q).getD p [] = if p ∈ q then rows.getD p [] ++ [(standOf layer q).headD 0] else rows.getD p [] := f
    have ih := fold_pieces (layer := layer) (p := p) pcs (addPiece layer rows q) (fun pc hpc => by
      rw [f'.1]
      exact h pc (List.mem_cons_of_mem _ hpc)) hp.2
    rw [List.foldl_cons]
    refine ⟨ih.1.trans f'.1, fun hn => ?_, fun pc hpc hin => ?_⟩
    · rw [ih.2.1 fun pc hpc => hn pc (List.mem_cons_of_mem _ hpc), f'.2, if_neg (hn q (List.mem_cons_self ..))]
    · rcases List.mem_cons.mp hpc with e | hpc
      · subst e
        rw [ih.2.1 fun x hx z => hp.1 x hx p hin z, f'.2, if_pos hin]
      · rw [ih.2.2 pc hpc hin, f'.2, if_neg fun z => hp.1 pc hpc p z hin]
noncomputable def coordW (w : Web) (c : List Tie) (p : Nat) : Nat := (standOf (layerOf w c) (comp (w.1, apartOf w c) p)).headD 0
theorem fold_class {w : Web} (V : Plain w) {c : List Tie} {rows : List (List Nat)} (hr : rows.length = w.1) : (addClass w rows c).length = w.1 ∧ ∀ p, p < w.1 → (addClass w rows c).getD p [] = rows.getD p [] ++ [coordW w c p] := by
  have Va : Plain (w.1, apartOf w c) := ⟨fun t ht => V.tie t (List.mem_filter.mp ht).1, V.nd.filter _⟩
  have g := fun p => fold_pieces (layer := layerOf w c) (p := p) (piecesOf (w.1, apartOf w c)) rows (fun pc hpc => ⟨piece_nodup hpc, fun q hq => by
    obtain ⟨h, _, _, e⟩ := mem_pieces.mp hpc
    rw [e] at hq
    rw [hr]
    exact (mem_comp.mp hq).1⟩) (pieces_apart Va)
  refine ⟨(g 0).1.trans hr, fun p hp => ?_⟩
  exact (g p).2.2 (comp (w.1, apartOf w c) p) (comp_piece Va hp) (mem_comp.mpr ⟨hp, Rch.refl p⟩)
theorem fold_classes {w : Web} (V : Plain w) : ∀ (cs : List (List Tie)) (rows : List (List Nat)), rows.length = w.1 → (cs.foldl (addClass w) rows).length = w.1 ∧ ∀ p, p < w.1 → (cs.foldl (addClass w) rows).getD p [] = rows.getD p [] ++ cs.map fun c => coordW w c p
  | [], rows, h => ⟨h, fun p _ => by simp⟩
  | c :: cs, rows, h => by
    have h1 := fold_class V (c := c) h
    have ih := fold_classes V cs _ h1.1
    rw [List.foldl_cons]
    refine ⟨ih.1, fun p hp => ?_⟩
    rw [ih.2 p hp, h1.2 p hp, List.map_cons, List.append_assoc]
    rfl
theorem fac_rows {w : Web} (V : Plain w) : (facIn w).2.length = w.1 ∧ ∀ p, p < w.1 → (facIn w).2.getD p [] = (classesIn w).map fun c => coordW w c p := by
  have g := fold_classes V (classesIn w) (List.replicate w.1 []) (by simp)
  refine ⟨g.1, fun p hp => (g.2 p hp).trans ?_⟩
  rw [List.getD_eq_getElem?_getD, List.getElem?_replicate, if_pos hp]
  rfl
theorem mem_en {α : Type} {xs : List α} {k : Nat} {x : α} : (k, x) ∈ en xs ↔ xs[k]? = some x := by
  constructor
  · intro h
    unfold en at h
    obtain ⟨j, hj⟩ := List.mem_iff_getElem?.mp h
    rw [List.getElem?_zip_eq_some] at hj
    have hl := (List.getElem?_eq_some_iff.mp hj.1).1
    rw [List.length_range] at hl
    have e := hj.1
    rw [List.getElem?_range hl] at e
    have e2 : j = k := Option.some.inj e
    rw [← e2]
    exact hj.2
  · exact en_get'
theorem mem_stand {layer piece : List Nat} {k : Nat} : k ∈ standOf layer piece ↔ ∃ x, layer[k]? = some x ∧ x ∈ piece := by
  unfold standOf
  rw [List.mem_map]
  constructor
  · intro ⟨p, h, e⟩
    obtain ⟨j, x⟩ := p
    rw [List.mem_filter] at h
    simp only at e
    subst e
    exact ⟨x, mem_en.mp h.1, by simpa using h.2⟩
  · intro ⟨x, h1, h2⟩
    exact ⟨(k, x), List.mem_filter.mpr ⟨mem_en.mpr h1, by simpa using h2⟩, rfl⟩
/-! ### the web within places -/
theorem getD_mem {xs : List Nat} {k : Nat} (h : k < xs.length) : xs.getD k 0 ∈ xs := by
  rw [List.getD_eq_getElem?_getD, List.getElem?_eq_getElem h]
  exact List.getElem_mem h
theorem getD_some {α : Type} {xs : List α} {k : Nat} {d : α} (h : k < xs.length) : xs[k]? = some (xs.getD k d) := by
  rw [List.getD_eq_getElem?_getD, List.getElem?_eq_getElem h]
  rfl
theorem idx_getD {xs : List Nat} (nd : xs.Nodup) {k : Nat} (h : k < xs.length) : xs.idxOf (xs.getD k 0) = k := idxOf_get nd (getD_some h)
theorem getD_idx {xs : List Nat} {x : Nat} (h : x ∈ xs) : xs.getD (xs.idxOf x) 0 = x := by
  have h1 := List.idxOf_lt_length_of_mem h
  rw [List.getD_eq_getElem?_getD, List.getElem?_eq_getElem h1]
  exact List.getElem_idxOf h1
theorem adj_of_tie {w : Web} {x y : Nat} (h : tieOf x y ∈ w.2) (hne : x ≠ y) : adjW w x y := by
  rcases Nat.lt_or_gt_of_ne hne with c | c
  · rw [tieOf_lt c] at h
    exact .inl h
  · rw [tieOf_gt c] at h
    exact .inr h
theorem tieOf_inj {a b x y : Nat} (h : tieOf a b = (x, y)) : (a = x ∧ b = y) ∨ (a = y ∧ b = x) := by
  unfold tieOf at h
  have h1 : min a b = x := congrArg Prod.fst h
  have h2 : max a b = y := congrArg Prod.snd h
  omega
theorem mem_within {w : Web} {ps : List Nat} {t : Tie} : t ∈ (withinBy w ps).2 ↔ ∃ o ∈ w.2, o.1 ∈ ps ∧ o.2 ∈ ps ∧ tieOf (ps.idxOf o.1) (ps.idxOf o.2) = t := by
  unfold withinBy
  show t ∈ List.mergeSort _ _ ↔ _
  rw [List.mem_mergeSort, List.mem_map]
  constructor
  · intro ⟨o, h, e⟩
    rw [List.mem_filter] at h
    obtain ⟨h1, h2⟩ := h
    rw [Bool.and_eq_true, decide_eq_true_eq, decide_eq_true_eq] at h2
    exact ⟨o, h1, h2.1, h2.2, e⟩
  · intro ⟨o, h1, h2, h3, e⟩
    refine ⟨o, List.mem_filter.mpr ⟨h1, ?_⟩, e⟩
    rw [Bool.and_eq_true, decide_eq_true_eq, decide_eq_true_eq]
    exact ⟨h2, h3⟩
theorem adj_within {w : Web} (V : Plain w) {ps : List Nat} (nd : ps.Nodup) {x y : Nat} : adjW (withinBy w ps) x y ↔ x < ps.length ∧ y < ps.length ∧ adjW w (ps.getD x 0) (ps.getD y 0) := by
  have one : ∀ {x y}, (x, y) ∈ (withinBy w ps).2 → x < ps.length ∧ y < ps.length ∧ adjW w (ps.getD x 0) (ps.getD y 0) := fun {x y} h => by
    obtain ⟨o, h1, h2, h3, e⟩ := mem_within.mp h
    have l1 := List.idxOf_lt_length_of_mem h2
    have l2 := List.idxOf_lt_length_of_mem h3
    rcases tieOf_inj e with ⟨e1, e2⟩ | ⟨e1, e2⟩
    · rw [← e1, ← e2, getD_idx h2, getD_idx h3]
      exact ⟨l1, l2, .inl h1⟩
    · rw [← e1, ← e2, getD_idx h2, getD_idx h3]
      exact ⟨l2, l1, .inr h1⟩
  constructor
  · rintro (h | h)
    · exact one h
    · obtain ⟨h1, h2, h3⟩ := one h
      exact ⟨h2, h1, h3.symm⟩
  · intro ⟨hx, hy, h⟩
    have hne : x ≠ y := fun z => by
      subst z
      exact h.ne V rfl
    refine adj_of_tie (mem_within.mpr ?_) hne
    rcases h with h | h
    · exact ⟨_, h, getD_mem hx, getD_mem hy, by rw [idx_getD nd hx, idx_getD nd hy]⟩
    · exact ⟨_, h, getD_mem hy, getD_mem hx, by rw [idx_getD nd hx, idx_getD nd hy, tieOf_comm]⟩
/-! ### classes -/
section
variable {w : Web}
/-- the class k, and its label -/
noncomputable def clK (w : Web) (i : Nat) : List Tie := (classesIn w).getD i []
noncomputable def hdK (w : Web) (i : Nat) : Tie := hdW w ((clK w i).headD (0, 0))
theorem clK_mem {i : Nat} (h : i < (classesIn w).length) : clK w i ∈ classesIn w := by
  unfold clK
  rw [List.getD_eq_getElem?_getD, List.getElem?_eq_getElem h]
  exact List.getElem_mem h
theorem cls_head {k : Tie} {c : List Tie} (e : c = cls w.2 (hdW w) k) (hne : c ≠ []) : hdW w (c.headD (0, 0)) = k := by
  obtain ⟨t, ts, rfl⟩ := List.exists_cons_of_ne_nil hne
  have : t ∈ cls w.2 (hdW w) k := by rw [← e]; exact List.mem_cons_self ..
  unfold cls at this
  rw [List.mem_filter, decide_eq_true_eq] at this
  exact this.2
theorem clK_eq {i : Nat} (h : i < (classesIn w).length) : clK w i = cls w.2 (hdW w) (hdK w i) ∧ clK w i ≠ [] := by
  obtain ⟨t, ht, e⟩ := classes_mem.mp (clK_mem h)
  have hne : clK w i ≠ [] := by
    rw [e]
    exact List.ne_nil_of_mem (List.mem_filter.mpr ⟨ht, by simp⟩)
  refine ⟨?_, hne⟩
  unfold hdK
  rw [cls_head e hne]
  exact e
theorem mem_clK {i : Nat} (h : i < (classesIn w).length) {t : Tie} : t ∈ clK w i ↔ t ∈ w.2 ∧ hdW w t = hdK w i := by
  rw [(clK_eq h).1]
  unfold cls
  rw [List.mem_filter, decide_eq_true_eq]
theorem plainK (V : Plain w) {i : Nat} (h : i < (classesIn w).length) : Plain (w.1, clK w i) := by
  rw [(clK_eq h).1]
  exact ⟨fun t ht => V.tie t (List.mem_filter.mp ht).1, V.nd.filter _⟩
theorem plainA (V : Plain w) (c : List Tie) : Plain (w.1, apartOf w c) := ⟨fun t ht => V.tie t (List.mem_filter.mp ht).1, V.nd.filter _⟩
theorem lab_tie (V : Plain w) {u v : Nat} (h : (u, v) ∈ w.2) : labW w u v = hdW w (u, v) := by
  unfold labW
  rw [tieOf_lt (V.tie _ h).1]
theorem adjK (V : Plain w) {i : Nat} (h : i < (classesIn w).length) {u v : Nat} : adjW (w.1, clK w i) u v ↔ adjW w u v ∧ labW w u v = hdK w i := by
  constructor
  · rintro (z | z)
    · have := (mem_clK h).mp z
      exact ⟨.inl this.1, (lab_tie V this.1).trans this.2⟩
    · have := (mem_clK h).mp z
      refine ⟨.inr this.1, ?_⟩
      rw [← this.2, ← lab_tie V this.1]
      exact congrArg (hdW w) (tieOf_comm u v)
  · rintro ⟨z | z, e⟩
    · exact .inl ((mem_clK h).mpr ⟨z, by rw [← lab_tie V z]; exact e⟩)
    · refine .inr ((mem_clK h).mpr ⟨z, ?_⟩)
      rw [← lab_tie V z, ← e]
      exact congrArg (hdW w) (tieOf_comm v u)
theorem adjA (V : Plain w) {i : Nat} (h : i < (classesIn w).length) {u v : Nat} : adjW (w.1, apartOf w (clK w i)) u v ↔ adjW w u v ∧ labW w u v ≠ hdK w i := by
  have m : ∀ t, t ∈ apartOf w (clK w i) ↔ t ∈ w.2 ∧ hdW w t ≠ hdK w i := fun t => by
    unfold apartOf
    rw [List.mem_filter]
    have := mem_clK h (t := t)
    constructor
    · intro ⟨h1, h2⟩
      refine ⟨h1, fun e => ?_⟩
      rw [decide_eq_true (this.mpr ⟨h1, e⟩)] at h2
      cases h2
    · intro ⟨h1, h2⟩
      refine ⟨h1, ?_⟩
      rw [decide_eq_false fun z => h2 (this.mp z).2]
      rfl
  constructor
  · rintro (z | z)
    · have := (m _).mp z
      exact ⟨.inl this.1, by rw [lab_tie V this.1]; exact this.2⟩
    · have := (m _).mp z
      refine ⟨.inr this.1, ?_⟩
      rw [show labW w u v = labW w v u from congrArg (hdW w) (tieOf_comm u v), lab_tie V this.1]
      exact this.2
  · rintro ⟨z | z, e⟩
    · exact .inl ((m _).mpr ⟨z, by rw [← lab_tie V z]; exact e⟩)
    · refine .inr ((m _).mpr ⟨z, ?_⟩)
      rw [show labW w u v = labW w v u from congrArg (hdW w) (tieOf_comm u v), lab_tie V z] at e
      exact e
theorem rch_via {w' : Web} (V' : Plain w') {P : Tie → Prop} (h : ∀ u v, adjW w' u v ↔ adjW w u v ∧ P (labW w u v)) {u v : Nat} : Rch (nbW w') u v ↔ Via (adjW w) (labW w) P u v := by
  constructor
  · intro ⟨k, z⟩
    induction z with
    | nil => exact .nil
    | step _ hx ih =>
      have := (h _ _).mp ((mem_nbW' V').mp hx)
      exact ih.step this.1 this.2
  · intro z
    induction z with
    | nil => exact Rch.refl u
    | step _ ha hp ih =>
      obtain ⟨k, ih⟩ := ih
      exact ⟨k + 1, ih.step ((mem_nbW' V').mpr ((h _ _).mpr ⟨ha, hp⟩))⟩
theorem layer_eq (V : Valid w) (i : Nat) : layerOf w (clK w i) = comp (w.1, clK w i) 0 := by
  unfold layerOf
  exact pieces_first (w := (w.1, clK w i)) (by have := V.pos; show 0 < w.1; omega)
theorem mem_layer (V : Valid w) {i : Nat} (h : i < (classesIn w).length) {q : Nat} : q ∈ layerOf w (clK w i) ↔ Via (adjW w) (labW w) (· = hdK w i) 0 q := by
  rw [layer_eq V, mem_comp, rch_via (w := w) (plainK V.plain h) (P := (· = hdK w i)) fun u v => adjK V.plain h]
  constructor
  · exact fun z => z.2
  · refine fun z => ⟨?_, z⟩
    cases z with
    | nil => have := V.pos; show 0 < w.1; omega
    | step _ h _ => exact h.symm.lt V.plain
theorem mem_apart (V : Valid w) {i : Nat} (h : i < (classesIn w).length) {p q : Nat} (hp : p < w.1) : q ∈ comp (w.1, apartOf w (clK w i)) p ↔ Via (adjW w) (labW w) (· ≠ hdK w i) p q := by
  rw [mem_comp, rch_via (w := w) (plainA V.plain _) (P := (· ≠ hdK w i)) fun u v => adjA V.plain h]
  constructor
  · exact fun z => z.2
  · refine fun z => ⟨?_, z⟩
    cases z with
    | nil => exact hp
    | step _ h _ => exact h.symm.lt V.plain
theorem viaAll (V : Plain w) (C : Conn w) {p : Nat} (hp : p < w.1) : Via (adjW w) (labW w) (fun _ => True) 0 p :=
  (rch_via (w := w) V (P := fun _ => True) fun u v => ⟨fun h => ⟨h, trivial⟩, fun h => h.1⟩).mp (C p hp)
theorem layer_nodup (V : Valid w) (i : Nat) : (layerOf w (clK w i)).Nodup := by
  rw [layer_eq V]
  exact comp_nodup 0
theorem stand_ok (V : Valid w) (C : Conn w) {i : Nat} (h : i < (classesIn w).length) {p : Nat} (hp : p < w.1) : standOf (layerOf w (clK w i)) (comp (w.1, apartOf w (clK w i)) p) ≠ [] := by
  obtain ⟨z, h1, h2⟩ := (cloW V.plain C).split (distW V.plain C) (hdK w i) (viaAll V.plain C hp)
  have hz := (mem_layer V h).mpr h1
  obtain ⟨k, hk⟩ := List.mem_iff_getElem?.mp hz
  exact List.ne_nil_of_mem (mem_stand.mpr ⟨z, hk, (mem_apart V h hp).mpr (h2.back (distW V.plain C) (cloW V.plain C))⟩)
theorem headD_mem {l : List Nat} (h : l ≠ []) : l.headD 0 ∈ l := by
  obtain ⟨a, as, rfl⟩ := List.exists_cons_of_ne_nil h
  exact List.mem_cons_self ..
theorem coord_ok (V : Valid w) (C : Conn w) {i : Nat} (h : i < (classesIn w).length) {p : Nat} (hp : p < w.1) : coordW w (clK w i) p < (layerOf w (clK w i)).length ∧ Via (adjW w) (labW w) (· ≠ hdK w i) p ((layerOf w (clK w i)).getD (coordW w (clK w i) p) 0) := by
  obtain ⟨x, h1, h2⟩ := mem_stand.mp (headD_mem (stand_ok V C h hp))
  have h1 : (layerOf w (clK w i))[coordW w (clK w i) p]? = some x := h1
  refine ⟨(List.getElem?_eq_some_iff.mp h1).1, ?_⟩
  rw [List.getD_eq_getElem?_getD, h1]
  exact (mem_apart V h hp).mp h2
end
/-! ### the factoring -/
def mF (f : Fac) (i : Nat) : Nat := (f.1.getD i (0, [])).1
def aF (f : Fac) (i : Nat) : Nat → Nat → Prop := adjW (f.1.getD i (0, []))
def cF (f : Fac) (p i : Nat) : Nat := (f.2.getD p []).getD i 0
structure FaL (w : Web) (f : Fac) : Prop where
  len : f.2.length = w.1
  row : ∀ p, p < w.1 → (f.2.getD p []).length = f.1.length
  fa : Fa w.1 (adjW w) (dW w) f.1.length (mF f) (aF f) (cF f)
theorem facIn_len (w : Web) : (facIn w).1.length = (classesIn w).length := by
  unfold facIn
  rw [List.length_map]
theorem fac_web {w : Web} {i : Nat} (h : i < (classesIn w).length) : (facIn w).1.getD i (0, []) = withinBy w (layerOf w (clK w i)) := by
  unfold facIn
  exact getD_map _ h [] _
theorem fac_at {w : Web} (V : Plain w) {i p : Nat} (h : i < (classesIn w).length) (hp : p < w.1) : cF (facIn w) p i = coordW w (clK w i) p := by
  unfold cF
  rw [(fac_rows V).2 p hp]
  exact getD_map _ h [] _
theorem faL (w : Web) (V : Valid w) (C : Conn w) : FaL w (facIn w) := by
  refine ⟨(fac_rows V.plain).1, fun p hp => by rw [(fac_rows V.plain).2 p hp, List.length_map, facIn_len], ?_⟩
  rw [facIn_len]
  have hm : ∀ {i}, i < (classesIn w).length → mF (facIn w) i = (layerOf w (clK w i)).length := fun {i} hi => by
    unfold mF
    rw [fac_web hi]
    rfl
  refine Lay.fa (lab := labW w) (ℓ := hdK w) (L := fun i x => (layerOf w (clK w i)).getD x 0) ⟨distW V.plain C, cloW V.plain C, by have := V.pos; omega, fun p hp => viaAll V.plain C hp, fun {i x} hi hx => ?_, fun {i x y} hi hx hy e => ?_, fun {i q} hi h => ?_, fun {i x y} hi => ?_, fun {p i} hp hi => ?_, fun mu K {u v x y} h1 h2 e => fineW V.plain C mu K h1 h2 e, fun {u v} h => ?_, fun {i} hi => ?_, fun {i j} hi hj e => ?_⟩
  · rw [hm hi] at hx
    exact (mem_layer V hi).mp (getD_mem hx)
  · rw [hm hi] at hx hy
    rw [← idx_getD (layer_nodup V i) hx, ← idx_getD (layer_nodup V i) hy, e]
  · have := (mem_layer V hi).mpr h
    exact ⟨(layerOf w (clK w i)).idxOf q, by rw [hm hi]; exact List.idxOf_lt_length_of_mem this, getD_idx this⟩
  · unfold aF
    rw [fac_web hi, hm hi]
    exact adj_within V.plain (layer_nodup V i)
  · rw [hm hi, fac_at V.plain hi hp]
    exact coord_ok V C hi hp
  · have ht := ((adjW_tie V.plain).mp h).1
    have hc := classes_mem.mpr ⟨_, ht, rfl⟩
    obtain ⟨i, hi⟩ := List.mem_iff_getElem?.mp hc
    have hl := (List.getElem?_eq_some_iff.mp hi).1
    refine ⟨i, hl, ?_⟩
    have e : clK w i = cls w.2 (hdW w) (hdW w (tieOf u v)) := by
      unfold clK
      rw [List.getD_eq_getElem?_getD, hi]
      rfl
    have : tieOf u v ∈ clK w i := by
      rw [e]
      exact List.mem_filter.mpr ⟨ht, by simp⟩
    exact ((mem_clK hl).mp this).2
  · obtain ⟨t, ht⟩ := List.exists_mem_of_ne_nil _ (clK_eq hi).2
    have := (mem_clK hi).mp ht
    exact ⟨t.1, t.2, .inl this.1, (lab_tie V.plain this.1).trans this.2⟩
  · have e2 : clK w i = clK w j := by rw [(clK_eq hi).1, (clK_eq hj).1, e]
    have h1 : (classesIn w)[i]? = some (clK w i) := getD_some hi
    have h2 : (classesIn w)[j]? = some (clK w j) := getD_some hj
    exact (List.getElem?_inj hi (classes_nodup w)).mp (by rw [h1, h2, e2])
theorem Valid.sub {w : Web} (V : Valid w) {ts : List Tie} (h : ts.Sublist w.2) : Valid (w.1, ts) :=
  ⟨V.pos, V.le, Nat.le_trans h.length_le V.few, fun t ht => V.tie t (h.subset ht), V.inc.sublist h⟩
theorem facPre (w : Web) (V : Valid w) (C : Conn w) : FacPre w := by
  have idx : ∀ c ∈ classesIn w, ∃ i, i < (classesIn w).length ∧ c = clK w i := fun c hc => by
    obtain ⟨i, hi⟩ := List.mem_iff_getElem?.mp hc
    refine ⟨i, (List.getElem?_eq_some_iff.mp hi).1, ?_⟩
    unfold clK
    rw [List.getD_eq_getElem?_getD, hi]
    rfl
  have pos : 0 < w.1 := by have := V.pos; omega
  refine ⟨V, fun p q hp hq => hasD V.plain C hp hq, fun c hc => ?_, fun c hc => ?_, fun c hc => ?_, fun c hc => V.sub List.filter_sublist, fun c hc pc hpc => ?_, fun r hr => ?_⟩
  · obtain ⟨i, hi, e⟩ := idx c hc
    rw [e, (clK_eq hi).1]
    exact V.sub List.filter_sublist
  · obtain ⟨i, hi, e⟩ := idx c hc
    rw [e]
    exact List.ne_nil_of_mem (comp_piece (plainK V.plain hi) (p := 0) pos)
  · obtain ⟨i, hi, e⟩ := idx c hc
    rw [e]
    refine ⟨List.ne_nil_of_mem ((mem_layer V hi).mpr .nil), fun p hp => ?_, ?_⟩
    · rw [layer_eq V] at hp
      exact (mem_comp.mp hp).1
    · rw [layer_eq V]
      exact List.pairwise_lt_range.filter _
  · obtain ⟨i, hi, e⟩ := idx c hc
    rw [e] at hpc ⊢
    obtain ⟨h, h1, _, e2⟩ := mem_pieces.mp hpc
    rw [e2]
    exact stand_ok V C hi h1
  · have g := fac_rows V.plain
    obtain ⟨p, hp⟩ := List.mem_iff_getElem?.mp hr
    have hl := (List.getElem?_eq_some_iff.mp hp).1
    have e : r = (facIn w).2.getD p [] := by
      rw [List.getD_eq_getElem?_getD, hp]
      rfl
    rw [e, g.2 p (by omega), List.length_map]
    have := classesIn_len w
    have := V.few
    omega
end M

/-! Products of two webs: valid, together, factored. -/
namespace M
open Ty (en T3 addL look srt)
open A (Dist Clo Via Lay Fa Pr Iso catN catN_l catN_r catN_r' pigSur)
/-! ### namings -/
theorem getD_inj {f : List Nat} (nd : f.Nodup) {i j : Nat} (hi : i < f.length) (hj : j < f.length) (e : f.getD i 0 = f.getD j 0) : i = j := by
  rw [← idx_getD nd hi, ← idx_getD nd hj, e]
theorem nodup_of_inj {f : List Nat} (h : ∀ i j, i < f.length → j < f.length → f.getD i 0 = f.getD j 0 → i = j) : f.Nodup := by
  have e : f = (List.range f.length).map fun i => f.getD i 0 := by
    apply List.ext_getElem?
    intro i
    by_cases hi : i < f.length
    · rw [get_map_range _ hi]
      exact getD_some hi
    · rw [List.getElem?_eq_none (by omega), List.getElem?_eq_none (by simp; omega)]
  rw [e, List.Nodup, List.pairwise_map]
  exact List.Pairwise.imp_of_mem (fun {a b} ha hb hne z => hne (h a b (List.mem_range.mp ha) (List.mem_range.mp hb) z)) List.nodup_range
theorem full {α : Type} {l1 l2 : List α} (nd : l1.Nodup) (h : ∀ x ∈ l1, x ∈ l2) (hl : l2.length ≤ l1.length) : ∀ x ∈ l2, x ∈ l1 := fun x hx => Classical.byContradiction fun z => by
  have := List.Nodup.length_le_of_subset (l₁ := x :: l1) (List.nodup_cons.mpr ⟨z, nd⟩) (l₂ := l2) fun y hy => by
    rcases List.mem_cons.mp hy with e | hy
    · rw [e]; exact hx
    · exact h y hy
  rw [List.length_cons] at this
  omega
theorem map_ties {one other : Web} (V : Plain one) {f : Nat → Nat} (inj : ∀ {p q}, p < one.1 → q < one.1 → f p = f q → p = q) : (one.2.map fun t => tieOf (f t.1) (f t.2)).Nodup := by
  rw [List.Nodup, List.pairwise_map]
  refine List.Pairwise.imp_of_mem (fun {t o} ht ho hne e => hne ?_) V.nd
  have h1 := V.tie t ht
  have h2 := V.tie o ho
  have e2 : tieOf (f t.1) (f t.2) = ((tieOf (f o.1) (f o.2)).1, (tieOf (f o.1) (f o.2)).2) := e
  have : (f t.1 = f o.1 ∧ f t.2 = f o.2) ∨ (f t.1 = f o.2 ∧ f t.2 = f o.1) := by
    unfold tieOf at e
    have a1 : min (f t.1) (f t.2) = min (f o.1) (f o.2) := congrArg Prod.fst e
    have a2 : max (f t.1) (f t.2) = max (f o.1) (f o.2) := congrArg Prod.snd e
    omega
  rcases this with ⟨a, b⟩ | ⟨a, b⟩
  · exact Prod.ext (inj (by omega) (by omega) a) (inj (by omega) (by omega) b)
  · have c1 := inj (by omega) (by omega) a
    have c2 := inj (by omega) (by omega) b
    omega
theorem isoOf {one other : Web} {f : List Nat} (V1 : Plain one) (V2 : Plain other) (h : IsNaming one other f) : Iso one.1 (adjW one) other.1 (adjW other) fun p => f.getD p 0 := by
  have lt : ∀ {p}, p < one.1 → f.getD p 0 < other.1 := fun {p} hp => h.lt _ (getD_mem (by rw [h.len, ← h.places]; exact hp))
  have inj : ∀ {p q}, p < one.1 → q < one.1 → f.getD p 0 = f.getD q 0 → p = q := fun {p q} hp hq e => getD_inj h.nd (by rw [h.len, ← h.places]; exact hp) (by rw [h.len, ← h.places]; exact hq) e
  have nd := map_ties (other := other) V1 (f := fun p => f.getD p 0) inj
  have sub : ∀ x ∈ one.2.map fun t => tieOf (f.getD t.1 0) (f.getD t.2 0), x ∈ other.2 := fun x hx => by
    obtain ⟨t, ht, e⟩ := List.mem_map.mp hx
    rw [← e]
    exact h.tied t ht
  have sup := full nd sub (by rw [List.length_map, h.ties]; exact Nat.le_refl _)
  refine ⟨lt, inj, fun {q} hq => ?_, fun {p q} hp hq => ?_⟩
  · obtain ⟨p, hp, e⟩ := pigSur (n := one.1) (f := fun p => f.getD p 0) (fun i hi => by rw [h.places]; exact lt hi) (fun i j hi hj e => inj hi hj e) (q := q) (by rw [h.places]; exact hq)
    exact ⟨p, hp, e⟩
  · rw [adjW_tie V1, adjW_tie V2]
    constructor
    · intro ⟨h1, h2⟩
      refine ⟨?_, fun e => h2 (inj hp hq e)⟩
      have := h.tied _ h1
      rcases Nat.lt_or_gt_of_ne h2 with c | c
      · rw [tieOf_lt c] at this
        exact this
      · rw [tieOf_gt c] at this
        rw [tieOf_comm]
        exact this
    · intro ⟨h1, h2⟩
      have hne : p ≠ q := fun e => h2 (by rw [e])
      refine ⟨?_, hne⟩
      obtain ⟨t, ht, e⟩ := List.mem_map.mp (sup _ h1)
      have ht2 := V1.tie t ht
      have : (f.getD t.1 0 = f.getD p 0 ∧ f.getD t.2 0 = f.getD q 0) ∨ (f.getD t.1 0 = f.getD q 0 ∧ f.getD t.2 0 = f.getD p 0) := by
        unfold tieOf at e
        have a1 : min (f.getD t.1 0) (f.getD t.2 0) = min (f.getD p 0) (f.getD q 0) := congrArg Prod.fst e
        have a2 : max (f.getD t.1 0) (f.getD t.2 0) = max (f.getD p 0) (f.getD q 0) := congrArg Prod.snd e
        omega
      rcases this with ⟨a, b⟩ | ⟨a, b⟩
      · rw [← inj (by omega) hp a, ← inj (by omega) hq b, tieOf_lt ht2.1]
        exact ht
      · rw [← inj (by omega) hq a, ← inj (by omega) hp b, tieOf_gt ht2.1]
        exact ht
theorem namingOf {one other : Web} {f : List Nat} (V1 : Plain one) (V2 : Plain other) (hl : f.length = one.1) (I : Iso one.1 (adjW one) other.1 (adjW other) fun p => f.getD p 0) : IsNaming one other f := by
  have half : ∀ {one other : Web} {f : Nat → Nat}, Plain one → Plain other → Iso one.1 (adjW one) other.1 (adjW other) f → one.2.length ≤ other.2.length := fun {one other f} V1 V2 I => by
    have nd := map_ties (other := other) V1 (f := f) I.inj
    have := List.Nodup.length_le_of_subset nd (l₂ := other.2) fun x hx => by
      obtain ⟨t, ht, e⟩ := List.mem_map.mp hx
      have h1 := V1.tie t ht
      rw [← e]
      exact ((adjW_tie V2).mp ((I.tied (by omega) h1.2).mp (.inl ht))).1
    rwa [List.length_map] at this
  obtain ⟨ψ, J, _⟩ := I.inv
  refine ⟨I.eqn, hl.trans I.eqn, fun p hp => ?_, nodup_of_inj fun i j hi hj e => I.inj (by omega) (by omega) e, Nat.le_antisymm (half V1 V2 I) (half V2 V1 J), fun t ht => ?_⟩
  · obtain ⟨k, hk⟩ := List.mem_iff_getElem?.mp hp
    have hkl := (List.getElem?_eq_some_iff.mp hk).1
    have := I.lt (p := k) (by omega)
    rw [List.getD_eq_getElem?_getD, hk] at this
    exact this
  · have h1 := V1.tie t ht
    exact ((adjW_tie V2).mp ((I.tied (by omega) h1.2).mp (.inl ht))).1
/-! ### the product -/
theorem conn_of {w : Web} (V : Plain w) {d : Nat → Nat → Nat} (D : Dist w.1 (adjW w) d) (pos : 0 < w.1) : Conn w := by
  intro q hq
  have : ∀ k u, u < w.1 → d u q = k → Rch (nbW w) u q := by
    intro k
    induction k with
    | zero =>
      intro u hu e
      rw [D.eq0 hu hq e]
      exact Rch.refl q
    | succ k ih =>
      intro u hu e
      have hne : u ≠ q := fun z => by
        rw [z, D.zero hq] at e
        cases e
      obtain ⟨x, h1, h2⟩ := D.desc hu hq hne
      exact Rch.trans ⟨1, way_one V h1⟩ (ih x (D.lt2 h1) (by omega))
  exact this _ 0 pos rfl
section
variable {a b : Web}
theorem pl_two (a b : Web) : placesIn [a, b] = a.1 * b.1 := by
  show 1 * a.1 * b.1 = _
  rw [Nat.one_mul]
theorem row_two (a b : Web) (n : Nat) : rowIn [a, b] n = [n / b.1 % a.1, n % b.1] := rfl
theorem num_two (a b : Web) (x y : Nat) : numberIn [a, b] [x, y] = x * b.1 + y := by
  show (0 * a.1 + x) * b.1 + y = _
  rw [Nat.zero_mul, Nat.zero_add]
theorem div_lt {p x y : Nat} (h : p < x * y) : p / y < x ∧ p % y < y := by
  have hy : 0 < y := Nat.pos_of_ne_zero fun z => by
    rw [z, Nat.mul_zero] at h
    omega
  exact ⟨(Nat.div_lt_iff_lt_mul hy).mpr h, Nat.mod_lt _ hy⟩
theorem put_lt {x y n m : Nat} (hx : x < n) (hy : y < m) : x * m + y < n * m := by
  have : (x + 1) * m ≤ n * m := Nat.mul_le_mul_right m hx
  rw [Nat.succ_mul] at this
  omega
theorem put_div {x y m : Nat} (hy : y < m) : (x * m + y) / m = x := by
  rw [Nat.mul_comm, Nat.mul_add_div (by omega), Nat.div_eq_of_lt hy, Nat.add_zero]
theorem put_mod {x y m : Nat} (hy : y < m) : (x * m + y) % m = y := by
  rw [Nat.mul_comm, Nat.mul_add_mod, Nat.mod_eq_of_lt hy]
theorem put_eq (p m : Nat) : p / m * m + p % m = p := by
  rw [Nat.mul_comm]
  exact Nat.div_add_mod p m
/-- what stands beside n -/
theorem beside_perm (n : Nat) : (besideNums [a, b] n).Perm (((nbOf (besideAll a) (n / b.1 % a.1)).map fun o => o * b.1 + n % b.1) ++ (nbOf (besideAll b) (n % b.1)).map fun o => n / b.1 % a.1 * b.1 + o) := by
  unfold besideNums besideBy
  rw [row_two]
  refine ((Ty.perm_srt _).map _).trans (List.Perm.of_eq ?_)
  show List.map (numberIn [a, b]) (((nbOf (besideAll a) (n / b.1 % a.1)).map fun o => [o, n % b.1]) ++ (((nbOf (besideAll b) (n % b.1)).map fun o => [n / b.1 % a.1, o]) ++ [])) = _
  rw [List.append_nil, List.map_append, List.map_map, List.map_map]
  congr 1
  · refine List.map_congr_left fun o _ => ?_
    exact num_two a b o _
  · refine List.map_congr_left fun o _ => ?_
    exact num_two a b _ o
theorem mem_beside (Va : Plain a) (Vb : Plain b) {n m : Nat} (hn : n < a.1 * b.1) : m ∈ besideNums [a, b] n ↔ m < a.1 * b.1 ∧ ((n % b.1 = m % b.1 ∧ adjW a (n / b.1) (m / b.1)) ∨ (n / b.1 = m / b.1 ∧ adjW b (n % b.1) (m % b.1))) := by
  obtain ⟨h1, h2⟩ := div_lt hn
  rw [(beside_perm n).mem_iff, List.mem_append, List.mem_map, List.mem_map, Nat.mod_eq_of_lt h1]
  constructor
  · rintro (⟨o, ho, e⟩ | ⟨o, ho, e⟩)
    · have ho := (mem_nbW' Va).mp ho
      have ol := ho.symm.lt Va
      rw [← e, put_mod h2, put_div h2]
      exact ⟨put_lt ol h2, .inl ⟨rfl, ho⟩⟩
    · have ho := (mem_nbW' Vb).mp ho
      have ol := ho.symm.lt Vb
      rw [← e, put_mod ol, put_div ol]
      exact ⟨put_lt h1 ol, .inr ⟨rfl, ho⟩⟩
  · rintro ⟨hm, ⟨e, h⟩ | ⟨e, h⟩⟩
    · exact .inl ⟨m / b.1, (mem_nbW' Va).mpr h, by rw [e]; exact put_eq m b.1⟩
    · exact .inr ⟨m % b.1, (mem_nbW' Vb).mpr h, by rw [e]; exact put_eq m b.1⟩
theorem beside_nodup (Va : Plain a) (Vb : Plain b) {n : Nat} (hn : n < a.1 * b.1) : (besideNums [a, b] n).Nodup := by
  obtain ⟨h1, h2⟩ := div_lt hn
  rw [(beside_perm n).nodup_iff, Nat.mod_eq_of_lt h1, List.nodup_append]
  refine ⟨?_, ?_, fun x hx y hy e => ?_⟩
  · rw [List.Nodup, List.pairwise_map, nbOf_beside h1]
    exact (nbs_nodup Va _).imp fun {x y} hne e => hne (Nat.eq_of_mul_eq_mul_right (by omega) (Nat.add_right_cancel e))
  · rw [List.Nodup, List.pairwise_map, nbOf_beside h2]
    exact (nbs_nodup Vb _).imp fun {x y} hne e => hne (Nat.add_left_cancel e)
  · obtain ⟨o, ho, e1⟩ := List.mem_map.mp hx
    obtain ⟨o', ho', e2⟩ := List.mem_map.mp hy
    have ho := (mem_nbW' Va).mp ho
    have ho' := (mem_nbW' Vb).mp ho'
    have ol := ho'.symm.lt Vb
    have := congrArg (· / b.1) (e1.trans (e.trans e2.symm))
    rw [put_div h2, put_div ol] at this
    exact ho.ne Va this.symm
theorem mem_made (Va : Plain a) (Vb : Plain b) {n m : Nat} : (n, m) ∈ (madeOf [a, b]).2 ↔ n < m ∧ m < a.1 * b.1 ∧ ((n % b.1 = m % b.1 ∧ adjW a (n / b.1) (m / b.1)) ∨ (n / b.1 = m / b.1 ∧ adjW b (n % b.1) (m % b.1))) := by
  unfold madeOf madeTies
  simp only
  rw [pl_two, List.mem_flatMap]
  constructor
  · intro ⟨k, hk, h⟩
    obtain ⟨o, ho, e⟩ := List.mem_map.mp h
    rw [List.mem_filter, List.mem_mergeSort, decide_eq_true_eq] at ho
    have e1 : k = n := congrArg Prod.fst e
    have e2 : o = m := congrArg Prod.snd e
    subst e1 e2
    have := (mem_beside Va Vb (List.mem_range.mp hk)).mp ho.1
    exact ⟨ho.2, this.1, this.2⟩
  · intro ⟨h1, h2, h3⟩
    refine ⟨n, List.mem_range.mpr (by omega), List.mem_map.mpr ⟨m, ?_, rfl⟩⟩
    rw [List.mem_filter, List.mem_mergeSort, decide_eq_true_eq]
    exact ⟨(mem_beside Va Vb (by omega)).mpr ⟨h2, h3⟩, h1⟩
theorem made_fst (a b : Web) : (madeOf [a, b]).1 = a.1 * b.1 := pl_two a b
theorem made_inc (Va : Plain a) (Vb : Plain b) : (madeOf [a, b]).2.Pairwise ltT := by
  unfold madeOf
  simp only
  rw [pl_two, List.pairwise_flatMap]
  refine ⟨fun n hn => ?_, ?_⟩
  · unfold madeTies
    rw [List.pairwise_map]
    refine List.Pairwise.filter _ ?_
    have nd := beside_nodup Va Vb (List.mem_range.mp hn)
    have nd2 : ((besideNums [a, b] n).mergeSort fun a b => decide (a ≤ b)).Nodup := (List.mergeSort_perm _ _).nodup_iff.mpr nd
    have so : ((besideNums [a, b] n).mergeSort fun a b => decide (a ≤ b)).Pairwise fun a b => decide (a ≤ b) = true := List.pairwise_mergeSort (fun a b c h1 h2 => by
      rw [decide_eq_true_eq] at h1 h2 ⊢
      omega) (fun a b => by
      rw [Bool.or_eq_true, decide_eq_true_eq, decide_eq_true_eq]
      omega) _
    refine (so.and nd2).imp fun {x y} h => ?_
    have := of_decide_eq_true h.1
    have := h.2
    exact .inr ⟨rfl, by simp only; omega⟩
  · refine List.pairwise_lt_range.imp fun {n m} h x hx y hy => ?_
    unfold madeTies at hx hy
    obtain ⟨o, _, e1⟩ := List.mem_map.mp hx
    obtain ⟨o', _, e2⟩ := List.mem_map.mp hy
    rw [← e1, ← e2]
    exact .inl h
theorem made_plain (Va : Plain a) (Vb : Plain b) : Plain (madeOf [a, b]) := by
  refine ⟨fun t ht => ?_, (made_inc Va Vb).imp fun {x y} q e => by
    subst e
    exact ltT_irrefl x q⟩
  obtain ⟨n, m⟩ := t
  have := (mem_made Va Vb).mp ht
  rw [made_fst]
  exact ⟨this.1, this.2.1⟩
theorem ties_two (Va : 1 ≤ a.1) (Vb : 1 ≤ b.1) : tiesIn [a, b] = a.2.length * b.1 + b.2.length * a.1 := by
  unfold tiesIn
  rw [pl_two]
  show a.2.length * (a.1 * b.1 / a.1) + (b.2.length * (a.1 * b.1 / b.1) + 0) = _
  rw [Nat.mul_div_cancel_left _ Va, Nat.mul_div_cancel _ Vb, Nat.add_zero]
theorem made_len (Va : Plain a) (Vb : Plain b) : (madeOf [a, b]).2.length ≤ a.2.length * b.1 + b.2.length * a.1 := by
  have len : ∀ (ts : List Tie) (k : Nat) (f : Tie → Nat → Tie), (ts.flatMap fun t => (List.range k).map (f t)).length = ts.length * k := fun ts k f => by
    induction ts with
    | nil => simp
    | cons t ts ih =>
      rw [List.flatMap_cons, List.length_append, ih, List.length_map, List.length_range, List.length_cons, Nat.succ_mul, Nat.add_comm]
  have := List.Nodup.length_le_of_subset (made_plain Va Vb).nd (l₂ := (a.2.flatMap fun t => (List.range b.1).map fun y => (t.1 * b.1 + y, t.2 * b.1 + y)) ++ b.2.flatMap fun t => (List.range a.1).map fun x => (x * b.1 + t.1, x * b.1 + t.2)) fun t ht => by
    obtain ⟨n, m⟩ := t
    obtain ⟨h1, h2, h3⟩ := (mem_made Va Vb).mp ht
    have dm := div_lt h2
    have dn := div_lt (p := n) (x := a.1) (y := b.1) (by omega)
    have en := put_eq n b.1
    have em := put_eq m b.1
    rcases h3 with ⟨e, h⟩ | ⟨e, h⟩
    · refine List.mem_append_left _ (List.mem_flatMap.mpr ?_)
      rcases h with h | h
      · refine ⟨_, h, List.mem_map.mpr ⟨n % b.1, List.mem_range.mpr dn.2, ?_⟩⟩
        refine Prod.ext en ?_
        show m / b.1 * b.1 + n % b.1 = m
        rw [e]; exact em
      · exfalso
        have hl := (Va.tie _ h).1
        simp only at hl
        have : m / b.1 * b.1 ≤ n / b.1 * b.1 := Nat.mul_le_mul_right _ (by omega)
        omega
    · refine List.mem_append_right _ (List.mem_flatMap.mpr ?_)
      rcases h with h | h
      · refine ⟨_, h, List.mem_map.mpr ⟨n / b.1, List.mem_range.mpr dn.1, ?_⟩⟩
        refine Prod.ext en ?_
        show n / b.1 * b.1 + m % b.1 = m
        rw [e]; exact em
      · exfalso
        have hl := (Vb.tie _ h).1
        simp only at hl
        rw [e] at en
        omega
  rw [List.length_append, len, len] at this
  exact this
theorem made_valid (Va : Valid a) (Vb : Valid b) (F : FitPre [a, b]) : Valid (madeOf [a, b]) := by
  have h1 := F.places
  have h2 := F.ties
  rw [pl_two] at h1
  rw [ties_two Va.pos Vb.pos] at h2
  have h3 := made_len Va.plain Vb.plain
  have h4 : 1 ≤ a.1 * b.1 := Nat.mul_pos Va.pos Vb.pos
  exact ⟨by rw [made_fst]; exact h4, by rw [made_fst]; exact h1, by omega, (made_plain Va.plain Vb.plain).tie, made_inc Va.plain Vb.plain⟩
theorem made_pr (Va : Plain a) (Vb : Plain b) : Pr (a.1 * b.1) (adjW (madeOf [a, b])) a.1 (adjW a) b.1 (adjW b) (· / b.1) (· % b.1) fun x y => x * b.1 + y := by
  have V := made_plain Va Vb
  refine ⟨fun {p q} h => ?_, fun h => (div_lt h).1, fun h => (div_lt h).2, put_lt, fun _ h => put_div h, fun _ h => put_mod h, fun {q} _ => put_eq q b.1, fun {p q} hp hq => ?_⟩
  · rw [← made_fst]
    exact ⟨h.lt V, h.symm.lt V⟩
  · constructor
    · rintro (h | h)
      · exact ((mem_made Va Vb).mp h).2.2
      · rcases ((mem_made Va Vb).mp h).2.2 with ⟨e, h⟩ | ⟨e, h⟩
        · exact .inl ⟨e.symm, h.symm⟩
        · exact .inr ⟨e.symm, h.symm⟩
    · intro h
      have hne : p ≠ q := fun z => by
        subst z
        rcases h with ⟨_, h⟩ | ⟨_, h⟩
        · exact h.ne Va rfl
        · exact h.ne Vb rfl
      rcases Nat.lt_or_gt_of_ne hne with c | c
      · exact .inl ((mem_made Va Vb).mpr ⟨c, hq, h⟩)
      · refine .inr ((mem_made Va Vb).mpr ⟨c, hp, ?_⟩)
        rcases h with ⟨e, h⟩ | ⟨e, h⟩
        · exact .inl ⟨e.symm, h.symm⟩
        · exact .inr ⟨e.symm, h.symm⟩
theorem made_conn (Va : Valid a) (Vb : Valid b) (Ca : Conn a) (Cb : Conn b) : Conn (madeOf [a, b]) := by
  have := (made_pr Va.plain Vb.plain).dist (distW Va.plain Ca) (distW Vb.plain Cb)
  rw [← made_fst] at this
  exact conn_of (made_plain Va.plain Vb.plain) this (by rw [made_fst]; exact Nat.mul_pos Va.pos Vb.pos)
/-! ### its factoring -/
theorem fof_webs (a b : Web) : (factoringOf [a, b]).1 = (facIn a).1 ++ (facIn b).1 := by
  show (facIn a).1 ++ ((facIn b).1 ++ []) = _
  rw [List.append_nil]
theorem fof_row (a b : Web) {n : Nat} (h : n < a.1 * b.1) : (factoringOf [a, b]).2.getD n [] = (facIn a).2.getD (n / b.1) [] ++ (facIn b).2.getD (n % b.1) [] := by
  unfold factoringOf
  simp only
  rw [pl_two, List.getD_eq_getElem?_getD, get_map_range _ h, row_two, Nat.mod_eq_of_lt (div_lt h).1]
  show (facIn a).2.getD (n / b.1) [] ++ ((facIn b).2.getD (n % b.1) [] ++ []) = _
  rw [List.append_nil]
theorem fof_len (a b : Web) : (factoringOf [a, b]).2.length = a.1 * b.1 := by
  unfold factoringOf
  simp only
  rw [List.length_map, List.length_range, pl_two]
end
theorem getD_app_l {α : Type} {xs ys : List α} {i : Nat} {d : α} (h : i < xs.length) : (xs ++ ys).getD i d = xs.getD i d := by
  rw [List.getD_eq_getElem?_getD, List.getElem?_append_left h, List.getD_eq_getElem?_getD]
theorem getD_app_r {α : Type} {xs ys : List α} {i : Nat} {d : α} : (xs ++ ys).getD (xs.length + i) d = ys.getD i d := by
  rw [List.getD_eq_getElem?_getD, List.getElem?_append_right (by omega), List.getD_eq_getElem?_getD, Nat.add_sub_cancel_left]
end M
namespace A
theorem Fa.congr {n : Nat} {adj : Nat → Nat → Prop} {d : Nat → Nat → Nat} {k : Nat} {m m' : Nat → Nat} {a a' : Nat → Nat → Nat → Prop} {c c' : Nat → Nat → Nat} (F : Fa n adj d k m a c)
    (hm : ∀ i, i < k → m i = m' i) (ha : ∀ i, i < k → a i = a' i) (hc : ∀ p i, p < n → i < k → c p i = c' p i) : Fa n adj d k m' a' c' := by
  refine ⟨F.D, fun {p i} hp hi => ?_, fun {i} hi => ?_, fun {p q} hp hq h => F.inj hp hq fun i hi => ?_, fun x hx => ?_, fun {p q} hp hq => ?_, fun i hi => ?_, fun mu C {u v x y i} h1 h2 hi c1 c2 => ?_⟩
  · rw [← hc p i hp hi, ← hm i hi]
    exact F.lt hp hi
  · rw [← hm i hi]
    exact F.two hi
  · rw [hc p i hp hi, hc q i hq hi]
    exact h i hi
  · obtain ⟨p, hp, e⟩ := F.sur x fun i hi => by
      rw [hm i hi]
      exact hx i hi
    exact ⟨p, hp, fun i hi => by rw [← hc p i hp hi]; exact e i hi⟩
  · rw [F.tied hp hq]
    constructor
    · intro ⟨i, hi, h1, h2⟩
      refine ⟨i, hi, ?_, fun j hj hne => ?_⟩
      · rw [← ha i hi, ← hc p i hp hi, ← hc q i hq hi]; exact h1
      · rw [← hc p j hp hj, ← hc q j hq hj]; exact h2 j hj hne
    · intro ⟨i, hi, h1, h2⟩
      refine ⟨i, hi, ?_, fun j hj hne => ?_⟩
      · rw [ha i hi, hc p i hp hi, hc q i hq hi]; exact h1
      · rw [hc p j hp hj, hc q j hq hj]; exact h2 j hj hne
  · rw [← hm i hi, ← ha i hi]
    exact F.dist i hi
  · rw [← hc u i (F.D.lt h1) hi, ← hc v i (F.D.lt2 h1) hi] at c1
    rw [← hc x i (F.D.lt h2) hi, ← hc y i (F.D.lt2 h2) hi] at c2
    exact F.fine mu C h1 h2 hi c1 c2
end A
namespace M
open A (Fa Pr catN catN_l catN_r')
theorem fof_fa {a b : Web} (Va : Valid a) (Vb : Valid b) (Ca : Conn a) (Cb : Conn b) : FaL (madeOf [a, b]) (factoringOf [a, b]) := by
  have Fa1 := faL a Va Ca
  have Fb1 := faL b Vb Cb
  have lr : ∀ {n}, n < a.1 * b.1 → ((facIn a).2.getD (n / b.1) []).length = (facIn a).1.length := fun h => Fa1.row _ (div_lt h).1
  refine ⟨by rw [fof_len, made_fst], fun p hp => ?_, ?_⟩
  · rw [made_fst] at hp
    rw [fof_row a b hp, fof_webs, List.length_append, List.length_append, lr hp, Fb1.row _ (div_lt hp).2]
  · have P := made_pr Va.plain Vb.plain
    have F := (P.fa Fa1.fa Fb1.fa).other (d' := dW (madeOf [a, b])) (by
      have := distW (made_plain Va.plain Vb.plain) (made_conn Va Vb Ca Cb)
      rwa [made_fst] at this)
    rw [made_fst]
    have e : (factoringOf [a, b]).1.length = (facIn a).1.length + (facIn b).1.length := by rw [fof_webs, List.length_append]
    rw [e]
    have cs : ∀ {i}, i < (facIn a).1.length + (facIn b).1.length → i < (facIn a).1.length ∨ ∃ j, j < (facIn b).1.length ∧ i = (facIn a).1.length + j := fun {i} h => by
      by_cases c : i < (facIn a).1.length
      · exact .inl c
      · exact .inr ⟨i - (facIn a).1.length, by omega, by omega⟩
    refine F.congr (fun i hi => ?_) (fun i hi => ?_) fun p i hp hi => ?_
    · rcases cs hi with h | ⟨j, hj, rfl⟩
      · rw [catN_l _ _ h]
        unfold mF
        rw [fof_webs, getD_app_l h]
      · rw [catN_r']
        unfold mF
        rw [fof_webs, getD_app_r]
    · rcases cs hi with h | ⟨j, hj, rfl⟩
      · rw [catN_l _ _ h]
        unfold aF
        rw [fof_webs, getD_app_l h]
      · rw [catN_r']
        unfold aF
        rw [fof_webs, getD_app_r]
    · rcases cs hi with h | ⟨j, hj, rfl⟩
      · rw [catN_l _ _ h]
        unfold cF
        rw [fof_row a b hp, getD_app_l (by rw [lr hp]; exact h)]
      · rw [catN_r']
        unfold cF
        rw [fof_row a b hp, ← lr hp, getD_app_r]
end M

/-! Parted, followed, joined: cancel tells a naming. -/
namespace M
open Ty (en T3 addL look srt)
open A (Dist Clo Via Lay Fa Pr Iso Told pig pigSur)
theorem set_all {α β : Type} (key : β → Nat) (val : β → α) : ∀ (ps : List β) (l : List α), (ps.map key).Nodup → (∀ p ∈ ps, key p < l.length) →
    (ps.foldl (fun l p => l.set (key p) (val p)) l).length = l.length ∧ (∀ p ∈ ps, (ps.foldl (fun l p => l.set (key p) (val p)) l)[key p]? = some (val p)) ∧ ∀ j, j ∉ ps.map key → (ps.foldl (fun l p => l.set (key p) (val p)) l)[j]? = l[j]?
  | [], l, _, _ => ⟨rfl, (fun p h => by cases h), fun j _ => rfl⟩
  | q :: ps, l, nd, h => by
    rw [List.map_cons, List.nodup_cons] at nd
    have hq := h q (List.mem_cons_self ..)
    have ih := set_all key val ps (l.set (key q) (val q)) nd.2 fun p hp => by
      rw [List.length_set]
      exact h p (List.mem_cons_of_mem _ hp)
    rw [List.foldl_cons]
    refine ⟨ih.1.trans List.length_set, fun p hp => ?_, fun j hj => ?_⟩
    · rcases List.mem_cons.mp hp with e | hp
      · subst e
        rw [ih.2.2 _ nd.1]
        exact List.getElem?_set_self hq
      · exact ih.2.1 p hp
    · rw [List.map_cons, List.mem_cons, not_or] at hj
      rw [ih.2.2 j hj.2]
      exact List.getElem?_set_ne (Ne.symm hj.1)
theorem map_range_len {α : Type} (f : Nat → α) (n : Nat) : ((List.range n).map f).length = n := by simp
theorem getD_map_range {α : Type} (f : Nat → α) {n i : Nat} (h : i < n) (d : α) : ((List.range n).map f).getD i d = f i := by
  rw [List.getD_eq_getElem?_getD, get_map_range _ h]
  rfl
theorem list_eq {xs ys : List Nat} (hl : xs.length = ys.length) (h : ∀ i, i < xs.length → xs.getD i 0 = ys.getD i 0) : xs = ys := by
  apply List.ext_getElem?
  intro i
  by_cases hi : i < xs.length
  · rw [getD_some (d := 0) hi, getD_some (d := 0) (xs := ys) (by omega), h i hi]
  · rw [List.getElem?_eq_none (by omega), List.getElem?_eq_none (by omega)]
end M
namespace A
theorem Fa.m_le {n : Nat} {adj : Nat → Nat → Prop} {d : Nat → Nat → Nat} {k : Nat} {m : Nat → Nat} {a : Nat → Nat → Nat → Prop} {c : Nat → Nat → Nat} (F : Fa n adj d k m a c) (pos : 0 < n) {i : Nat} (hi : i < k) : m i ≤ n := by
  have : ∀ x, ∃ q, x < m i → q < n ∧ c q i = x := fun x => by
    by_cases h : x < m i
    · obtain ⟨q, hq, e, _⟩ := F.change pos hi h
      exact ⟨q, fun _ => ⟨hq, e⟩⟩
    · exact ⟨0, fun z => absurd z h⟩
  exact pig (f := fun x => (this x).choose) (fun x hx => ((this x).choose_spec hx).1) fun x y hx hy e => by
    have h1 := ((this x).choose_spec hx).2
    have h2 := ((this y).choose_spec hy).2
    rw [← h1, ← h2]
    exact congrArg (fun q => c q i) e
end A
namespace M
open Ty (en T3 addL look srt)
open A (Dist Clo Via Lay Fa Pr Iso Told pig pigSur)
section
variable {w : Web} {f : Fac}
theorem FaL.row_mem (F : FaL w f) {p : Nat} (hp : p < w.1) : f.2.getD p [] ∈ f.2 := by
  rw [List.getD_eq_getElem?_getD, List.getElem?_eq_getElem (by rw [F.len]; exact hp)]
  exact List.getElem_mem _
theorem FaL.mem_row (F : FaL w f) {r : List Nat} (h : r ∈ f.2) : ∃ p, p < w.1 ∧ f.2.getD p [] = r := by
  obtain ⟨p, hp⟩ := List.mem_iff_getElem?.mp h
  have := (List.getElem?_eq_some_iff.mp hp).1
  rw [F.len] at this
  refine ⟨p, this, ?_⟩
  rw [List.getD_eq_getElem?_getD, hp]
  rfl
theorem FaL.row_inj (F : FaL w f) {p q : Nat} (hp : p < w.1) (hq : q < w.1) (e : f.2.getD p [] = f.2.getD q []) : p = q :=
  F.fa.inj hp hq fun i _ => by
    unfold cF
    rw [e]
theorem FaL.nodup (F : FaL w f) : f.2.Nodup := by
  have e : f.2 = (List.range f.2.length).map fun i => f.2.getD i [] := by
    apply List.ext_getElem?
    intro i
    by_cases hi : i < f.2.length
    · rw [get_map_range _ hi]
      exact getD_some hi
    · rw [List.getElem?_eq_none (by omega), List.getElem?_eq_none (by simp; omega)]
  rw [e, List.Nodup, List.pairwise_map]
  refine List.Pairwise.imp_of_mem (fun {a b} ha hb hne z => hne (F.row_inj ?_ ?_ z)) List.nodup_range
  · have := List.mem_range.mp ha
    rwa [F.len] at this
  · have := List.mem_range.mp hb
    rwa [F.len] at this
theorem FaL.idx (F : FaL w f) {p : Nat} (hp : p < w.1) : f.2.idxOf (f.2.getD p []) = p := idxOf_getL F.nodup (getD_some (by rw [F.len]; exact hp))
theorem FaL.row_of (F : FaL w f) {r : List Nat} (hl : r.length = f.1.length) (h : ∀ i, i < f.1.length → r.getD i 0 < mF f i) : r ∈ f.2 := by
  obtain ⟨p, hp, e⟩ := F.fa.sur (fun i => r.getD i 0) h
  have : f.2.getD p [] = r := list_eq (by rw [F.row p hp, hl]) fun i hi => by
    rw [F.row p hp] at hi
    exact e i hi
  rw [← this]
  exact F.row_mem hp
theorem baseAt_len {k a : Nat} (h : k < (f.2.getD 0 []).length) : (baseAt f k a).length = (f.2.getD 0 []).length := by
  unfold baseAt
  rw [List.length_append, List.length_append, List.length_take, List.length_drop, List.length_singleton]
  omega
theorem baseAt_get {k a j : Nat} (h : k < (f.2.getD 0 []).length) (hj : j < (f.2.getD 0 []).length) : (baseAt f k a).getD j 0 = if j = k then a else cF f 0 j := by
  unfold baseAt cF
  generalize f.2.getD 0 [] = b at h hj ⊢
  rw [List.getD_eq_getElem?_getD, List.getD_eq_getElem?_getD]
  by_cases c1 : j < k
  · rw [if_neg (by omega), List.append_assoc, List.getElem?_append_left (by rw [List.length_take]; omega), List.getElem?_take, if_pos c1]
  · by_cases c2 : j = k
    · subst c2
      rw [if_pos rfl, List.append_assoc, List.getElem?_append_right (by rw [List.length_take]; omega), List.length_take, show j - min j b.length = 0 by omega]
      rfl
    · rw [if_neg c2, List.getElem?_append_right (by rw [List.length_append, List.length_take, List.length_singleton]; omega), List.length_append, List.length_take, List.length_singleton, List.getElem?_drop]
      rw [show k + 1 + (j - (min k b.length + 1)) = j by omega]
/-- the place of a base row -/
theorem FaL.base (F : FaL w f) (pos : 0 < w.1) {i a : Nat} (hi : i < f.1.length) (ha : a < mF f i) :
    f.2.idxOf (baseAt f i a) < w.1 ∧ f.2.getD (f.2.idxOf (baseAt f i a)) [] = baseAt f i a ∧ cF f (f.2.idxOf (baseAt f i a)) i = a ∧ ∀ j, j < f.1.length → j ≠ i → cF f (f.2.idxOf (baseAt f i a)) j = cF f 0 j := by
  have l0 := F.row 0 pos
  have hb : baseAt f i a ∈ f.2 := F.row_of (by rw [baseAt_len (by omega), l0]) fun j hj => by
    rw [baseAt_get (by omega) (by omega)]
    split
    · rename_i z; rw [z]; exact ha
    · exact F.fa.lt pos hj
  obtain ⟨p, hp, e⟩ := F.mem_row hb
  have ep : f.2.idxOf (baseAt f i a) = p := by rw [← e, F.idx hp]
  rw [ep]
  refine ⟨hp, e, ?_, fun j hj hne => ?_⟩
  · unfold cF
    rw [e, baseAt_get (by omega) (by omega), if_pos rfl]
  · show (f.2.getD p []).getD j 0 = _
    rw [e, baseAt_get (by omega) (by omega), if_neg hne]
variable {w' : Web} {s : Fac} {naming : List Nat} {π : Nat → Nat} {g : Nat → Nat → Nat}
theorem image_at (F : FaL w f) {i a : Nat} (ha : a < mF f i) : (images f s naming i).getD a [] = s.2.getD (naming.getD (f.2.idxOf (baseAt f i a)) 0) [] := by
  unfold images
  exact getD_map_range _ ha []
section
variable (F : FaL w f) (S : FaL w' s) (pos : 0 < w.1) (I : Iso w.1 (adjW w) w'.1 (adjW w') fun p => naming.getD p 0) (T : Told (fun p => naming.getD p 0) w.1 f.1.length (mF f) (aF f) (cF f) (mF s) (aF s) (cF s) π g) (hk : f.1.length = s.1.length)
include F S pos I T hk
theorem unlike_at {i : Nat} (hi : i < f.1.length) : (∀ j ∈ unlikes ((images f s naming i).getD 0 []) ((images f s naming i).getD 1 []), j = π i) ∧ π i ∈ unlikes ((images f s naming i).getD 0 []) ((images f s naming i).getD 1 []) := by
  have two := F.fa.two hi
  have b0 := F.base pos hi (a := 0) (by omega)
  have b1 := F.base pos hi (a := 1) (by omega)
  rw [image_at F (by omega), image_at F (by omega)]
  have l0 := S.row _ (I.lt b0.1)
  have m : ∀ j, j ∈ unlikes (s.2.getD (naming.getD (f.2.idxOf (baseAt f i 0)) 0) []) (s.2.getD (naming.getD (f.2.idxOf (baseAt f i 1)) 0) []) ↔ j < s.1.length ∧ cF s (naming.getD (f.2.idxOf (baseAt f i 0)) 0) j ≠ cF s (naming.getD (f.2.idxOf (baseAt f i 1)) 0) j := fun j => by
    unfold unlikes
    rw [List.mem_filter, List.mem_range, l0]
    unfold cF
    simp
  refine ⟨fun j hj => ?_, (m _).mpr ⟨by rw [← hk]; exact T.lt hi, ?_⟩⟩
  · obtain ⟨h1, h2⟩ := (m j).mp hj
    rw [← hk] at h1
    obtain ⟨l, hl, e⟩ := pigSur (fun i hi => T.lt hi) (fun i j hi hj e => T.inj hi hj e) h1
    subst e
    by_cases c : l = i
    · rw [c]
    · exfalso
      refine h2 ?_
      have e0 := T.led b0.1 hl
      have e1 := T.led b1.1 hl
      rw [b0.2.2.2 l hl c] at e0
      rw [b1.2.2.2 l hl c] at e1
      exact e0.trans e1.symm
  · have e0 := T.led b0.1 hi
    have e1 := T.led b1.1 hi
    rw [b0.2.2.1] at e0
    rw [b1.2.2.1] at e1
    intro z
    have := (T.iso hi).inj (p := 0) (q := 1) (by omega) (by omega) (e0.symm.trans (z.trans e1))
    omega
theorem turn_at {i : Nat} (hi : i < f.1.length) : turnAt f s naming i = π i := by
  obtain ⟨h1, h2⟩ := unlike_at F S pos I T hk hi
  unfold turnAt unlikeAt
  exact h1 _ (headD_mem (List.ne_nil_of_mem h2))
theorem part_at {i : Nat} (hi : i < f.1.length) : partAt f s naming i = (List.range (mF f i)).map (g i) := by
  unfold partAt
  rw [turn_at F S pos I T hk hi]
  unfold images
  rw [List.map_map]
  refine List.map_congr_left fun a ha => ?_
  have ha : a < mF f i := List.mem_range.mp ha
  have b := F.base pos hi ha
  have e := T.led b.1 hi
  rw [b.2.2.1] at e
  exact e
theorem parted : partedBy f s naming = ((List.range f.1.length).map π, (List.range f.1.length).map fun i => (List.range (mF f i)).map (g i)) := by
  unfold partedBy
  congr 1
  · exact List.map_congr_left fun i hi => turn_at F S pos I T hk (List.mem_range.mp hi)
  · exact List.map_congr_left fun i hi => part_at F S pos I T hk (List.mem_range.mp hi)
theorem part_pre (h40 : w.1 ≤ 1000) (hf : f.1.length ≤ 1000) (hn : naming.length = w.1) : PartPre f s naming := by
  have wat : ∀ {k : Nat} {v : Web}, f.1[k]? = some v → k < f.1.length ∧ v.1 = mF f k := fun {k v} h => by
    refine ⟨(List.getElem?_eq_some_iff.mp h).1, ?_⟩
    unfold mF
    rw [List.getD_eq_getElem?_getD, h]
    rfl
  refine ⟨F.nodup, by rw [F.len]; exact h40, by rw [F.len]; exact pos, hf, fun k v h => ?_, fun k v a h ha => ?_, fun r hr => ?_, by rw [F.row 0 pos]; exact hf, ⟨s.1.length, by omega, fun r hr => ?_⟩, fun k v h => ?_⟩
  · obtain ⟨h1, h2⟩ := wat h
    have := F.fa.two h1
    have := F.fa.m_le pos h1
    omega
  · obtain ⟨h1, h2⟩ := wat h
    have b := F.base pos h1 (a := a) (by omega)
    rw [← b.2.1]
    exact F.row_mem b.1
  · obtain ⟨p, hp, e⟩ := F.mem_row hr
    rw [← e, F.idx hp, hn, S.len]
    exact ⟨hp, I.lt hp⟩
  · obtain ⟨p, hp, e⟩ := S.mem_row hr
    rw [← e]
    exact S.row p hp
  · exact List.ne_nil_of_mem (unlike_at F S pos I T hk (wat h).1).2
end
end
/-! ### followed -/
def it (π : Nat → Nat) : Nat → Nat → Nat
  | 0, x => x
  | j + 1, x => it π j (π x)
theorem it_add (π : Nat → Nat) : ∀ (i j x : Nat), it π (i + j) x = it π i (it π j x)
  | i, 0, x => rfl
  | i, j + 1, x => it_add π i j (π x)
theorem it_lt {π : Nat → Nat} {K : Nat} (lt : ∀ {i}, i < K → π i < K) : ∀ {j x : Nat}, x < K → it π j x < K
  | 0, _, h => h
  | j + 1, _, h => it_lt lt (j := j) (lt h)
theorem it_inj {π : Nat → Nat} {K : Nat} (lt : ∀ {i}, i < K → π i < K) (inj : ∀ {i j}, i < K → j < K → π i = π j → i = j) : ∀ {j x y : Nat}, x < K → y < K → it π j x = it π j y → x = y
  | 0, _, _, _, _, e => e
  | j + 1, _, _, hx, hy, e => inj hx hy (it_inj lt inj (j := j) (lt hx) (lt hy) e)
theorem it_back {π : Nat → Nat} {K : Nat} (lt : ∀ {i}, i < K → π i < K) (inj : ∀ {i j}, i < K → j < K → π i = π j → i = j) {x : Nat} (hx : x < K) : ∃ j, j < K ∧ it π j (π x) = x := by
  refine Classical.byContradiction fun z => ?_
  have dist : ∀ a b, a < b → b ≤ K → it π a x = it π b x → False := fun a b h hb e => by
    have e2 : it π b x = it π a (it π (b - a) x) := by
      rw [← it_add]
      congr 1
      omega
    rw [e2] at e
    have e3 := it_inj lt inj (j := a) hx (it_lt lt hx) e
    refine z ⟨b - a - 1, by omega, ?_⟩
    have : it π (b - a - 1 + 1) x = x := by
      rw [show b - a - 1 + 1 = b - a by omega]
      exact e3.symm
    exact this
  have := pig (n := K + 1) (m := K) (f := fun j => it π j x) (fun i _ => it_lt lt hx) fun i j hi hj e => by
    rcases Nat.lt_trichotomy i j with c | c | c
    · exact absurd e fun e => dist i j c (by omega) e
    · exact c
    · exact absurd e fun e => dist j i c (by omega) e.symm
  omega
/-- first returns tell places apart -/
theorem ret_inj {π : Nat → Nat} {K o : Nat} (lt : ∀ {i}, i < K → π i < K) (inj : ∀ {i j}, i < K → j < K → π i = π j → i = j) (ho : o ≤ K) {i i' j j' : Nat} (hi : i < o) (hi' : i' < o)
    (h : ∀ l, l < j → o ≤ it π l (π i)) (h' : ∀ l, l < j' → o ≤ it π l (π i')) (e : it π j (π i) = it π j' (π i')) : i = i' := by
  have one : ∀ {i i' j j' : Nat}, i < o → i' < o → (∀ l, l < j' → o ≤ it π l (π i')) → it π j (π i) = it π j' (π i') → j ≤ j' → i = i' := fun {i i' j j'} hi hi' h' e hj => by
    have e1 : it π (j + 1) i = it π (j + 1) (it π (j' - j) i') := by
      rw [← it_add, show j + 1 + (j' - j) = j' + 1 by omega]
      exact e
    have e2 := it_inj lt inj (j := j + 1) (x := i) (by omega) (it_lt lt (by omega)) e1
    cases c : j' - j with
    | zero =>
      rw [c] at e2
      exact e2
    | succ d =>
      rw [c] at e2
      have := h' d (by omega)
      have e3 : i = it π d (π i') := e2
      omega
  by_cases c : j ≤ j'
  · exact one hi hi' h' e c
  · exact (one hi' hi h e.symm (by omega)).symm
section
variable {f s : Fac} {K o : Nat} {π : Nat → Nat} {g : Nat → Nat → Nat}
/-- what is found on the way: a naming of factors -/
structure Fnd (f s : Fac) (i to : Nat) (found : List Nat) : Prop where
  len : found.length = mF f i
  iso : Iso (mF f i) (aF f i) (mF s to) (aF s to) fun x => found.getD x 0
theorem Fnd.lt {i to : Nat} {found : List Nat} (h : Fnd f s i to found) {p : Nat} (hp : p ∈ found) : p < mF s to := by
  obtain ⟨k, hk⟩ := List.mem_iff_getElem?.mp hp
  have hl := (List.getElem?_eq_some_iff.mp hk).1
  have := h.iso.lt (p := k) (by rw [← h.len]; exact hl)
  rw [List.getD_eq_getElem?_getD, hk] at this
  exact this
section
variable (hlt : ∀ {i}, i < K → π i < K) (hiso : ∀ {i}, i < K → Iso (mF f i) (aF f i) (mF s (π i)) (aF s (π i)) (g i)) (hsame : ∀ {i}, o ≤ i → i < K → mF s i = mF f i ∧ aF s i = aF f i) (hm : ∀ {i}, i < K → mF f i ≤ 1000)
include hlt hiso hsame hm
theorem follow_spec {i : Nat} (hi : i < K) : ∀ (n to : Nat) (found : List Nat), to < K → Fnd f s i to found → (∃ j, j ≤ n ∧ it π j to < o) →
    FollowOk ((List.range K).map π) ((List.range K).map fun i => (List.range (mF f i)).map (g i)) o o n to found ∧
      ∃ j, (follow ((List.range K).map π) ((List.range K).map fun i => (List.range (mF f i)).map (g i)) o o n to found).1 = it π j to ∧ it π j to < o ∧ (∀ l, l < j → o ≤ it π l to) ∧
        Fnd f s i (it π j to) (follow ((List.range K).map π) ((List.range K).map fun i => (List.range (mF f i)).map (g i)) o o n to found).2
  | 0, to, found, _, hf, ⟨j, hj, h⟩ => by
    have : j = 0 := by omega
    subst this
    exact ⟨h, 0, rfl, h, (fun l hl => by omega), hf⟩
  | n + 1, to, found, hto, hf, ⟨j, hj, h⟩ => by
    by_cases c : o ≤ to
    · cases j with
      | zero =>
        have h : to < o := h
        omega
      | succ j =>
        have hs := hsame c hto
        have ei : o + to - o = to := by omega
        have et : ((List.range K).map π).getD (o + to - o) 0 = π to := by rw [ei]; exact getD_map_range π hto 0
        have ep : ((List.range K).map fun i => (List.range (mF f i)).map (g i)).getD (o + to - o) [] = (List.range (mF f to)).map (g to) := by rw [ei]; exact getD_map_range _ hto []
        have eb : behind found ((List.range (mF f to)).map (g to)) = found.map (g to) := by
          unfold behind
          refine List.map_congr_left fun p hp => ?_
          have := hf.lt hp
          rw [hs.1] at this
          exact getD_map_range _ this 0
        have hf2 : Fnd f s i (π to) (found.map (g to)) := by
          refine ⟨by rw [List.length_map]; exact hf.len, ?_⟩
          have I1 := hf.iso
          rw [hs.1, hs.2] at I1
          refine (I1.comp (hiso hto)).congr fun p hp => ?_
          exact (getD_map (g to) (by rw [hf.len]; exact hp) 0 0).symm
        have ih := follow_spec hi n (π to) (found.map (g to)) (hlt hto) hf2 ⟨j, by omega, h⟩
        constructor
        · refine fun _ => ⟨⟨by rw [ei, map_range_len]; exact hto, by rw [ei, map_range_len]; exact hto, fun p hp => ?_, ?_⟩, ?_⟩
          · rw [ep, map_range_len, ← hs.1]
            exact hf.lt hp
          · rw [hf.len]
            exact hm hi
          · rw [et, ep, eb]
            exact ih.1
        · obtain ⟨j2, h1, h2, h3, h4⟩ := ih.2
          have e : follow ((List.range K).map π) ((List.range K).map fun i => (List.range (mF f i)).map (g i)) o o (n + 1) to found = follow ((List.range K).map π) ((List.range K).map fun i => (List.range (mF f i)).map (g i)) o o n (π to) (found.map (g to)) := by
            show (if o ≤ to then _ else _) = _
            rw [if_pos c, et, ep, eb]
          rw [e]
          refine ⟨j2 + 1, h1, h2, fun l hl => ?_, h4⟩
          cases l with
          | zero => exact c
          | succ l => exact h3 l (by omega)
    · refine ⟨fun z => absurd z c, 0, ?_, by show to < o; omega, (fun l hl => by omega), ?_⟩
      · show (if o ≤ to then _ else _ : Nat × List Nat).1 = to
        rw [if_neg c]
      · show Fnd f s i to (if o ≤ to then _ else _ : Nat × List Nat).2
        rw [if_neg c]
        exact hf
end
end
/-! ### joined -/
section
variable {w w' : Web} {f s : Fac} {σ : Nat → Nat} {F : Nat → List Nat}
theorem image_get {o : Nat} (lt : ∀ {i}, i < o → σ i < o) (inj : ∀ {i j}, i < o → j < o → σ i = σ j → i = j) (row : List Nat) :
    (imageOf ((List.range o).map σ) ((List.range o).map F) row).length = o ∧ ∀ i, i < o → (imageOf ((List.range o).map σ) ((List.range o).map F) row).getD (σ i) 0 = (F i).getD (row.getD i 0) 0 := by
  have e : en ((List.range o).map σ) = (List.range o).map fun i => (i, σ i) := by
    unfold en
    rw [map_range_len]
    apply List.ext_getElem?
    intro i
    by_cases hi : i < o
    · rw [get_map_range (fun i => (i, σ i)) hi]
      exact List.getElem?_zip_eq_some.mpr ⟨List.getElem?_range hi, get_map_range σ hi⟩
    · rw [List.getElem?_eq_none (by simp; omega), List.getElem?_eq_none (by simp; omega)]
  have g := set_all (fun p : Nat × Nat => p.2) (fun p => (((List.range o).map F).getD p.1 []).getD (row.getD p.1 0) 0) (en ((List.range o).map σ)) (List.replicate ((List.range o).map σ).length 0) (by
    rw [e, List.map_map, List.Nodup, List.pairwise_map]
    exact List.Pairwise.imp_of_mem (fun {a b} ha hb hne z => hne (inj (List.mem_range.mp ha) (List.mem_range.mp hb) z)) List.nodup_range) fun p hp => by
    rw [e] at hp
    obtain ⟨i, hi, e2⟩ := List.mem_map.mp hp
    rw [← e2, List.length_replicate, map_range_len]
    exact lt (List.mem_range.mp hi)
  refine ⟨g.1.trans (by rw [List.length_replicate, map_range_len]), fun i hi => ?_⟩
  have := g.2.1 (i, σ i) (by rw [e]; exact List.mem_map.mpr ⟨i, List.mem_range.mpr hi, rfl⟩)
  unfold imageOf
  rw [List.getD_eq_getElem?_getD, this]
  show (((List.range o).map F).getD i []).getD (row.getD i 0) 0 = _
  rw [getD_map_range F hi]
theorem joined (Ff : FaL w f) (S : FaL w' s) (V : Plain w) (V' : Plain w') (hk : f.1.length = s.1.length) (h1 : w.1 ≤ 1000) (h2 : w'.1 ≤ 1000) (h3 : f.1.length ≤ 1000) (lt : ∀ {i}, i < f.1.length → σ i < f.1.length) (inj : ∀ {i j}, i < f.1.length → j < f.1.length → σ i = σ j → i = j)
    (hF : ∀ {i}, i < f.1.length → Fnd f s i (σ i) (F i)) : JoinPre f s ((List.range f.1.length).map σ, (List.range f.1.length).map F) ∧ IsNaming w w' (joinedBy f s ((List.range f.1.length).map σ, (List.range f.1.length).map F)) := by
  have im := fun row => image_get (σ := σ) (F := F) (o := f.1.length) lt inj row
  have mem : ∀ {p}, p < w.1 → imageOf ((List.range f.1.length).map σ) ((List.range f.1.length).map F) (f.2.getD p []) ∈ s.2 := fun {p} hp => by
    refine S.row_of (by rw [(im _).1, hk]) fun j hj => ?_
    rw [← hk] at hj
    obtain ⟨i, hi, e⟩ := pigSur (fun i hi => lt hi) (fun i j hi hj e => inj hi hj e) hj
    subst e
    rw [(im _).2 i hi]
    exact (hF hi).iso.lt (Ff.fa.lt hp hi)
  constructor
  · refine ⟨S.nodup, ⟨by rw [S.len]; exact h2, by rw [Ff.len]; exact h1⟩, by rw [map_range_len]; exact h3, fun t ht => ?_, fun k hk2 => ?_, fun row hr => ?_⟩
    · obtain ⟨i, hi, e⟩ := List.mem_map.mp ht
      rw [← e, map_range_len]
      exact lt (List.mem_range.mp hi)
    · rw [map_range_len] at hk2
      refine ⟨F k, get_map_range F hk2, fun row hr => ?_⟩
      obtain ⟨p, hp, e⟩ := Ff.mem_row hr
      refine ⟨row.getD k 0, getD_some (by rw [← e, Ff.row p hp]; exact hk2), ?_⟩
      rw [(hF hk2).len, ← e]
      exact Ff.fa.lt hp hk2
    · obtain ⟨p, hp, e⟩ := Ff.mem_row hr
      rw [← e]
      exact mem hp
  · have jl : (joinedBy f s ((List.range f.1.length).map σ, (List.range f.1.length).map F)).length = w.1 := by
      unfold joinedBy
      rw [List.length_map, Ff.len]
    have jg : ∀ {p}, p < w.1 → (joinedBy f s ((List.range f.1.length).map σ, (List.range f.1.length).map F)).getD p 0 = s.2.idxOf (imageOf ((List.range f.1.length).map σ) ((List.range f.1.length).map F) (f.2.getD p [])) := fun {p} hp => by
      unfold joinedBy
      exact getD_map _ (by rw [Ff.len]; exact hp) [] 0
    have key : ∀ {p}, p < w.1 → (joinedBy f s ((List.range f.1.length).map σ, (List.range f.1.length).map F)).getD p 0 < w'.1 ∧ s.2.getD ((joinedBy f s ((List.range f.1.length).map σ, (List.range f.1.length).map F)).getD p 0) [] = imageOf ((List.range f.1.length).map σ) ((List.range f.1.length).map F) (f.2.getD p []) := fun {p} hp => by
      obtain ⟨q, hq, e⟩ := S.mem_row (mem hp)
      rw [jg hp, ← e, S.idx hq]
      exact ⟨hq, rfl⟩
    have SF := S.fa
    rw [← hk] at SF
    refine namingOf V V' jl (Ff.fa.join SF (π := σ) (f := fun i x => (F i).getD x 0) (fun p hp => (key hp).1) ⟨lt, inj, fun {p i} hp hi => ?_, fun {i} hi => (hF hi).iso⟩)
    show (s.2.getD _ []).getD _ 0 = _
    rw [(key hp).2, (im _).2 i hi]
    rfl
end
/-! ### cancel -/
theorem cancel_ok {one other third : Web} {naming : List Nat} (V1 : Valid one) (V2 : Valid other) (V3 : Valid third) (C1 : Conn one) (C2 : Conn other) (C3 : Conn third) (F1 : FitPre [one, third]) (F2 : FitPre [other, third])
    (N : IsNaming (madeOf [one, third]) (madeOf [other, third]) naming) : CancelPre one other third naming ∧ IsNaming one other (cancel one other third naming) := by
  have P1 := made_valid V1 V3 F1
  have P2 := made_valid V2 V3 F2
  have Ff := fof_fa V1 V3 C1 C3
  have S := fof_fa V2 V3 C2 C3
  have Fo := faL one V1 C1
  have Ft := faL other V2 C2
  have I := isoOf P1.plain P2.plain N
  obtain ⟨hk, π, g, T⟩ := Ff.fa.told S.fa I
  have pos : 0 < (madeOf [one, third]).1 := by have := P1.pos; omega
  have le1 := P1.le
  have k1 : (facIn one).1.length ≤ 120 := by rw [facIn_len]; have := classesIn_len one; have := V1.few; omega
  have k3 : (facIn third).1.length ≤ 120 := by rw [facIn_len]; have := classesIn_len third; have := V3.few; omega
  have ek : (factoringOf [one, third]).1.length = (facIn one).1.length + (facIn third).1.length := by rw [fof_webs, List.length_append]
  have ek2 : (factoringOf [other, third]).1.length = (facIn other).1.length + (facIn third).1.length := by rw [fof_webs, List.length_append]
  have eo : (facIn one).1.length = (facIn other).1.length := by omega
  have ep := parted Ff S pos I T hk
  have pp := part_pre Ff S pos I T hk (by omega) (by omega) (N.len.trans N.places.symm)
  have same : ∀ {i}, (facIn one).1.length ≤ i → i < (factoringOf [one, third]).1.length → mF (factoringOf [other, third]) i = mF (factoringOf [one, third]) i ∧ aF (factoringOf [other, third]) i = aF (factoringOf [one, third]) i := fun {i} h1 h2 => by
    obtain ⟨j, rfl⟩ := Nat.exists_eq_add_of_le h1
    have : (factoringOf [other, third]).1.getD ((facIn one).1.length + j) (0, []) = (factoringOf [one, third]).1.getD ((facIn one).1.length + j) (0, []) := by
      rw [fof_webs, fof_webs, getD_app_r, eo, getD_app_r]
    unfold mF aF
    rw [this]
    exact ⟨rfl, rfl⟩
  have own : ∀ {i}, i < (facIn one).1.length → mF (factoringOf [one, third]) i = mF (facIn one) i ∧ aF (factoringOf [one, third]) i = aF (facIn one) i := fun {i} h => by
    unfold mF aF
    rw [fof_webs, getD_app_l h]
    exact ⟨rfl, rfl⟩
  have late : ∀ {i}, i < (facIn other).1.length → mF (factoringOf [other, third]) i = mF (facIn other) i ∧ aF (factoringOf [other, third]) i = aF (facIn other) i := fun {i} h => by
    unfold mF aF
    rw [fof_webs, getD_app_l h]
    exact ⟨rfl, rfl⟩
  have start : ∀ {i}, i < (factoringOf [one, third]).1.length → ((List.range (factoringOf [one, third]).1.length).map π).getD i 0 = π i ∧ ((List.range (factoringOf [one, third]).1.length).map fun i => (List.range (mF (factoringOf [one, third]) i)).map (g i)).getD i [] = (List.range (mF (factoringOf [one, third]) i)).map (g i) := fun {i} hi => ⟨getD_map_range π hi 0, getD_map_range _ hi []⟩
  have fs : ∀ {i}, i < (facIn one).1.length → _ := fun {i} hi => follow_spec (f := factoringOf [one, third]) (s := factoringOf [other, third]) (K := (factoringOf [one, third]).1.length) (o := (facIn one).1.length) (π := π) (g := g) T.lt T.iso same (fun {i} hi => by
      have := Ff.fa.m_le pos hi
      omega) (i := i) (by omega) (factoringOf [one, third]).1.length (π i) ((List.range (mF (factoringOf [one, third]) i)).map (g i)) (T.lt (by omega)) ⟨map_range_len _ _, (T.iso (by omega)).congr fun p hp => (getD_map_range _ hp 0).symm⟩ (by
      obtain ⟨j, hj, e⟩ := it_back (K := (factoringOf [one, third]).1.length) T.lt T.inj (x := i) (by omega)
      exact ⟨j, by omega, by omega⟩)
  generalize hr : (fun i => followed (partedBy (factoringOf [one, third]) (factoringOf [other, third]) naming) i (facIn one).1.length (facIn other).1.length) = r
  have rr : ∀ {i}, i < (facIn one).1.length → ∃ j, (r i).1 = it π j (π i) ∧ it π j (π i) < (facIn one).1.length ∧ (∀ l, l < j → (facIn one).1.length ≤ it π l (π i)) ∧ Fnd (factoringOf [one, third]) (factoringOf [other, third]) i (it π j (π i)) (r i).2 := fun {i} hi => by
    obtain ⟨j, h1, h2, h3, h4⟩ := (fs hi).2
    have e : r i = follow ((List.range (factoringOf [one, third]).1.length).map π) ((List.range (factoringOf [one, third]).1.length).map fun i => (List.range (mF (factoringOf [one, third]) i)).map (g i)) (facIn one).1.length (facIn one).1.length (factoringOf [one, third]).1.length (π i) ((List.range (mF (factoringOf [one, third]) i)).map (g i)) := by
      rw [← hr, ep]
      unfold followed
      simp only
      rw [(start (i := i) (by omega)).1, (start (i := i) (by omega)).2, map_range_len, ← eo]
    rw [e]
    exact ⟨j, h1, h2, h3, h4⟩
  have ends : endsOfParts (partedBy (factoringOf [one, third]) (factoringOf [other, third]) naming) (facIn one).1.length (facIn other).1.length = (List.range (facIn one).1.length).map r := by
    unfold endsOfParts
    rw [← hr]
  have e1 : (endsOfParts (partedBy (factoringOf [one, third]) (factoringOf [other, third]) naming) (facIn one).1.length (facIn other).1.length).map (·.1) = (List.range (facIn one).1.length).map fun i => (r i).1 := by
    rw [ends, List.map_map]
    rfl
  have e2 : (endsOfParts (partedBy (factoringOf [one, third]) (factoringOf [other, third]) naming) (facIn one).1.length (facIn other).1.length).map (·.2) = (List.range (facIn one).1.length).map fun i => (r i).2 := by
    rw [ends, List.map_map]
    rfl
  have j := joined (σ := fun i => (r i).1) (F := fun i => (r i).2) Fo Ft V1.plain V2.plain eo (by have := V1.le; omega) (by have := V2.le; omega) (by omega) (fun {i} hi => by
    obtain ⟨j, h1, h2, _⟩ := rr hi
    show (r i).1 < _
    rw [h1]
    exact h2) (fun {i i'} hi hi' e => by
    obtain ⟨j, h1, h2, h3, _⟩ := rr hi
    obtain ⟨j', h1', h2', h3', _⟩ := rr hi'
    have e : (r i).1 = (r i').1 := e
    rw [h1, h1'] at e
    exact ret_inj T.lt T.inj (by omega) hi hi' h3 h3' e) fun {i} hi => by
    obtain ⟨j, h1, h2, h3, h4⟩ := rr hi
    have o1 := own hi
    have o2 := late (i := (r i).1) (by rw [h1]; omega)
    rw [← h1] at h4
    refine ⟨h4.len.trans o1.1, ?_⟩
    have := h4.iso
    rw [o1.1, o1.2, o2.1, o2.2] at this
    exact this
  refine ⟨⟨facPre one V1 C1, facPre other V2 C2, facPre third V3 C3, C1, C2, C3, F1, F2, P1, P2, N, pp, fun k hk2 => ⟨by omega, ?_⟩, by rw [e1, e2]; exact j.1⟩, ?_⟩
  · rw [ep]
    simp only
    rw [(start (i := k) (by omega)).1, (start (i := k) (by omega)).2, ← eo]
    exact (fs hk2).1
  · unfold cancel
    rw [e1, e2]
    exact j.2
end M

/-! What the last checks ask follows from a naming of the products. -/
namespace A
theorem Pr.iso {n : Nat} {adj : Nat → Nat → Prop} {n1 : Nat} {adj1 : Nat → Nat → Prop} {n2 : Nat} {adj2 : Nat → Nat → Prop} {fs sn : Nat → Nat} {pr : Nat → Nat → Nat}
    {n' : Nat} {adj' : Nat → Nat → Prop} {n1' : Nat} {adj1' : Nat → Nat → Prop} {n2' : Nat} {adj2' : Nat → Nat → Prop} {fs' sn' : Nat → Nat} {pr' : Nat → Nat → Nat} {φ ψ : Nat → Nat}
    (P : Pr n adj n1 adj1 n2 adj2 fs sn pr) (P' : Pr n' adj' n1' adj1' n2' adj2' fs' sn' pr') (I : Iso n1 adj1 n1' adj1' φ) (J : Iso n2 adj2 n2' adj2' ψ) : Iso n adj n' adj' fun p => pr' (φ (fs p)) (ψ (sn p)) := by
  have a := fun {p} (h : p < n) => I.lt (P.f h)
  have b := fun {p} (h : p < n) => J.lt (P.s h)
  refine ⟨fun h => P'.p (a h) (b h), fun {p q} hp hq e => ?_, fun {q} hq => ?_, fun {p q} hp hq => ?_⟩
  · have e1 := congrArg fs' e
    have e2 := congrArg sn' e
    rw [P'.fp (a hp) (b hp), P'.fp (a hq) (b hq)] at e1
    rw [P'.sp (a hp) (b hp), P'.sp (a hq) (b hq)] at e2
    exact P.eq hp hq (I.inj (P.f hp) (P.f hq) e1) (J.inj (P.s hp) (P.s hq) e2)
  · obtain ⟨x, hx, e1⟩ := I.sur (P'.f hq)
    obtain ⟨y, hy, e2⟩ := J.sur (P'.s hq)
    refine ⟨pr x y, P.p hx hy, ?_⟩
    rw [P.fp hx hy, P.sp hx hy, e1, e2, P'.pp hq]
  · rw [P.adj hp hq, P'.adj (P'.p (a hp) (b hp)) (P'.p (a hq) (b hq)), P'.fp (a hp) (b hp), P'.fp (a hq) (b hq), P'.sp (a hp) (b hp), P'.sp (a hq) (b hq), ← I.tied (P.f hp) (P.f hq), ← J.tied (P.s hp) (P.s hq)]
    have e1 : φ (fs p) = φ (fs q) ↔ fs p = fs q := ⟨I.inj (P.f hp) (P.f hq), fun e => by rw [e]⟩
    have e2 : ψ (sn p) = ψ (sn q) ↔ sn p = sn q := ⟨J.inj (P.s hp) (P.s hq), fun e => by rw [e]⟩
    rw [e1, e2]
end A
namespace M
open Ty (en)
open A (Iso Pr)
theorem both_len (f : List Nat) (m : Nat) : (bothOf f m).length = f.length * m := by
  unfold bothOf
  induction f with
  | nil => simp
  | cons p f ih =>
    rw [List.flatMap_cons, List.length_append, ih, map_range_len, List.length_cons, Nat.succ_mul, Nat.add_comm]
theorem both_get (m : Nat) : ∀ (f : List Nat) {j : Nat}, j < f.length * m → (bothOf f m).getD j 0 = f.getD (j / m) 0 * m + j % m
  | [], j, h => by simp at h
  | p :: f, j, h => by
    have hm : 0 < m := Nat.pos_of_ne_zero fun z => by
      rw [z, Nat.mul_zero] at h
      omega
    have e : bothOf (p :: f) m = ((List.range m).map fun a => p * m + a) ++ bothOf f m := rfl
    rw [e]
    by_cases c : j < m
    · rw [getD_app_l (by rw [map_range_len]; exact c), getD_map_range _ c, Nat.div_eq_of_lt c, Nat.mod_eq_of_lt c]
      rfl
    · obtain ⟨i, rfl⟩ := Nat.exists_eq_add_of_le (Nat.le_of_not_lt c)
      have h2 : ((List.range m).map fun a => p * m + a).length = m := map_range_len _ _
      have : (((List.range m).map fun a => p * m + a) ++ bothOf f m).getD (m + i) 0 = (bothOf f m).getD i 0 := by
        have := getD_app_r (xs := (List.range m).map fun a => p * m + a) (ys := bothOf f m) (i := i) (d := 0)
        rwa [h2] at this
      rw [this, both_get m f (by
        rw [List.length_cons, Nat.succ_mul] at h
        omega), Nat.add_mod_left, Nat.add_div_left _ hm]
      rfl
section
variable {one other third : Web}
theorem both_naming {f : List Nat} (V1 : Plain one) (V2 : Plain other) (V3 : Plain third) (N : IsNaming one other f) : IsNaming (madeOf [one, third]) (madeOf [other, third]) (bothOf f third.1) := by
  have I := (made_pr V1 V3).iso (made_pr V2 V3) (isoOf V1 V2 N) (Iso.id third.1 (adjW third))
  refine namingOf (made_plain V1 V3) (made_plain V2 V3) (by rw [both_len, made_fst, N.len, N.places]) ?_
  rw [made_fst, made_fst]
  exact I.congr fun p hp => (both_get third.1 f (by rw [N.len, ← N.places]; exact hp)).symm
theorem range_get {n p : Nat} (h : p < n) : (List.range n).getD p 0 = p := by
  rw [List.getD_eq_getElem?_getD, List.getElem?_range h]
  rfl
theorem self_naming {w : Web} (V : Plain w) : IsNaming w w (List.range w.1) :=
  namingOf V V (by simp) ((Iso.id w.1 (adjW w)).congr fun p hp => (range_get hp).symm)
theorem point_valid : Valid point := ⟨by decide, by decide, by decide, (fun t h => by cases h), List.Pairwise.nil⟩
theorem point_conn : Conn point := fun q hq => by
  have hq : q < 1 := hq
  have : q = 0 := by omega
  subst this
  exact Rch.refl 0
theorem point_naming {f : List Nat} (V1 : Plain one) (V2 : Plain other) (N : IsNaming one other f) : IsNaming (madeOf [one, point]) (madeOf [other, point]) f := by
  have V3 := point_valid.plain
  have I := (made_pr V1 V3).iso (made_pr V2 V3) (isoOf V1 V2 N) (Iso.id point.1 (adjW point))
  refine namingOf (made_plain V1 V3) (made_plain V2 V3) (by rw [made_fst, N.len, N.places, Nat.mul_one]) ?_
  rw [made_fst, made_fst]
  refine I.congr fun p hp => ?_
  simp only [Nat.div_one, Nat.mod_one, Nat.mul_one, Nat.add_zero]
theorem point_fit (V : Valid one) : FitPre [one, point] := by
  refine ⟨by show 2 ≤ 12; omega, fun w hw => ?_, ?_, ?_⟩
  · rcases List.mem_cons.mp hw with e | hw
    · rw [e]; exact V
    · rw [List.mem_singleton.mp hw]; exact point_valid
  · rw [pl_two, Nat.mul_one]
    exact V.le
  · rw [ties_two V.pos (by decide)]
    have := V.few
    simp only [List.length_nil]
    omega
theorem point_fit' (V : Valid one) : FitPre [point, one] := by
  refine ⟨by show 2 ≤ 12; omega, fun w hw => ?_, ?_, ?_⟩
  · rcases List.mem_cons.mp hw with e | hw
    · rw [e]; exact point_valid
    · rw [List.mem_singleton.mp hw]; exact V
  · rw [pl_two, Nat.one_mul]
    exact V.le
  · rw [ties_two (by decide) V.pos]
    have := V.few
    simp only [List.length_nil]
    omega
theorem fit_swap {a b : Web} (F : FitPre [a, b]) : FitPre [b, a] := by
  have Va := F.ok a (by simp)
  have Vb := F.ok b (by simp)
  have h1 := F.places
  have h2 := F.ties
  rw [pl_two] at h1
  rw [ties_two Va.pos Vb.pos] at h2
  refine ⟨by show 2 ≤ 12; omega, fun w hw => F.ok w ?_, by rw [pl_two, Nat.mul_comm]; exact h1, by rw [ties_two Vb.pos Va.pos]; omega⟩
  rcases List.mem_cons.mp hw with e | hw
  · rw [e]; simp
  · rw [List.mem_singleton.mp hw]; simp
/-! ### turned about -/
theorem spot_iso {a b : Web} (Va : Plain a) (Vb : Plain b) : Iso (madeOf [a, b]).1 (adjW (madeOf [a, b])) (madeOf [b, a]).1 (adjW (madeOf [b, a])) (spotOf b.1 a.1) := by
  have I := (made_pr Va Vb).iso (made_pr Vb Va).swap (Iso.id a.1 (adjW a)) (Iso.id b.1 (adjW b))
  rw [made_fst, made_fst]
  exact I.congr fun p _ => rfl
theorem en_map_fst {α : Type} (xs : List α) : (en xs).map (·.1) = List.range xs.length := by
  unfold en
  rw [List.map_fst_zip (by simp)]
theorem about_naming {n : List Nat} (V1 : Plain one) (V2 : Plain other) (V3 : Plain third) (N : IsNaming (madeOf [one, third]) (madeOf [other, third]) n) : (∀ j, j < n.length → spotOf third.1 one.1 j < n.length) ∧ IsNaming (madeOf [third, one]) (madeOf [third, other]) (turnAbout n one.1 other.1 third.1) := by
  have S := spot_iso V1 V3
  have S' := spot_iso V2 V3
  have I := isoOf (made_plain V1 V3) (made_plain V2 V3) N
  have nl : n.length = (madeOf [one, third]).1 := N.len.trans N.places.symm
  have e1 : (madeOf [third, one]).1 = (madeOf [one, third]).1 := by rw [made_fst, made_fst, Nat.mul_comm]
  have lt : ∀ j, j < n.length → spotOf third.1 one.1 j < n.length := fun j hj => by
    rw [nl] at hj ⊢
    rw [← e1]
    exact S.lt hj
  refine ⟨lt, ?_⟩
  obtain ⟨ψ, J, j1, j2⟩ := S.inv
  have g := set_all (fun p : Nat × Nat => spotOf third.1 one.1 p.1) (fun p => spotOf third.1 other.1 p.2) (en n) (List.replicate n.length 0) (by
    rw [show (fun p : Nat × Nat => spotOf third.1 one.1 p.1) = spotOf third.1 one.1 ∘ fun p : Nat × Nat => p.1 from rfl, ← List.map_map, en_map_fst, List.Nodup, List.pairwise_map]
    exact List.Pairwise.imp_of_mem (fun {a b} ha hb hne z => hne (S.inj (by rw [← nl]; exact List.mem_range.mp ha) (by rw [← nl]; exact List.mem_range.mp hb) z)) List.nodup_range) fun p hp => by
    rw [List.length_replicate]
    exact lt _ (List.getElem?_eq_some_iff.mp (mem_en.mp hp)).1
  have tl : (turnAbout n one.1 other.1 third.1).length = (madeOf [third, one]).1 := by
    rw [e1, ← nl]
    exact g.1.trans (by rw [List.length_replicate])
  have tg : ∀ {q}, q < (madeOf [third, one]).1 → (turnAbout n one.1 other.1 third.1).getD q 0 = spotOf third.1 other.1 (n.getD (ψ q) 0) := fun {q} hq => by
    have hp := J.lt hq
    have := g.2.1 (ψ q, n.getD (ψ q) 0) (mem_en.mpr (getD_some (by rw [nl]; exact hp)))
    simp only at this
    rw [j2 q hq] at this
    rw [List.getD_eq_getElem?_getD]
    unfold turnAbout
    rw [this]
    rfl
  exact namingOf (made_plain V3 V1) (made_plain V3 V2) tl (((J.comp I).comp S').congr fun q hq => (tg hq).symm)
/-! ### turned back -/
theorem back_get {f : List Nat} (nd : f.Nodup) (lt : ∀ p ∈ f, p < f.length) : (turnedBack f).length = f.length ∧ ∀ p, p < f.length → (turnedBack f).getD (f.getD p 0) 0 = p := by
  have g := set_all (fun p : Nat × Nat => p.2) (fun p => p.1) (en f) (List.replicate f.length 0) (by
    unfold en
    rw [List.map_snd_zip (by simp)]
    exact nd) fun p hp => by
    rw [List.length_replicate]
    exact lt _ (List.mem_of_getElem? (mem_en.mp hp))
  refine ⟨g.1.trans (by rw [List.length_replicate]), fun p hp => ?_⟩
  have := g.2.1 (p, f.getD p 0) (mem_en.mpr (getD_some hp))
  unfold turnedBack
  rw [List.getD_eq_getElem?_getD, this]
  rfl
theorem back_naming {f g : List Nat} (V1 : Plain one) (V2 : Plain other) (N : IsNaming one other f) (G : IsNaming one other g) : IsNaming one one (behind f (turnedBack g)) := by
  have I := isoOf V1 V2 N
  have J := isoOf V1 V2 G
  obtain ⟨ψ, K, k1, k2⟩ := J.inv
  have gl : g.length = one.1 := G.len.trans G.places.symm
  have fl : f.length = one.1 := N.len.trans N.places.symm
  have b := back_get G.nd fun p hp => by
    rw [G.len]
    exact G.lt p hp
  refine namingOf V1 V1 (by unfold behind; rw [List.length_map]; exact fl) ((I.comp K).congr fun p hp => ?_)
  have e : (behind f (turnedBack g)).getD p 0 = (turnedBack g).getD (f.getD p 0) 0 := by
    unfold behind
    exact getD_map _ (by rw [fl]; exact hp) 0 0
  rw [e]
  have hq := I.lt hp
  have h2 := b.2 (ψ (f.getD p 0)) (by rw [gl]; exact K.lt hq)
  rw [k2 _ hq] at h2
  exact h2.symm
/-! ### all -/
theorem right_pre {n : List Nat} (C1 : Conn one) (C2 : Conn other) (C3 : Conn third) (F1 : FitPre [one, third]) (F2 : FitPre [other, third]) (N : IsNaming (madeOf [one, third]) (madeOf [other, third]) n) : RightPre one other third n := by
  have V1 := F1.ok one (by simp)
  have V2 := F2.ok other (by simp)
  have V3 := F1.ok third (by simp)
  have VP1 := made_valid V1 V3 F1
  have VP2 := made_valid V2 V3 F2
  have CP1 := made_conn V1 V3 C1 C3
  have CP2 := made_conn V2 V3 C2 C3
  obtain ⟨c1, n0⟩ := cancel_ok V1 V2 V3 C1 C2 C3 F1 F2 N
  have n1 := both_naming V1.plain V2.plain V3.plain n0
  obtain ⟨c2, n2⟩ := cancel_ok V1 V2 V3 C1 C2 C3 F1 F2 n1
  obtain ⟨s1, n4⟩ := about_naming V1.plain V2.plain V3.plain N
  have pn := self_naming (made_valid point_valid V3 (point_fit' V3)).plain
  rw [made_fst, Nat.one_mul] at pn
  obtain ⟨c3, m3⟩ := cancel_ok point_valid point_valid V3 point_conn point_conn C3 (point_fit' V3) (point_fit' V3) pn
  obtain ⟨c4, n5⟩ := cancel_ok V1 V2 point_valid C1 C2 point_conn (point_fit V1) (point_fit V2) (point_naming V1.plain V2.plain n0)
  obtain ⟨c5, n6⟩ := cancel_ok VP1 VP2 point_valid CP1 CP2 point_conn (point_fit VP1) (point_fit VP2) (point_naming VP1.plain VP2.plain N)
  have le2 := V2.le
  have b2 := back_get n2.nd fun p hp => by
    rw [n2.len]
    exact n2.lt p hp
  have nl := N.len
  have lp := VP2.le
  refine ⟨c1, by rw [n0.len]; omega, n1, c2, ⟨by rw [n2.len]; omega, fun p hp => by rw [n2.len]; exact n2.lt p hp⟩, fun p hp => ?_, n2, back_naming V1.plain V2.plain n0 n2, ⟨by omega, s1⟩, fit_swap F1, fit_swap F2, made_valid V3 V1 (fit_swap F1), made_valid V3 V2 (fit_swap F2), n4, c3, ?_, c4, n5, c5, n6⟩
  · rw [b2.1, n2.len]
    exact n0.lt p hp
  · have l := m3.len
    have lt := m3.lt
    generalize cancel point point third (List.range third.1) = x at l lt ⊢
    have l : x.length = 1 := l
    obtain ⟨y, rfl⟩ := List.length_eq_one_iff.mp l
    have : y < 1 := lt y (by simp)
    rw [show y = 0 by omega]
end
end M

/-! Graphs told by rows (no distances asked): products, namings. -/
namespace A
structure Rw (n : Nat) (adj : Nat → Nat → Prop) (k : Nat) (m : Nat → Nat) (a : Nat → Nat → Nat → Prop) (c : Nat → Nat → Nat) : Prop where
  lt : ∀ {p i}, p < n → i < k → c p i < m i
  inj : ∀ {p q}, p < n → q < n → (∀ i, i < k → c p i = c q i) → p = q
  sur : ∀ x : Nat → Nat, (∀ i, i < k → x i < m i) → ∃ p, p < n ∧ ∀ i, i < k → c p i = x i
  tied : ∀ {p q}, p < n → q < n → (adj p q ↔ ∃ i, i < k ∧ a i (c p i) (c q i) ∧ ∀ j, j < k → j ≠ i → c p j = c q j)
section
variable {n : Nat} {adj : Nat → Nat → Prop} {n' : Nat} {adj' : Nat → Nat → Prop} {φ ψ : Nat → Nat}
variable {k k' : Nat} {m m' : Nat → Nat} {a a' : Nat → Nat → Nat → Prop} {c c' : Nat → Nat → Nat}
theorem Rw.move (F : Rw n adj k m a c) (I : Iso n adj n' adj' φ) (h1 : ∀ p, p < n → ψ (φ p) = p) : Rw n' adj' k m a fun q => c (ψ q) := by
  have h2 : ∀ {q}, q < n' → ψ q < n ∧ φ (ψ q) = q := fun {q} hq => by
    obtain ⟨p, hp, e⟩ := I.sur hq
    rw [← e, h1 p hp]
    exact ⟨hp, rfl⟩
  refine ⟨fun hp hi => F.lt (h2 hp).1 hi, fun {p q} hp hq h => ?_, fun x hx => ?_, fun {p q} hp hq => ?_⟩
  · rw [← (h2 hp).2, ← (h2 hq).2, F.inj (h2 hp).1 (h2 hq).1 h]
  · obtain ⟨p, hp, e⟩ := F.sur x hx
    refine ⟨φ p, I.lt hp, fun i hi => ?_⟩
    rw [h1 p hp]
    exact e i hi
  · rw [← F.tied (h2 hp).1 (h2 hq).1, I.tied (h2 hp).1 (h2 hq).1, (h2 hp).2, (h2 hq).2]
theorem Rw.join (F : Rw n adj k m a c) (F' : Rw n' adj' k m' a' c') {π : Nat → Nat} {f : Nat → Nat → Nat} (hlt : ∀ p, p < n → φ p < n') (T : Told φ n k m a c m' a' c' π f) : Iso n adj n' adj' φ := by
  have sur : ∀ {j}, j < k → ∃ i, i < k ∧ π i = j := fun {j} hj => pigSur (fun i hi => T.lt hi) (fun i j hi hj e => T.inj hi hj e) hj
  refine ⟨fun {p} hp => hlt p hp, fun {p q} hp hq e => F.inj hp hq fun i hi => ?_, fun {q} hq => ?_, fun {p q} hp hq => ?_⟩
  · refine (T.iso hi).inj (F.lt hp hi) (F.lt hq hi) ?_
    rw [← T.led hp hi, ← T.led hq hi, e]
  · have : ∀ i, ∃ x, i < k → x < m i ∧ f i x = c' q (π i) := fun i => by
      by_cases hi : i < k
      · obtain ⟨x, hx, e⟩ := (T.iso hi).sur (F'.lt hq (T.lt hi))
        exact ⟨x, fun _ => ⟨hx, e⟩⟩
      · exact ⟨0, fun z => absurd z hi⟩
    obtain ⟨p, hp, e⟩ := F.sur (fun i => (this i).choose) fun i hi => ((this i).choose_spec hi).1
    refine ⟨p, hp, F'.inj (hlt p hp) hq fun j hj => ?_⟩
    obtain ⟨i, hi, ej⟩ := sur hj
    subst ej
    rw [T.led hp hi, e i hi]
    exact ((this i).choose_spec hi).2
  · rw [F.tied hp hq, F'.tied (hlt p hp) (hlt q hq)]
    constructor
    · intro ⟨i, hi, h1, h2⟩
      refine ⟨π i, T.lt hi, ?_, fun j hj hne => ?_⟩
      · rw [T.led hp hi, T.led hq hi]
        exact ((T.iso hi).tied (F.lt hp hi) (F.lt hq hi)).mp h1
      · obtain ⟨l, hl, ej⟩ := sur hj
        subst ej
        rw [T.led hp hl, T.led hq hl, h2 l hl fun z => hne (by rw [z])]
    · intro ⟨j, hj, h1, h2⟩
      obtain ⟨i, hi, ej⟩ := sur hj
      subst ej
      refine ⟨i, hi, ?_, fun l hl hne => ?_⟩
      · rw [T.led hp hi, T.led hq hi] at h1
        exact ((T.iso hi).tied (F.lt hp hi) (F.lt hq hi)).mpr h1
      · have h3 := h2 (π l) (T.lt hl) fun z => hne (T.inj hl hi z)
        rw [T.led hp hl, T.led hq hl] at h3
        exact (T.iso hl).inj (F.lt hp hl) (F.lt hq hl) h3
end
section
variable {n : Nat} {adj : Nat → Nat → Prop} {n1 : Nat} {adj1 : Nat → Nat → Prop} {n2 : Nat} {adj2 : Nat → Nat → Prop} {fs sn : Nat → Nat} {pr : Nat → Nat → Nat}
variable {k1 : Nat} {m1 : Nat → Nat} {a1 : Nat → Nat → Nat → Prop} {c1 : Nat → Nat → Nat} {k2 : Nat} {m2 : Nat → Nat} {a2 : Nat → Nat → Nat → Prop} {c2 : Nat → Nat → Nat}
theorem cat_cases {i k1 k2 : Nat} (h : i < k1 + k2) : i < k1 ∨ ∃ j, j < k2 ∧ i = k1 + j := by
  by_cases c : i < k1
  · exact .inl c
  · exact .inr ⟨i - k1, by omega, by omega⟩
theorem Pr.rw (P : Pr n adj n1 adj1 n2 adj2 fs sn pr) (F1 : Rw n1 adj1 k1 m1 a1 c1) (F2 : Rw n2 adj2 k2 m2 a2 c2) :
    Rw n adj (k1 + k2) (catN k1 m1 m2) (catN k1 a1 a2) fun p => catN k1 (c1 (fs p)) (c2 (sn p)) := by
  refine ⟨fun {p i} hp hi => ?_, fun {p q} hp hq h => ?_, fun x hx => ?_, fun {p q} hp hq => ?_⟩
  · rcases cat_cases hi with h | ⟨j, hj, rfl⟩
    · simp only [catN_l _ _ h]
      exact F1.lt (P.f hp) h
    · simp only [catN_r']
      exact F2.lt (P.s hp) hj
  · refine P.eq hp hq (F1.inj (P.f hp) (P.f hq) fun i hi => ?_) (F2.inj (P.s hp) (P.s hq) fun i hi => ?_)
    · have := h i (by omega)
      simp only [catN_l _ _ hi] at this
      exact this
    · have := h (k1 + i) (by omega)
      simp only [catN_r'] at this
      exact this
  · obtain ⟨p, hp, e1⟩ := F1.sur x fun i hi => by
      have := hx i (by omega)
      rwa [catN_l _ _ hi] at this
    obtain ⟨q, hq, e2⟩ := F2.sur (fun i => x (k1 + i)) fun i hi => by
      have := hx (k1 + i) (by omega)
      rwa [catN_r'] at this
    refine ⟨pr p q, P.p hp hq, fun i hi => ?_⟩
    simp only [P.fp hp hq, P.sp hp hq]
    rcases cat_cases hi with h | ⟨j, hj, rfl⟩
    · rw [catN_l _ _ h]
      exact e1 i h
    · rw [catN_r']
      exact e2 j hj
  · rw [P.adj hp hq]
    constructor
    · rintro (⟨e, h⟩ | ⟨e, h⟩)
      · obtain ⟨i, hi, h1, h2⟩ := (F1.tied (P.f hp) (P.f hq)).mp h
        refine ⟨i, by omega, by simp only [catN_l _ _ hi]; exact h1, fun j hj hne => ?_⟩
        rcases cat_cases hj with h | ⟨l, hl, rfl⟩
        · simp only [catN_l _ _ h]
          exact h2 j h hne
        · simp only [catN_r', e]
      · obtain ⟨i, hi, h1, h2⟩ := (F2.tied (P.s hp) (P.s hq)).mp h
        refine ⟨k1 + i, by omega, by simp only [catN_r']; exact h1, fun j hj hne => ?_⟩
        rcases cat_cases hj with h | ⟨l, hl, rfl⟩
        · simp only [catN_l _ _ h, e]
        · simp only [catN_r']
          exact h2 l hl (by omega)
    · intro ⟨i, hi, h1, h2⟩
      rcases cat_cases hi with h | ⟨j, hj, rfl⟩
      · simp only [catN_l _ _ h] at h1
        refine .inl ⟨F2.inj (P.s hp) (P.s hq) fun l hl => ?_, (F1.tied (P.f hp) (P.f hq)).mpr ⟨i, h, h1, fun l hl hne => ?_⟩⟩
        · have := h2 (k1 + l) (by omega) (by omega)
          simp only [catN_r'] at this
          exact this
        · have := h2 l (by omega) hne
          simp only [catN_l _ _ hl] at this
          exact this
      · simp only [catN_r'] at h1
        refine .inr ⟨F1.inj (P.f hp) (P.f hq) fun l hl => ?_, (F2.tied (P.s hp) (P.s hq)).mpr ⟨j, hj, h1, fun l hl hne => ?_⟩⟩
        · have := h2 l (by omega) (by omega)
          simp only [catN_l _ _ hl] at this
          exact this
        · have := h2 (k1 + l) (by omega) (by omega)
          simp only [catN_r'] at this
          exact this
end
end A
namespace M
open Ty (en srt)
open A (Iso Pr Rw Dist)
theorem snocInd {α : Type} {P : List α → Prop} (h0 : P []) (h1 : ∀ xs x, P xs → P (xs ++ [x])) (xs : List α) : P xs := by
  have : ∀ xs : List α, P xs.reverse := fun xs => by
    induction xs with
    | nil => exact h0
    | cons x xs ih =>
      rw [List.reverse_cons]
      exact h1 _ _ ih
  have h := this xs.reverse
  rwa [List.reverse_reverse] at h
/-! ### sorted ties -/
theorem srt_inc {xs : List Tie} (nd : xs.Nodup) : (srt xs).Pairwise ltT := by
  rw [Ty.srt_pair]
  have nd2 : (xs.mergeSort Ty.leP).Nodup := (List.mergeSort_perm _ _).nodup_iff.mpr nd
  have so : (xs.mergeSort Ty.leP).Pairwise fun a b => Ty.leP a b = true := List.pairwise_mergeSort (fun a b c h1 h2 => by
    unfold Ty.leP at *
    rw [decide_eq_true_eq] at h1 h2 ⊢
    omega) (fun a b => by
    unfold Ty.leP
    rw [Bool.or_eq_true, decide_eq_true_eq, decide_eq_true_eq]
    omega) _
  refine (so.and nd2).imp fun {x y} h => ?_
  have h1 := h.1
  unfold Ty.leP at h1
  rw [decide_eq_true_eq] at h1
  have h2 := h.2
  unfold ltT
  have : ¬ (x.1 = y.1 ∧ x.2 = y.2) := fun z => h2 (Prod.ext z.1 z.2)
  omega
theorem mem_srt {xs : List Tie} {t : Tie} : t ∈ srt xs ↔ t ∈ xs := (Ty.perm_srt xs).mem_iff
theorem srt_len {xs : List Tie} : (srt xs).length = xs.length := (Ty.perm_srt xs).length_eq
theorem srt_nodup {xs : List Tie} (nd : xs.Nodup) : (srt xs).Nodup := (Ty.perm_srt xs).nodup_iff.mpr nd
/-! ### renumbered -/
/-- a list of all places -/
structure All (m : Nat) (o : List Nat) : Prop where
  len : o.length = m
  nd : o.Nodup
  lt : ∀ x ∈ o, x < m
theorem All.get {m : Nat} {o : List Nat} (h : All m o) {p : Nat} (hp : p < m) : o.getD p 0 < m := h.lt _ (getD_mem (by rw [h.len]; exact hp))
theorem All.inj {m : Nat} {o : List Nat} (h : All m o) {p q : Nat} (hp : p < m) (hq : q < m) (e : o.getD p 0 = o.getD q 0) : p = q := getD_inj h.nd (by rw [h.len]; exact hp) (by rw [h.len]; exact hq) e
theorem All.mem {m : Nat} {o : List Nat} (h : All m o) {x : Nat} (hx : x < m) : x ∈ o := by
  obtain ⟨p, hp, e⟩ := A.pigSur (f := fun p => o.getD p 0) (fun i hi => h.get hi) (fun i j hi hj e => h.inj hi hj e) hx
  rw [← e]
  exact getD_mem (by rw [h.len]; exact hp)
theorem All.idx {m : Nat} {o : List Nat} (h : All m o) {x : Nat} (hx : x < m) : o.idxOf x < m := by
  have := List.idxOf_lt_length_of_mem (h.mem hx)
  rwa [h.len] at this
section
variable {w : Web} {o : List Nat}
theorem ren_plain (V : Plain w) (O : All w.1 o) : Plain (renumbered w o) ∧ (renumbered w o).2.Pairwise ltT ∧ (renumbered w o).2.length = w.2.length := by
  have nd := map_ties (other := w) V (f := fun p => o.getD p 0) O.inj
  refine ⟨⟨fun t ht => ?_, srt_nodup nd⟩, srt_inc nd, srt_len.trans (List.length_map _)⟩
  obtain ⟨s, hs, e⟩ := List.mem_map.mp (mem_srt.mp ht)
  have h1 := V.tie s hs
  have a := O.get (p := s.1) (by omega)
  have b := O.get h1.2
  have c : o.getD s.1 0 ≠ o.getD s.2 0 := fun z => by
    have := O.inj (by omega) h1.2 z
    omega
  rw [← e]
  show min _ _ < max _ _ ∧ max _ _ < w.1
  omega
theorem ren_iso (V : Plain w) (O : All w.1 o) : Iso w.1 (adjW w) (renumbered w o).1 (adjW (renumbered w o)) fun p => o.getD p 0 := by
  have R := ren_plain V O
  have m : ∀ {t}, t ∈ (renumbered w o).2 ↔ ∃ s ∈ w.2, tieOf (o.getD s.1 0) (o.getD s.2 0) = t := fun {t} => mem_srt.trans List.mem_map
  refine ⟨O.get, O.inj, fun {q} hq => ⟨o.idxOf q, O.idx hq, getD_idx (O.mem hq)⟩, fun {p q} hp hq => ?_⟩
  rw [adjW_tie R.1, m]
  constructor
  · intro h
    refine ⟨?_, fun e => h.ne V (O.inj hp hq e)⟩
    rcases h with h | h
    · exact ⟨_, h, rfl⟩
    · exact ⟨_, h, tieOf_comm _ _⟩
  · intro ⟨⟨s, hs, e⟩, hne⟩
    have h1 := V.tie s hs
    have : (o.getD s.1 0 = o.getD p 0 ∧ o.getD s.2 0 = o.getD q 0) ∨ (o.getD s.1 0 = o.getD q 0 ∧ o.getD s.2 0 = o.getD p 0) := by
      unfold tieOf at e
      have a1 : min (o.getD s.1 0) (o.getD s.2 0) = min (o.getD p 0) (o.getD q 0) := congrArg Prod.fst e
      have a2 : max (o.getD s.1 0) (o.getD s.2 0) = max (o.getD p 0) (o.getD q 0) := congrArg Prod.snd e
      omega
    rcases this with ⟨a, b⟩ | ⟨a, b⟩
    · rw [← O.inj (by omega) hp a, ← O.inj (by omega) hq b]
      exact .inl hs
    · rw [← O.inj (by omega) hq a, ← O.inj (by omega) hp b]
      exact .inr hs
theorem iso_conn {w w' : Web} {f : Nat → Nat} (V : Plain w) (V' : Plain w') (C : Conn w) (I : Iso w.1 (adjW w) w'.1 (adjW w') f) : Conn w' := by
  obtain ⟨ψ, J, j1, j2⟩ := I.inv
  have D := distW V C
  refine fun q hq => ?_
  have pos : 0 < w'.1 := by omega
  exact conn_of V' (d := fun p q => dW w (ψ p) (ψ q)) ⟨fun h => h.lt V', fun h => h.symm, fun h => h.ne V' rfl, fun h => D.zero (J.lt h), fun h1 h2 => D.sym (J.lt h1) (J.lt h2), fun {u v x} h hx => D.lip ((J.tied (h.lt V') (h.symm.lt V')).mp h) (J.lt hx), fun {u v} hu hv hne => by
    obtain ⟨w, h1, h2⟩ := D.desc (J.lt hu) (J.lt hv) fun e => hne (J.inj hu hv e)
    have hw := D.lt2 h1
    refine ⟨f w, (J.tied hu (I.lt hw)).mpr (by rw [j1 w hw]; exact h1), by rw [j1 w hw]; exact h2⟩⟩ pos q hq
end
/-! ### shuffled -/
theorem erase_perm : ∀ {l : List Nat} {i : Nat}, i < l.length → (l.getD i 0 :: l.eraseIdx i).Perm l
  | [], _, h => by simp at h
  | x :: l, 0, _ => List.Perm.refl _
  | x :: l, i + 1, h => by
    have ih := erase_perm (l := l) (i := i) (by
      rw [List.length_cons] at h
      omega)
    exact (List.Perm.swap x _ _).trans (List.Perm.cons x ih)
theorem shuf_perm : ∀ (xs : List Nat) (p : Pool) (names : List Nat), xs.length ≤ names.length → ((mapA shufStep xs (p, names)).1 ++ (mapA shufStep xs (p, names)).2.2).Perm names ∧ (mapA shufStep xs (p, names)).2.2.length = names.length - xs.length
  | [], p, names, _ => ⟨List.Perm.refl _, rfl⟩
  | x :: xs, p, names, h => by
    rw [List.length_cons] at h
    have hv := takeV_lt p (m := names.length) (by omega)
    have el : (names.eraseIdx (takeV p names.length)).length = names.length - 1 := List.length_eraseIdx_of_lt hv
    have ih := shuf_perm xs (takeS p names.length) (names.eraseIdx (takeV p names.length)) (by omega)
    constructor
    · show (names.getD (takeV p names.length) 0 :: ((mapA shufStep xs (takeS p names.length, names.eraseIdx (takeV p names.length))).1 ++ (mapA shufStep xs (takeS p names.length, names.eraseIdx (takeV p names.length))).2.2)).Perm names
      refine (List.Perm.cons _ ih.1).trans ?_
      exact erase_perm hv
    · show (mapA shufStep xs (takeS p names.length, names.eraseIdx (takeV p names.length))).2.2.length = _
      rw [ih.2, el, List.length_cons]
      omega
theorem shuf_all (p : Pool) (m : Nat) : All m (shuf p m).1 ∧ (shuf p m).1.Perm (List.range m) := by
  have h := shuf_perm (List.range m) p (List.range m) (Nat.le_refl _)
  have e : (mapA shufStep (List.range m) (p, List.range m)).2.2 = [] := List.eq_nil_of_length_eq_zero (by rw [h.2]; omega)
  have hp : (shuf p m).1.Perm (List.range m) := by
    have := h.1
    rw [e, List.append_nil] at this
    exact this
  exact ⟨⟨by rw [hp.length_eq, List.length_range], hp.nodup_iff.mpr List.nodup_range, fun x hx => List.mem_range.mp (hp.mem_iff.mp hx)⟩, hp⟩
end M

/-! The drawn webs: plain, together, few ties. -/
namespace M
open Ty (en srt putL look)
open A (Iso Pr Rw Dist)
theorem tie_keys (order : List Nat) : ∀ (pairs : List (Nat × Nat)) (l : List (Tie × Bool)), (l.map (·.1)).Nodup →
    ((pairs.foldl (tieStep order) l).map (·.1)).Nodup ∧ (∀ t, t ∈ (pairs.foldl (tieStep order) l).map (·.1) ↔ t ∈ l.map (·.1) ∨ ∃ q ∈ pairs, q.1 ≠ q.2 ∧ t = tieOf (order.getD q.1 0) (order.getD q.2 0)) ∧ (pairs.foldl (tieStep order) l).length ≤ l.length + pairs.length
  | [], l, nd => ⟨nd, (fun t => by simp), by simp⟩
  | q :: pairs, l, nd => by
    rw [List.foldl_cons]
    have st : ((tieStep order l q).map (·.1)).Nodup ∧ (∀ t, t ∈ (tieStep order l q).map (·.1) ↔ t ∈ l.map (·.1) ∨ (q.1 ≠ q.2 ∧ t = tieOf (order.getD q.1 0) (order.getD q.2 0))) ∧ (tieStep order l q).length ≤ l.length + 1 := by
      unfold tieStep
      by_cases c : q.1 = q.2
      · rw [if_pos c]
        exact ⟨nd, fun t => by simp [c], by omega⟩
      · rw [if_neg c, Ty.putL_keys]
        refine ⟨?_, fun t => ?_, Ty.putL_len ..⟩
        · split
          · exact nd
          · rename_i h
            rw [List.nodup_append]
            exact ⟨nd, by simp, fun a ha b hb e => h (by
              rw [← List.mem_singleton.mp hb, ← e]
              exact ha)⟩
        · split
          · rename_i h
            exact ⟨.inl, fun z => by
              rcases z with z | ⟨_, z⟩
              · exact z
              · rw [z]; exact h⟩
          · rw [List.mem_append, List.mem_singleton]
            exact ⟨fun z => z.imp id fun z => ⟨c, z⟩, fun z => z.imp id fun z => z.2⟩
    have ih := tie_keys order pairs (tieStep order l q) st.1
    refine ⟨ih.1, fun t => ?_, ?_⟩
    · rw [ih.2.1, st.2.1]
      constructor
      · rintro ((h | h) | ⟨p, hp, h⟩)
        · exact .inl h
        · exact .inr ⟨q, List.mem_cons_self .., h⟩
        · exact .inr ⟨p, List.mem_cons_of_mem _ hp, h⟩
      · rintro (h | ⟨p, hp, h⟩)
        · exact .inl (.inl h)
        · rcases List.mem_cons.mp hp with e | hp
          · subst e
            exact .inl (.inr h)
          · exact .inr ⟨p, hp, h⟩
    · have := ih.2.2
      have := st.2.2
      rw [List.length_cons]
      omega
theorem mapA_ex {σ α β : Type} {f : σ → α → β × σ} : ∀ {xs : List α} {s : σ} {x : α}, x ∈ xs → ∃ t, (f t x).1 ∈ (mapA f xs s).1
  | y :: xs, s, x, h => by
    rcases List.mem_cons.mp h with e | h
    · subst e
      exact ⟨s, List.mem_cons_self ..⟩
    · obtain ⟨t, ht⟩ := mapA_ex (f := f) (s := (f s y).2) h
      exact ⟨t, List.mem_cons_of_mem _ ht⟩
/-- what a drawn web is like -/
structure Bas (w : Web) : Prop where
  plain : Plain w
  conn : Conn w
  pos : 0 < w.1
  le : w.1 ≤ 12
  few : w.2.length ≤ w.1 + 1
theorem web_bas (p : Pool) {most : Nat} (h0 : 0 < most) (h1 : most ≤ 12) : Bas (webV p most 2) := by
  have hm := webS_m p (more := 2) h0
  have hp := webS_pairs p (more := 2) h0
  have O : All (webS p most 2).m (webS p most 2).order := (shuf_all (takeS p most) (1 + takeV p most)).1
  have hk : ∀ k, 0 < k → k < (webS p most 2).m → ∃ v, v < k ∧ (k, v) ∈ (webS p most 2).pairs := fun k h1 h2 => by
    have hr : k ∈ List.range' 1 ((webS p most 2).m - 1) := by
      rw [List.mem_range']
      exact ⟨k - 1, by omega, by omega⟩
    obtain ⟨t, ht⟩ := mapA_ex (f := pairStep) (s := (shuf (takeS p most) (1 + takeV p most)).2.1) hr
    exact ⟨takeV t k, takeV_lt t h1, List.mem_append_left _ ht⟩
  have hl : (webS p most 2).pairs.length ≤ (webS p most 2).m + 1 := by
    have e : (webS p most 2).pairs = (mapA pairStep (List.range' 1 (1 + takeV p most - 1)) (shuf (takeS p most) (1 + takeV p most)).2.1).1 ++ (mapA (extStep (1 + takeV p most)) (List.range (takeV (mapA pairStep (List.range' 1 (1 + takeV p most - 1)) (shuf (takeS p most) (1 + takeV p most)).2.1).2 (2 + 1))) (takeS (mapA pairStep (List.range' 1 (1 + takeV p most - 1)) (shuf (takeS p most) (1 + takeV p most)).2.1).2 (2 + 1))).1 := rfl
    have em : (webS p most 2).m = 1 + takeV p most := rfl
    rw [e, List.length_append, mapA_len, mapA_len, List.length_range', List.length_range, em]
    have := takeV_lt (mapA pairStep (List.range' 1 (1 + takeV p most - 1)) (shuf (takeS p most) (1 + takeV p most)).2.1).2 (m := 2 + 1) (by omega)
    omega
  have K := tie_keys (webS p most 2).order (webS p most 2).pairs [] List.nodup_nil
  have ew : (webV p most 2).1 = (webS p most 2).m := rfl
  have mem : ∀ t, t ∈ (webV p most 2).2 ↔ ∃ q ∈ (webS p most 2).pairs, q.1 ≠ q.2 ∧ t = tieOf ((webS p most 2).order.getD q.1 0) ((webS p most 2).order.getD q.2 0) := fun t => by
    have := K.2.1 t
    simp only [List.map_nil, List.not_mem_nil, false_or] at this
    exact mem_srt.trans this
  have V : Plain (webV p most 2) := by
    refine ⟨fun t ht => ?_, srt_nodup K.1⟩
    obtain ⟨q, hq, hne, e⟩ := (mem t).mp ht
    have h2 := hp q hq
    have a := O.get h2.1
    have b := O.get h2.2
    have c : (webS p most 2).order.getD q.1 0 ≠ (webS p most 2).order.getD q.2 0 := fun z => hne (O.inj h2.1 h2.2 z)
    rw [e, ew]
    show min _ _ < max _ _ ∧ max _ _ < _
    omega
  have reach : ∀ k, k < (webS p most 2).m → Rch (nbW (webV p most 2)) ((webS p most 2).order.getD 0 0) ((webS p most 2).order.getD k 0) := by
    intro k
    induction k using Nat.strongRecOn with
    | ind k ih =>
      intro hkm
      by_cases c : k = 0
      · rw [c]; exact Rch.refl _
      · obtain ⟨v, hv, hm2⟩ := hk k (by omega) hkm
        refine (ih v hv (by omega)).trans ⟨1, way_one V (adjW.symm ?_)⟩
        refine adj_of_tie ((mem _).mpr ⟨_, hm2, ?_, rfl⟩) fun z => ?_
        · show k ≠ v
          omega
        · have := O.inj hkm (by omega) z
          omega
  refine ⟨V, fun q hq => ?_, by rw [ew]; exact hm.1, by rw [ew]; omega, ?_⟩
  · have at_ : ∀ q, q < (webS p most 2).m → Rch (nbW (webV p most 2)) ((webS p most 2).order.getD 0 0) q := fun q hq => by
      have := reach _ (O.idx hq)
      rwa [getD_idx (O.mem hq)] at this
    exact (Rch.back V (at_ 0 hm.1)).trans (at_ q hq)
  · have := K.2.2
    rw [List.length_nil, Nat.zero_add] at this
    show (srt ((tiesOf (webS p most 2)).map (·.1))).length ≤ _
    rw [srt_len, List.length_map, ew]
    exact Nat.le_trans this hl
end M

/-! prodOf: the product of many webs, by rows. -/
namespace M
open Ty (en srt)
open A (Iso Pr Rw Dist)
theorem row_step : ∀ (rows : List (List Nat)) (w : Web) {n : Nat}, n < rows.length * w.1 → (rowsStep rows w).getD n [] = rows.getD (n / w.1) [] ++ [n % w.1]
  | [], w, n, h => by simp at h
  | r :: rows, w, n, h => by
    have hm : 0 < w.1 := Nat.pos_of_ne_zero fun z => by
      rw [z, Nat.mul_zero] at h
      omega
    have e : rowsStep (r :: rows) w = ((List.range w.1).map fun p => r ++ [p]) ++ rowsStep rows w := rfl
    rw [e]
    by_cases c : n < w.1
    · rw [getD_app_l (by rw [map_range_len]; exact c), getD_map_range _ c, Nat.div_eq_of_lt c, Nat.mod_eq_of_lt c]
      rfl
    · obtain ⟨i, rfl⟩ := Nat.exists_eq_add_of_le (Nat.le_of_not_lt c)
      have h2 : ((List.range w.1).map fun p => r ++ [p]).length = w.1 := map_range_len _ _
      have : (((List.range w.1).map fun p => r ++ [p]) ++ rowsStep rows w).getD (w.1 + i) [] = (rowsStep rows w).getD i [] := by
        have := getD_app_r (xs := (List.range w.1).map fun p => r ++ [p]) (ys := rowsStep rows w) (i := i) (d := [])
        rwa [h2] at this
      rw [this, row_step rows w (by
        rw [List.length_cons, Nat.succ_mul] at h
        omega), Nat.add_mod_left, Nat.add_div_left _ hm]
      rfl
/-- the row of a number, by the list of rows -/
def rowN (ws : List Web) (p : Nat) : List Nat := (rowsOf ws).getD p []
abbrev wAt (ws : List Web) (i : Nat) : Web := ws.getD i (0, [])
theorem pl_snoc (ws : List Web) (w : Web) : placesIn (ws ++ [w]) = placesIn ws * w.1 := by
  rw [placesIn_app]
  show _ * (1 * w.1) = _
  rw [Nat.one_mul]
theorem rowN_snoc (ws : List Web) (w : Web) {p : Nat} (h : p < placesIn ws * w.1) : rowN (ws ++ [w]) p = rowN ws (p / w.1) ++ [p % w.1] := by
  unfold rowN rowsOf
  rw [List.foldl_append]
  exact row_step _ w (by
    rw [show (List.foldl rowsStep [[]] ws).length = placesIn ws from rowsOf_len ws]
    exact h)
structure RowOk (ws : List Web) (r : List Nat) : Prop where
  len : r.length = ws.length
  lt : ∀ i, i < ws.length → r.getD i 0 < (wAt ws i).1
theorem num_snoc {ws : List Web} {w : Web} {r : List Nat} {x : Nat} (h : r.length = ws.length) : numberIn (ws ++ [w]) (r ++ [x]) = numberIn ws r * w.1 + x := by
  unfold numberIn
  rw [List.zip_append h, List.foldl_append]
  rfl
theorem rowOk_snoc {ws : List Web} {w : Web} {r : List Nat} {x : Nat} (h : RowOk ws r) (hx : x < w.1) : RowOk (ws ++ [w]) (r ++ [x]) := by
  refine ⟨by rw [List.length_append, List.length_append, h.len]; rfl, fun i hi => ?_⟩
  rw [List.length_append] at hi
  by_cases c : i < ws.length
  · rw [getD_app_l (by rw [h.len]; exact c)]
    unfold wAt
    rw [getD_app_l c]
    exact h.lt i c
  · have e : i = ws.length + 0 := by simp at hi; omega
    unfold wAt
    rw [e, getD_app_r]
    rw [← h.len, getD_app_r]
    exact hx
theorem rowOk_split {ws : List Web} {w : Web} {r : List Nat} (h : RowOk (ws ++ [w]) r) : ∃ s x, r = s ++ [x] ∧ RowOk ws s ∧ x < w.1 := by
  have hl := h.len
  rw [List.length_append, List.length_singleton] at hl
  have hne : r ≠ [] := fun z => by
    rw [z] at hl
    simp at hl
  refine ⟨r.dropLast, r.getLast hne, (List.dropLast_concat_getLast hne).symm, ?_⟩
  have e := (List.dropLast_concat_getLast hne)
  have dl : r.dropLast.length = ws.length := by
    rw [List.length_dropLast]
    omega
  generalize r.dropLast = s at e dl ⊢
  generalize r.getLast hne = x at e ⊢
  subst e
  constructor
  · refine ⟨dl, fun i hi => ?_⟩
    have := h.lt i (by rw [List.length_append]; omega)
    unfold wAt at this ⊢
    rwa [getD_app_l (by omega), getD_app_l hi] at this
  · have := h.lt (ws.length + 0) (by rw [List.length_append]; simp)
    unfold wAt at this
    rw [getD_app_r, ← dl, getD_app_r] at this
    exact this
theorem row_of_num : ∀ (ws : List Web) (r : List Nat), RowOk ws r → numberIn ws r < placesIn ws ∧ rowN ws (numberIn ws r) = r := by
  refine snocInd (fun r h => ?_) fun ws w ih r h => ?_
  · have : r = [] := List.eq_nil_of_length_eq_zero h.len
    rw [this]
    exact ⟨by decide, rfl⟩
  · obtain ⟨s, x, rfl, hs, hx⟩ := rowOk_split h
    obtain ⟨h1, h2⟩ := ih s hs
    have hl := put_lt h1 hx
    rw [num_snoc hs.len, pl_snoc]
    refine ⟨hl, ?_⟩
    rw [rowN_snoc ws w hl, put_div hx, put_mod hx, h2]
theorem num_of_row : ∀ (ws : List Web) (p : Nat), p < placesIn ws → RowOk ws (rowN ws p) ∧ numberIn ws (rowN ws p) = p := by
  refine snocInd (fun p h => ?_) fun ws w ih p h => ?_
  · have h : p < 1 := h
    have : p = 0 := by omega
    rw [this]
    exact ⟨⟨rfl, fun i hi => by simp at hi⟩, rfl⟩
  · rw [pl_snoc] at h
    obtain ⟨h1, h2⟩ := div_lt h
    obtain ⟨i1, i2⟩ := ih _ h1
    rw [rowN_snoc ws w h]
    refine ⟨rowOk_snoc i1 h2, ?_⟩
    rw [num_snoc i1.len, i2, put_eq]
theorem rowN_mem {ws : List Web} {p : Nat} (h : p < placesIn ws) : rowN ws p ∈ rowsOf ws := by
  unfold rowN
  rw [List.getD_eq_getElem?_getD, List.getElem?_eq_getElem (by rw [rowsOf_len]; exact h)]
  exact List.getElem_mem _
theorem mem_rows {ws : List Web} {r : List Nat} : r ∈ rowsOf ws ↔ RowOk ws r := by
  constructor
  · intro h
    obtain ⟨p, hp⟩ := List.mem_iff_getElem?.mp h
    have hl := (List.getElem?_eq_some_iff.mp hp).1
    rw [rowsOf_len] at hl
    have e : rowN ws p = r := by
      unfold rowN
      rw [List.getD_eq_getElem?_getD, hp]
      rfl
    rw [← e]
    exact (num_of_row ws p hl).1
  · intro h
    obtain ⟨h1, h2⟩ := row_of_num ws r h
    rw [← h2]
    exact rowN_mem h1
theorem set_num : ∀ (ws : List Web) (r : List Nat) (k y : Nat), RowOk ws r → k < ws.length → numberIn ws (r.set k y) + r.getD k 0 * placesIn (ws.drop (k + 1)) = numberIn ws r + y * placesIn (ws.drop (k + 1)) := by
  refine snocInd (fun r k y h hk => by simp at hk) fun ws w ih r k y h hk => ?_
  obtain ⟨s, x, rfl, hs, hx⟩ := rowOk_split h
  rw [List.length_append, List.length_singleton] at hk
  by_cases c : k < ws.length
  · rw [List.set_append_left _ _ (by rw [hs.len]; exact c), num_snoc (by rw [List.length_set]; exact hs.len), num_snoc hs.len, getD_app_l (by rw [hs.len]; exact c), List.drop_append_of_le_length (by omega), pl_snoc]
    have := ih s k y hs c
    have e := congrArg (· * w.1) this
    simp only [Nat.add_mul, Nat.mul_assoc] at e
    omega
  · have e : k = s.length := by rw [hs.len]; omega
    subst e
    have e0 : (s ++ [x]).getD s.length 0 = x := by
      have := getD_app_r (xs := s) (ys := [x]) (i := 0) (d := 0)
      exact this
    have e1 : (s ++ [x]).set s.length y = s ++ [y] := by
      rw [List.set_append_right _ _ (Nat.le_refl _), Nat.sub_self]
      rfl
    have e2 : (ws ++ [w]).drop (s.length + 1) = [] := by
      rw [List.drop_eq_nil_iff, List.length_append, hs.len]
      exact Nat.le_refl _
    rw [e0, e1, e2, num_snoc hs.len, num_snoc hs.len]
    show _ + x * 1 = _ + y * 1
    omega
/-! ### the ties -/
theorem prTie_fold (n x wt : Nat) : ∀ (ts ties : List Tie), ts.foldl (prTie n x wt) ties = ties ++ (ts.filter fun t => decide (x = t.1)).map fun t => (n, n + (t.2 - t.1) * wt)
  | [], ties => by simp
  | t :: ts, ties => by
    rw [List.foldl_cons, prTie_fold n x wt ts]
    unfold prTie
    by_cases c : x = t.1
    · rw [if_pos c, List.filter_cons, if_pos (by simpa using c), List.append_assoc]
      rfl
    · rw [if_neg c, List.filter_cons, if_neg (by simpa using c)]
def eAt (ws : List Web) (n : Nat) (row : List Nat) (k : Nat) : List Tie := ((wAt ws k).2.filter fun t => decide (row.getD k 0 = t.1)).map fun t => (n, n + (t.2 - t.1) * placesIn (ws.drop (k + 1)))
theorem prWeb_fold (ws : List Web) (n : Nat) (row : List Nat) : ∀ (j : Nat) (ties : List Tie), j ≤ ws.length → ((List.range j).reverse.foldl (prWeb ws n row) (placesIn (ws.drop j), ties)).2 = ties ++ (List.range j).reverse.flatMap (eAt ws n row)
  | 0, ties, _ => by simp
  | j + 1, ties, h => by
    rw [List.range_succ, List.reverse_append, List.reverse_singleton, List.singleton_append, List.foldl_cons, List.flatMap_cons]
    have e : prWeb ws n row (placesIn (ws.drop (j + 1)), ties) j = (placesIn (ws.drop j), ties ++ eAt ws n row j) := by
      unfold prWeb
      rw [prTie_fold]
      refine Prod.ext ?_ rfl
      show placesIn (ws.drop (j + 1)) * (ws.getD j (0, [])).1 = placesIn (ws.drop j)
      have hj : j < ws.length := by omega
      have : ws.drop j = [ws.getD j (0, [])] ++ ws.drop (j + 1) := by
        rw [List.drop_eq_getElem_cons hj, List.getD_eq_getElem?_getD, List.getElem?_eq_getElem hj]
        rfl
      rw [this, placesIn_app, Nat.mul_comm]
      show _ = (1 * _) * _
      rw [Nat.one_mul]
    rw [e, prWeb_fold ws n row j _ (by omega), List.append_assoc]
def rowTies (ws : List Web) (p : Nat × List Nat) : List Tie := (List.range ws.length).reverse.flatMap (eAt ws p.1 p.2)
theorem prRow_fold (ws : List Web) : ∀ (ps : List (Nat × List Nat)) (ties : List Tie), ps.foldl (prRow ws) ties = ties ++ ps.flatMap (rowTies ws)
  | [], ties => by simp
  | p :: ps, ties => by
    rw [List.foldl_cons, prRow_fold ws ps, List.flatMap_cons, ← List.append_assoc]
    congr 1
    unfold prRow
    have := prWeb_fold ws p.1 p.2 ws.length ties (Nat.le_refl _)
    rw [List.drop_length] at this
    exact this
theorem prod_ties (ws : List Web) : (prodOf ws).2 = srt ((en (rowsOf ws)).flatMap (rowTies ws)) := by
  unfold prodOf
  simp only
  rw [prRow_fold, List.nil_append]
theorem mem_enRows {ws : List Web} {p : Nat} {r : List Nat} : (p, r) ∈ en (rowsOf ws) ↔ p < placesIn ws ∧ r = rowN ws p := by
  rw [mem_en]
  constructor
  · intro h
    have hl := (List.getElem?_eq_some_iff.mp h).1
    rw [rowsOf_len] at hl
    refine ⟨hl, ?_⟩
    unfold rowN
    rw [List.getD_eq_getElem?_getD, h]
    rfl
  · intro ⟨h, e⟩
    rw [e]
    exact getD_some (by rw [rowsOf_len]; exact h)
theorem mem_eAt {ws : List Web} {n k : Nat} {row : List Nat} {t : Tie} : t ∈ eAt ws n row k ↔ ∃ o ∈ (wAt ws k).2, row.getD k 0 = o.1 ∧ t = (n, n + (o.2 - o.1) * placesIn (ws.drop (k + 1))) := by
  unfold eAt
  rw [List.mem_map]
  constructor
  · intro ⟨o, ho, e⟩
    rw [List.mem_filter, decide_eq_true_eq] at ho
    exact ⟨o, ho.1, ho.2, e.symm⟩
  · intro ⟨o, h1, h2, e⟩
    exact ⟨o, List.mem_filter.mpr ⟨h1, by simpa using h2⟩, e.symm⟩
/-- webs that can be multiplied -/
def Good (ws : List Web) : Prop := ∀ w ∈ ws, Plain w ∧ Conn w ∧ 0 < w.1
theorem wAt_mem {ws : List Web} {k : Nat} (h : k < ws.length) : wAt ws k ∈ ws := by
  unfold wAt
  rw [List.getD_eq_getElem?_getD, List.getElem?_eq_getElem h]
  exact List.getElem_mem h
section
variable {ws : List Web} (G : Good ws)
include G
theorem set_ok {r : List Nat} {k y : Nat} (h : RowOk ws r) (hk : k < ws.length) (hy : y < (wAt ws k).1) : RowOk ws (r.set k y) := by
  refine ⟨by rw [List.length_set]; exact h.len, fun i hi => ?_⟩
  rw [getD_set (by rw [h.len]; exact hk)]
  split
  · rename_i z; rw [z]; exact hy
  · exact h.lt i hi
/-- a step: the row beside -/
theorem step_row {p k : Nat} {o : Tie} (hp : p < placesIn ws) (hk : k < ws.length) (ho : o ∈ (wAt ws k).2) (e : (rowN ws p).getD k 0 = o.1) :
    p + (o.2 - o.1) * placesIn (ws.drop (k + 1)) < placesIn ws ∧ rowN ws (p + (o.2 - o.1) * placesIn (ws.drop (k + 1))) = (rowN ws p).set k o.2 := by
  have V := (G _ (wAt_mem hk)).1
  have ht := V.tie o ho
  obtain ⟨r1, r2⟩ := num_of_row ws p hp
  have s := set_num ws (rowN ws p) k o.2 r1 hk
  have r3 := row_of_num ws _ (set_ok G r1 hk ht.2)
  rw [e, r2] at s
  have e2 : numberIn ws ((rowN ws p).set k o.2) = p + (o.2 - o.1) * placesIn (ws.drop (k + 1)) := by
    rw [Nat.sub_mul]
    have : o.1 * placesIn (ws.drop (k + 1)) ≤ o.2 * placesIn (ws.drop (k + 1)) := Nat.mul_le_mul_right _ (by omega)
    omega
  rw [← e2]
  exact r3
theorem mem_prod {t : Tie} : t ∈ (prodOf ws).2 ↔ ∃ p k o, p < placesIn ws ∧ k < ws.length ∧ o ∈ (wAt ws k).2 ∧ (rowN ws p).getD k 0 = o.1 ∧ t.1 = p ∧ t.2 < placesIn ws ∧ rowN ws t.2 = (rowN ws p).set k o.2 := by
  rw [prod_ties, mem_srt, List.mem_flatMap]
  constructor
  · intro ⟨⟨p, r⟩, h1, h2⟩
    obtain ⟨hp, rfl⟩ := mem_enRows.mp h1
    unfold rowTies at h2
    rw [List.mem_flatMap] at h2
    obtain ⟨k, hk, h3⟩ := h2
    rw [List.mem_reverse, List.mem_range] at hk
    obtain ⟨o, ho, e, et⟩ := mem_eAt.mp h3
    have s := step_row G hp hk ho e
    rw [et]
    exact ⟨p, k, o, hp, hk, ho, e, rfl, s.1, s.2⟩
  · intro ⟨p, k, o, hp, hk, ho, e, t1, t2, t3⟩
    refine ⟨(p, rowN ws p), mem_enRows.mpr ⟨hp, rfl⟩, ?_⟩
    unfold rowTies
    rw [List.mem_flatMap]
    refine ⟨k, List.mem_reverse.mpr (List.mem_range.mpr hk), mem_eAt.mpr ⟨o, ho, e, ?_⟩⟩
    have s := step_row G hp hk ho e
    refine Prod.ext t1 ?_
    have a := (num_of_row ws _ t2).2
    have b := (num_of_row ws _ s.1).2
    rw [t3] at a
    rw [s.2] at b
    exact a.symm.trans b
theorem pl_pos : 0 < placesIn ws := placesIn_pos fun w hw => (G w hw).2.2
theorem prod_plain : Plain (prodOf ws) := by
  have wpos : ∀ k, 0 < placesIn (ws.drop (k + 1)) := fun k => placesIn_pos fun w hw => (G w (List.mem_of_mem_drop hw)).2.2
  constructor
  · intro t ht
    rw [prod_ties, mem_srt, List.mem_flatMap] at ht
    obtain ⟨⟨p, r⟩, h1, h2⟩ := ht
    obtain ⟨hp, rfl⟩ := mem_enRows.mp h1
    unfold rowTies at h2
    rw [List.mem_flatMap] at h2
    obtain ⟨k, hk, h3⟩ := h2
    rw [List.mem_reverse, List.mem_range] at hk
    obtain ⟨o, ho, e, et⟩ := mem_eAt.mp h3
    have s := step_row G hp hk ho e
    have ho2 := (G _ (wAt_mem hk)).1.tie o ho
    rw [et, prodOf_fst]
    refine ⟨?_, s.1⟩
    show p < p + _
    have := Nat.mul_pos (show 0 < o.2 - o.1 by omega) (wpos k)
    omega
  · rw [prod_ties]
    refine srt_nodup ?_
    rw [List.Nodup, List.pairwise_flatMap]
    constructor
    · rintro ⟨p, r⟩ h1
      obtain ⟨hp, rfl⟩ := mem_enRows.mp h1
      have r1 := (num_of_row ws p hp).1
      unfold rowTies
      rw [List.pairwise_flatMap]
      constructor
      · intro k hk
        rw [List.mem_reverse, List.mem_range] at hk
        have V := (G _ (wAt_mem hk)).1
        unfold eAt
        rw [List.pairwise_map]
        refine List.Pairwise.imp_of_mem (fun {a b} ha hb hne z => hne ?_) (V.nd.filter _)
        rw [List.mem_filter, decide_eq_true_eq] at ha hb
        have h2 := Nat.add_left_cancel (congrArg Prod.snd z)
        have h3 := Nat.eq_of_mul_eq_mul_right (wpos k) h2
        have a1 := V.tie a ha.1
        have b1 := V.tie b hb.1
        have a2 : (rowN ws p).getD k 0 = a.1 := ha.2
        have b2 : (rowN ws p).getD k 0 = b.1 := hb.2
        exact Prod.ext (by omega) (by omega)
      · rw [List.pairwise_reverse]
        refine List.Pairwise.imp_of_mem (fun {k l} hk hl hlt x hx y hy z => ?_) List.pairwise_lt_range
        have hk := List.mem_range.mp hk
        have hl := List.mem_range.mp hl
        obtain ⟨o, ho, e, et⟩ := mem_eAt.mp hx
        obtain ⟨o', ho', e', et'⟩ := mem_eAt.mp hy
        have s := (step_row G hp hl ho e).2
        have s' := (step_row G hp hk ho' e').2
        have e2 : p + (o.2 - o.1) * placesIn (ws.drop (l + 1)) = p + (o'.2 - o'.1) * placesIn (ws.drop (k + 1)) := by
          have := et.symm.trans (z.trans et')
          exact congrArg Prod.snd this
        rw [e2, s'] at s
        have g := congrArg (fun r : List Nat => r.getD l 0) s
        rw [getD_set (by rw [r1.len]; exact hk), getD_set (by rw [r1.len]; exact hl), if_neg (by omega), if_pos rfl] at g
        have := (G _ (wAt_mem hl)).1.tie o ho
        have e : (rowN ws p).getD l 0 = o.1 := e
        omega
    · have h0 : (en (rowsOf ws)).Pairwise fun a b => a.1 < b.1 := by
        have := en_map_fst (rowsOf ws)
        have h2 : ((en (rowsOf ws)).map (·.1)).Pairwise (· < ·) := by
          rw [this]
          exact List.pairwise_lt_range
        rwa [List.pairwise_map] at h2
      refine h0.imp fun {a b} hlt x hx y hy z => ?_
      unfold rowTies at hx hy
      rw [List.mem_flatMap] at hx hy
      obtain ⟨k, _, hx⟩ := hx
      obtain ⟨l, _, hy⟩ := hy
      obtain ⟨o, _, _, et⟩ := mem_eAt.mp hx
      obtain ⟨o', _, _, et'⟩ := mem_eAt.mp hy
      have := congrArg Prod.fst (et.symm.trans (z.trans et'))
      simp only at this
      omega
/-- the product, by rows -/
theorem prod_rw : Rw (placesIn ws) (adjW (prodOf ws)) ws.length (fun i => (wAt ws i).1) (fun i => adjW (wAt ws i)) fun p i => (rowN ws p).getD i 0 := by
  have eqr : ∀ {p q}, p < placesIn ws → q < placesIn ws → (∀ i, i < ws.length → (rowN ws p).getD i 0 = (rowN ws q).getD i 0) → p = q := fun {p q} hp hq h => by
    have a := num_of_row ws p hp
    have b := num_of_row ws q hq
    rw [← a.2, ← b.2]
    congr 1
    exact list_eq (by rw [a.1.len, b.1.len]) fun i hi => h i (by rw [← a.1.len]; exact hi)
  have one : ∀ {p q}, (p, q) ∈ (prodOf ws).2 → ∃ i, i < ws.length ∧ ((rowN ws p).getD i 0, (rowN ws q).getD i 0) ∈ (wAt ws i).2 ∧ ∀ j, j < ws.length → j ≠ i → (rowN ws p).getD j 0 = (rowN ws q).getD j 0 := fun {p q} h => by
    obtain ⟨p', k, o, hp, hk, ho, e, t1, t2, t3⟩ := (mem_prod G).mp h
    have t1 : p = p' := t1
    subst t1
    have t3 : rowN ws q = (rowN ws p).set k o.2 := t3
    have r1 := (num_of_row ws p hp).1
    refine ⟨k, hk, ?_, fun j hj hne => ?_⟩
    · rw [t3, getD_set (by rw [r1.len]; exact hk), if_pos rfl, e]
      exact ho
    · rw [t3, getD_set (by rw [r1.len]; exact hk), if_neg hne]
  refine ⟨fun {p i} hp hi => (num_of_row ws p hp).1.lt i hi, eqr, fun x hx => ?_, fun {p q} hp hq => ?_⟩
  · have ok : RowOk ws ((List.range ws.length).map x) := ⟨map_range_len _ _, fun i hi => by rw [getD_map_range x hi]; exact hx i hi⟩
    obtain ⟨h1, h2⟩ := row_of_num ws _ ok
    exact ⟨_, h1, fun i hi => by rw [h2, getD_map_range x hi]⟩
  · constructor
    · rintro (h | h)
      · obtain ⟨i, hi, h1, h2⟩ := one h
        exact ⟨i, hi, .inl h1, h2⟩
      · obtain ⟨i, hi, h1, h2⟩ := one h
        exact ⟨i, hi, .inr h1, fun j hj hne => (h2 j hj hne).symm⟩
    · have two : ∀ {p q}, p < placesIn ws → q < placesIn ws → ∀ {i}, i < ws.length → ((rowN ws p).getD i 0, (rowN ws q).getD i 0) ∈ (wAt ws i).2 → (∀ j, j < ws.length → j ≠ i → (rowN ws p).getD j 0 = (rowN ws q).getD j 0) → (p, q) ∈ (prodOf ws).2 := fun {p q} hp hq {i} hi h1 h2 => by
        have a := (num_of_row ws p hp).1
        have b := (num_of_row ws q hq).1
        refine (mem_prod G).mpr ⟨p, i, _, hp, hi, h1, rfl, rfl, hq, list_eq (by rw [List.length_set, a.len, b.len]) fun j hj => ?_⟩
        show (rowN ws q).getD j 0 = _
        rw [getD_set (by rw [a.len]; exact hi)]
        split
        · rename_i z; rw [z]
        · rename_i z
          have hj : j < (rowN ws q).length := hj
          exact (h2 j (by rw [← b.len]; exact hj) z).symm
      rintro ⟨i, hi, h1 | h1, h2⟩
      · exact .inl (two hp hq hi h1 h2)
      · exact .inr (two hq hp hi h1 fun j hj hne => (h2 j hj hne).symm)
end
end M

/-! prodOf hangs together and has few ties. -/
namespace M
open Ty (en srt)
open A (Iso Pr Rw Dist)
theorem pr_len {P a b : Web} (V : Plain P) (Va : Plain a) (Vb : Plain b) (hP : P.1 = a.1 * b.1) (R : Pr (a.1 * b.1) (adjW P) a.1 (adjW a) b.1 (adjW b) (· / b.1) (· % b.1) fun x y => x * b.1 + y) : P.2.length ≤ a.2.length * b.1 + b.2.length * a.1 := by
  have len : ∀ (ts : List Tie) (k : Nat) (f : Tie → Nat → Tie), (ts.flatMap fun t => (List.range k).map (f t)).length = ts.length * k := fun ts k f => by
    induction ts with
    | nil => simp
    | cons t ts ih =>
      rw [List.flatMap_cons, List.length_append, ih, List.length_map, List.length_range, List.length_cons, Nat.succ_mul, Nat.add_comm]
  have := List.Nodup.length_le_of_subset V.nd (l₂ := (a.2.flatMap fun t => (List.range b.1).map fun y => (t.1 * b.1 + y, t.2 * b.1 + y)) ++ b.2.flatMap fun t => (List.range a.1).map fun x => (x * b.1 + t.1, x * b.1 + t.2)) fun t ht => by
    obtain ⟨n, m⟩ := t
    have h1 := V.tie _ ht
    rw [hP] at h1
    simp only at h1
    have h3 := (R.adj (p := n) (q := m) (by omega) h1.2).mp (.inl ht)
    have dm := div_lt h1.2
    have dn := div_lt (p := n) (x := a.1) (y := b.1) (by omega)
    have en := put_eq n b.1
    have em := put_eq m b.1
    rcases h3 with ⟨e, h⟩ | ⟨e, h⟩
    · refine List.mem_append_left _ (List.mem_flatMap.mpr ?_)
      rcases h with h | h
      · refine ⟨_, h, List.mem_map.mpr ⟨n % b.1, List.mem_range.mpr dn.2, ?_⟩⟩
        refine Prod.ext en ?_
        show m / b.1 * b.1 + n % b.1 = m
        rw [e]; exact em
      · exfalso
        have hl := (Va.tie _ h).1
        simp only at hl
        have : m / b.1 * b.1 ≤ n / b.1 * b.1 := Nat.mul_le_mul_right _ (by omega)
        omega
    · refine List.mem_append_right _ (List.mem_flatMap.mpr ?_)
      rcases h with h | h
      · refine ⟨_, h, List.mem_map.mpr ⟨n / b.1, List.mem_range.mpr dn.1, ?_⟩⟩
        refine Prod.ext en ?_
        show n / b.1 * b.1 + m % b.1 = m
        rw [e]; exact em
      · exfalso
        have hl := (Vb.tie _ h).1
        simp only at hl
        rw [e] at en
        omega
  rw [List.length_append, len, len] at this
  exact this
theorem good_l {a b : List Web} (G : Good (a ++ b)) : Good a := fun w h => G w (List.mem_append_left _ h)
theorem good_r {a b : List Web} (G : Good (a ++ b)) : Good b := fun w h => G w (List.mem_append_right _ h)
theorem prod_pr {ws : List Web} {w : Web} (G : Good (ws ++ [w])) : Pr ((prodOf ws).1 * w.1) (adjW (prodOf (ws ++ [w]))) (prodOf ws).1 (adjW (prodOf ws)) w.1 (adjW w) (· / w.1) (· % w.1) fun x y => x * w.1 + y := by
  have V := prod_plain G
  have R := prod_rw G
  have S := prod_rw (good_l G)
  have en : (prodOf (ws ++ [w])).1 = (prodOf ws).1 * w.1 := by rw [prodOf_fst, prodOf_fst, pl_snoc]
  have ep : (prodOf ws).1 = placesIn ws := prodOf_fst ws
  have l1 : (ws ++ [w]).length = ws.length + 1 := by rw [List.length_append]; rfl
  have wl : ∀ {i}, i < ws.length → wAt (ws ++ [w]) i = wAt ws i := fun {i} h => by
    unfold wAt
    exact getD_app_l h
  have wr : wAt (ws ++ [w]) ws.length = w := by
    unfold wAt
    exact getD_app_r (xs := ws) (ys := [w]) (i := 0)
  refine ⟨fun {p q} h => ?_, fun h => (div_lt h).1, fun h => (div_lt h).2, put_lt, fun _ h => put_div h, fun _ h => put_mod h, fun {q} _ => put_eq q w.1, fun {p q} hp hq => ?_⟩
  · rw [← en]
    exact ⟨h.lt V, h.symm.lt V⟩
  · rw [ep] at hp hq
    have hp' : p < placesIn (ws ++ [w]) := by rw [pl_snoc]; exact hp
    have hq' : q < placesIn (ws ++ [w]) := by rw [pl_snoc]; exact hq
    obtain ⟨p1, p2⟩ := div_lt hp
    obtain ⟨q1, q2⟩ := div_lt hq
    have a := (num_of_row ws _ p1).1
    have b := (num_of_row ws _ q1).1
    have cl : ∀ {i}, i < ws.length → (rowN (ws ++ [w]) p).getD i 0 = (rowN ws (p / w.1)).getD i 0 ∧ (rowN (ws ++ [w]) q).getD i 0 = (rowN ws (q / w.1)).getD i 0 := fun {i} hi => by
      rw [rowN_snoc ws w hp, rowN_snoc ws w hq, getD_app_l (by rw [a.len]; exact hi), getD_app_l (by rw [b.len]; exact hi)]
      exact ⟨rfl, rfl⟩
    have cr : (rowN (ws ++ [w]) p).getD ws.length 0 = p % w.1 ∧ (rowN (ws ++ [w]) q).getD ws.length 0 = q % w.1 := by
      rw [rowN_snoc ws w hp, rowN_snoc ws w hq]
      constructor
      · rw [← a.len]
        exact getD_app_r (i := 0)
      · rw [← b.len]
        exact getD_app_r (i := 0)
    rw [R.tied hp' hq', l1]
    constructor
    · intro ⟨i, hi, h1, h2⟩
      by_cases c : i < ws.length
      · simp only [wl c] at h1
        rw [(cl c).1, (cl c).2] at h1
        refine .inl ⟨?_, (S.tied p1 q1).mpr ⟨i, c, h1, fun j hj hne => ?_⟩⟩
        · have := h2 ws.length (by omega) (by omega)
          rwa [cr.1, cr.2] at this
        · have := h2 j (by omega) hne
          rwa [(cl hj).1, (cl hj).2] at this
      · have e : i = ws.length := by omega
        subst e
        simp only [wr] at h1
        rw [cr.1, cr.2] at h1
        refine .inr ⟨S.inj p1 q1 fun j hj => ?_, h1⟩
        have := h2 j (by omega) (by omega)
        rwa [(cl hj).1, (cl hj).2] at this
    · rintro (⟨e, h⟩ | ⟨e, h⟩)
      · obtain ⟨i, hi, h1, h2⟩ := (S.tied p1 q1).mp h
        refine ⟨i, by omega, ?_, fun j hj hne => ?_⟩
        · simp only [wl hi]
          rw [(cl hi).1, (cl hi).2]
          exact h1
        · by_cases c : j < ws.length
          · rw [(cl c).1, (cl c).2]
            exact h2 j c hne
          · have ej : j = ws.length := by omega
            rw [ej, cr.1, cr.2]
            exact e
      · refine ⟨ws.length, by omega, ?_, fun j hj hne => ?_⟩
        · simp only [wr]
          rw [cr.1, cr.2]
          exact h
        · have c : j < ws.length := by omega
          rw [(cl c).1, (cl c).2, e]
/-- how many have two or more places -/
def big (ws : List Web) : Nat := (ws.filter fun w => decide (2 ≤ w.1)).length
theorem big_app (a b : List Web) : big (a ++ b) = big a + big b := by
  unfold big
  rw [List.filter_append, List.length_append]
theorem big_one (w : Web) : big [w] = if 2 ≤ w.1 then 1 else 0 := by
  unfold big
  rw [List.filter_cons]
  by_cases c : 2 ≤ w.1
  · rw [if_pos (by simpa using c), if_pos c]
    rfl
  · rw [if_neg (by simpa using c), if_neg c]
    rfl
theorem big_pow : ∀ ws : List Web, (∀ w ∈ ws, 0 < w.1) → 2 ^ big ws ≤ placesIn ws := by
  refine snocInd (fun _ => by decide) fun ws w ih h => ?_
  have ih := ih fun v hv => h v (List.mem_append_left _ hv)
  have hw := h w (by simp)
  rw [big_app, big_one, pl_snoc, Nat.pow_add]
  refine Nat.mul_le_mul ih ?_
  split
  · omega
  · exact hw
theorem prod_conn : ∀ ws : List Web, Good ws → Conn (prodOf ws) := by
  refine snocInd (fun _ q hq => ?_) fun ws w ih G => ?_
  · have hq : q < 1 := hq
    have : q = 0 := by omega
    rw [this]
    exact Rch.refl 0
  · have ih := ih (good_l G)
    have gw := G w (by simp)
    have D := (prod_pr G).dist (distW (prod_plain (good_l G)) ih) (distW gw.1 gw.2.1)
    have en : (prodOf (ws ++ [w])).1 = (prodOf ws).1 * w.1 := by rw [prodOf_fst, prodOf_fst, pl_snoc]
    rw [← en] at D
    exact conn_of (prod_plain G) D (by rw [prodOf_fst]; exact pl_pos G)
theorem one_few {w : Web} (V : Plain w) (h : w.2.length ≤ w.1 + 1) : 2 * w.2.length ≤ 3 * (if 2 ≤ w.1 then 1 else 0) * w.1 := by
  by_cases c : 2 ≤ w.1
  · rw [if_pos c]
    omega
  · rw [if_neg c]
    have : w.2 = [] := List.eq_nil_iff_forall_not_mem.mpr fun t ht => by
      have := V.tie t ht
      omega
    rw [this]
    simp
theorem prod_few : ∀ ws : List Web, Good ws → (∀ w ∈ ws, w.2.length ≤ w.1 + 1) → 2 * (prodOf ws).2.length ≤ 3 * big ws * placesIn ws := by
  refine snocInd (fun _ _ => ?_) fun ws w ih G h => ?_
  · have e : (prodOf []).2.length = 0 := by
      rw [prod_ties, srt_len]
      rfl
    rw [e]
    omega
  have ih := ih (good_l G) fun v hv => h v (List.mem_append_left _ hv)
  have gw := G w (by simp)
  have l := pr_len (prod_plain G) (prod_plain (good_l G)) gw.1 (by rw [prodOf_fst, prodOf_fst, pl_snoc]) (prod_pr G)
  have o := one_few gw.1 (h w (by simp))
  rw [big_app, big_one, pl_snoc]
  rw [prodOf_fst] at l
  generalize (if 2 ≤ w.1 then 1 else 0) = e at o ⊢
  have a1 := Nat.mul_le_mul_right w.1 ih
  have a2 := Nat.mul_le_mul_right (placesIn ws) o
  have e1 : 3 * (big ws + e) * (placesIn ws * w.1) = 3 * big ws * placesIn ws * w.1 + 3 * e * w.1 * placesIn ws := by
    rw [Nat.mul_add, Nat.add_mul]
    congr 1
    · rw [Nat.mul_assoc (3 * big ws)]
    · rw [Nat.mul_assoc (3 * e), Nat.mul_comm w.1]
  have e2 : 2 * ((prodOf ws).2.length * w.1 + w.2.length * placesIn ws) = 2 * (prodOf ws).2.length * w.1 + 2 * w.2.length * placesIn ws := by
    rw [Nat.mul_add, Nat.mul_assoc, Nat.mul_assoc]
  omega
end M

/-! The drawn lists: bases, dressed, matched, led. -/
namespace M
open Ty (en srt T3)
open A (Iso Pr Rw Dist Told catN catN_l catN_r' cat_cases)
/-! ### bases -/
structure BasesOk (bases : List Web) : Prop where
  len : bases.length = 3
  ok : ∀ w ∈ bases, Bas w
theorem bases_ok (p : Pool) : BasesOk (bas1 p).1 := by
  refine ⟨by unfold bas1; rw [mapA_len]; rfl, fun w hw => mapA_all (f := baseStep) (P := Bas) (fun s x _ => ?_) w hw⟩
  have h := sizes_ok _ (takeV_lt s (m := 8) (by decide))
  exact web_bas (takeS s 8) h.1 h.2
theorem BasesOk.at {bases : List Web} (B : BasesOk bases) {x : Nat} (hx : x < 3) : Bas (wAt bases x) := B.ok _ (wAt_mem (by rw [B.len]; exact hx))
theorem bounds_ok : ∀ v, v < 4 → 1 ≤ bounds.getD v 0 ∧ bounds.getD v 0 ≤ 18 := by decide
theorem pick_places {bases : List Web} {bound : Nat} : ∀ (is : List Nat) (s : Pool × List Nat), placesIn (s.2.map (wAt bases)) ≤ bound → placesIn ((is.foldl (pickStep bases bound) s).2.map (wAt bases)) ≤ bound
  | [], s, h => h
  | i :: is, s, h => by
    rw [List.foldl_cons]
    refine pick_places is _ ?_
    unfold pickStep
    simp only
    split
    · rename_i c
      exact c
    · exact h
/-! ### dressed -/
structure DrOk (bases : List Web) (o : Drs) : Prop where
  all : All (wAt bases o.a).1 o.b
  ren : o.c = renumbered (wAt bases o.a) o.b
theorem dressed_ok (bases : List Web) : ∀ (xs : List Nat) (p : Pool), (dressed p bases xs).1.map (·.a) = xs ∧ ∀ o ∈ (dressed p bases xs).1, DrOk bases o
  | [], p => ⟨rfl, fun o h => by cases h⟩
  | x :: xs, p => by
    have ih := dressed_ok bases xs (drStep bases p x).2
    have e : (dressed p bases (x :: xs)).1 = (drStep bases p x).1 :: (dressed (drStep bases p x).2 bases xs).1 := rfl
    rw [e]
    refine ⟨?_, fun o ho => ?_⟩
    · rw [List.map_cons, ih.1]
      rfl
    · rcases List.mem_cons.mp ho with h | h
      · rw [h]
        exact ⟨(shuf_all p _).1, rfl⟩
      · exact ih.2 o h
section
variable {bases : List Web} {o : Drs}
theorem DrOk.fst (h : DrOk bases o) : o.c.1 = (wAt bases o.a).1 := by rw [h.ren]; rfl
theorem DrOk.good (B : BasesOk bases) (h : DrOk bases o) (hx : o.a < 3) : Plain o.c ∧ Conn o.c ∧ 0 < o.c.1 ∧ o.c.1 ≤ 12 ∧ o.c.2.length ≤ o.c.1 + 1 := by
  have b := B.at hx
  have r := ren_plain b.plain h.all
  have i := ren_iso b.plain h.all
  have c := iso_conn b.plain r.1 b.conn i
  rw [← h.ren] at r c
  refine ⟨r.1, c, by rw [h.fst]; exact b.pos, by rw [h.fst]; exact b.le, ?_⟩
  rw [h.fst, r.2.2]
  exact b.few
theorem iso_flip {n n' : Nat} {adj adj' : Nat → Nat → Prop} {φ ψ : Nat → Nat} (I : Iso n adj n' adj' φ) (h : ∀ q, q < n' → ψ q < n ∧ φ (ψ q) = q) : Iso n' adj' n adj ψ := by
  refine ⟨fun hq => (h _ hq).1, fun {p q} hp hq e => ?_, fun {p} hp => ⟨φ p, I.lt hp, ?_⟩, fun {p q} hp hq => ?_⟩
  · rw [← (h p hp).2, e, (h q hq).2]
  · have := h (φ p) (I.lt hp)
    exact I.inj this.1 hp this.2
  · rw [I.tied (h p hp).1 (h q hq).1, (h p hp).2, (h q hq).2]
theorem ren_back {w : Web} {o : List Nat} (V : Plain w) (O : All w.1 o) : Iso (renumbered w o).1 (adjW (renumbered w o)) w.1 (adjW w) o.idxOf :=
  iso_flip (ren_iso V O) fun q hq => ⟨O.idx hq, getD_idx (O.mem hq)⟩
theorem dr_iso (B : BasesOk bases) {o q : Drs} (h : DrOk bases o) (h' : DrOk bases q) (hx : o.a < 3) (e : q.a = o.a) : Iso o.c.1 (adjW o.c) q.c.1 (adjW q.c) fun x => q.b.getD (o.b.idxOf x) 0 := by
  have b := (B.at hx).plain
  have i := ren_back b h.all
  have h2 := h'.all
  rw [e] at h2
  have j := ren_iso b h2
  have k := i.comp j
  have r := h'.ren
  rw [e] at r
  rw [← h.ren, ← r] at k
  exact k
end
/-! ### matched -/
theorem which_eq {Y : List Drs} {j : Nat} {o : Drs} (h : Y[j]? = some o) : whichAt Y j = o.a := by
  unfold whichAt
  rw [h]
  rfl
theorem which_map (Y : List Drs) : (List.range Y.length).map (whichAt Y) = Y.map (·.a) := by
  apply List.ext_getElem?
  intro j
  by_cases h : j < Y.length
  · rw [get_map_range _ h, List.getElem?_map, List.getElem?_eq_getElem h, which_eq (List.getElem?_eq_getElem h)]
    rfl
  · rw [List.getElem?_eq_none (by simp; omega), List.getElem?_eq_none (by simp; omega)]
structure MtI (Y : List Drs) (done : List Nat) (left : List (List Nat)) (rest : List Drs) : Prop where
  len : left.length = 3
  nd : ∀ x, x < 3 → (left.getD x []).Nodup
  ok : ∀ x, x < 3 → ∀ j ∈ left.getD x [], j < Y.length ∧ whichAt Y j = x ∧ j ∉ done
  cnt : ∀ x, x < 3 → (left.getD x []).length = rest.countP fun o => decide (o.a = x)
theorem mt_ok {Y : List Drs} : ∀ (rest : List Drs) (p : Pool) (done : List Nat) (left : List (List Nat)), (∀ o ∈ rest, o.a < 3) → done.Nodup → MtI Y done left rest →
    (mapA mtStep rest (p, left)).1.length = rest.length ∧ (done ++ (mapA mtStep rest (p, left)).1).Nodup ∧ (∀ (k : Nat) o j, rest[k]? = some o → (mapA mtStep rest (p, left)).1[k]? = some j → j < Y.length ∧ whichAt Y j = o.a) ∧
      ∀ (i : Nat) o, rest[i]? = some o → 0 < ((mapA mtStep (rest.take i) (p, left)).2.2.getD o.a []).length
  | [], p, done, left, _, nd, _ => ⟨rfl, by simpa [mapA] using nd, (fun k o j h => by simp at h), fun i o h => by simp at h⟩
  | o :: rest, p, done, left, h3, nd, I => by
    have ho := h3 o (List.mem_cons_self ..)
    have pos : 0 < (left.getD o.a []).length := by
      rw [I.cnt _ ho, List.countP_cons, if_pos (by simp)]
      omega
    have hv := takeV_lt p pos
    generalize hj : (left.getD o.a []).getD (takeV p (left.getD o.a []).length) 0 = j
    generalize hl : left.set o.a ((left.getD o.a []).eraseIdx (takeV p (left.getD o.a []).length)) = left'
    have es : mtStep (p, left) o = (j, (takeS p (left.getD o.a []).length, left')) := by
      unfold mtStep
      simp only
      rw [hj, hl]
    have hjm : j ∈ left.getD o.a [] := by
      rw [← hj]
      exact getD_mem hv
    have hjo := I.ok _ ho j hjm
    have pm := erase_perm hv
    rw [hj] at pm
    have nd2 := pm.nodup_iff.mpr (I.nd _ ho)
    rw [List.nodup_cons] at nd2
    have gl : ∀ x, left'.getD x [] = if x = o.a then (left.getD o.a []).eraseIdx (takeV p (left.getD o.a []).length) else left.getD x [] := fun x => by
      rw [← hl]
      exact getD_set (by rw [I.len]; exact ho)
    have I' : MtI Y (done ++ [j]) left' rest := by
      refine ⟨by rw [← hl, List.length_set]; exact I.len, fun x hx => ?_, fun x hx y hy => ?_, fun x hx => ?_⟩
      · rw [gl]
        split
        · exact nd2.2
        · exact I.nd x hx
      · rw [gl] at hy
        by_cases c : x = o.a
        · rw [if_pos c] at hy
          have hy2 := I.ok x hx y (by rw [c]; exact List.mem_of_mem_eraseIdx hy)
          refine ⟨hy2.1, hy2.2.1, fun z => ?_⟩
          rcases List.mem_append.mp z with z | z
          · exact hy2.2.2 z
          · rw [List.mem_singleton.mp z] at hy
            exact nd2.1 hy
        · rw [if_neg c] at hy
          have hy2 := I.ok x hx y hy
          refine ⟨hy2.1, hy2.2.1, fun z => ?_⟩
          rcases List.mem_append.mp z with z | z
          · exact hy2.2.2 z
          · rw [List.mem_singleton.mp z] at hy2
            exact c (hy2.2.1.symm.trans hjo.2.1)
      · have c1 := I.cnt x hx
        rw [List.countP_cons] at c1
        rw [gl]
        by_cases c : x = o.a
        · rw [if_pos c, List.length_eraseIdx_of_lt hv, ← c, c1, if_pos (by simp [c])]
          omega
        · rw [if_neg c, c1, if_neg (by simp [Ne.symm c])]
          rfl
    have nd' : (done ++ [j]).Nodup := by
      rw [List.nodup_append]
      exact ⟨nd, by simp, fun a ha b hb e => hjo.2.2 (by rw [← List.mem_singleton.mp hb, ← e]; exact ha)⟩
    have ih := mt_ok rest (takeS p (left.getD o.a []).length) (done ++ [j]) left' (fun q hq => h3 q (List.mem_cons_of_mem _ hq)) nd' I'
    have e : mapA mtStep (o :: rest) (p, left) = (j :: (mapA mtStep rest (takeS p (left.getD o.a []).length, left')).1, (mapA mtStep rest (takeS p (left.getD o.a []).length, left')).2) := by
      show ((mtStep (p, left) o).1 :: (mapA mtStep rest (mtStep (p, left) o).2).1, (mapA mtStep rest (mtStep (p, left) o).2).2) = _
      rw [es]
    refine ⟨?_, ?_, fun k q y hq hy => ?_, fun i q hq => ?_⟩
    · rw [e, List.length_cons, List.length_cons, ih.1]
    · rw [e]
      have := ih.2.1
      rwa [List.append_assoc] at this
    · rw [e] at hy
      cases k with
      | zero =>
        have e1 : o = q := Option.some.inj hq
        have e2 : j = y := Option.some.inj hy
        rw [← e1, ← e2]
        exact ⟨hjo.1, hjo.2.1⟩
      | succ k => exact ih.2.2.1 k q y hq hy
    · cases i with
      | zero =>
        have e1 : o = q := Option.some.inj hq
        rw [← e1]
        exact pos
      | succ i =>
        have := ih.2.2.2 i q hq
        have e2 : (mapA mtStep ((o :: rest).take (i + 1)) (p, left)).2 = (mapA mtStep (rest.take i) (takeS p (left.getD o.a []).length, left')).2 := by
          show (mapA mtStep (rest.take i) (mtStep (p, left) o).2).2 = _
          rw [es]
        rw [e2]
        exact this
theorem left0_i {X Y : List Drs} (h : (X.map (·.a)).Perm (Y.map (·.a))) : MtI Y [] (left0 Y) X := by
  have g : ∀ x, x < 3 → (left0 Y).getD x [] = (List.range Y.length).filter fun j => decide (whichAt Y j = x) := fun x hx => by
    unfold left0
    exact getD_map_range _ hx []
  refine ⟨by unfold left0; rw [map_range_len], fun x hx => ?_, fun x hx j hj => ?_, fun x hx => ?_⟩
  · rw [g x hx]
    exact List.nodup_range.filter _
  · rw [g x hx, List.mem_filter, List.mem_range, decide_eq_true_eq] at hj
    exact ⟨hj.1, hj.2, fun z => by cases z⟩
  · rw [g x hx, ← List.countP_eq_length_filter]
    have e1 : (List.range Y.length).countP (fun j => decide (whichAt Y j = x)) = (Y.map (·.a)).countP fun y => decide (y = x) := by
      rw [← which_map, List.countP_map]
      rfl
    have e2 : X.countP (fun o => decide (o.a = x)) = (X.map (·.a)).countP fun y => decide (y = x) := by
      rw [List.countP_map]
      rfl
    rw [e1, e2]
    exact (h.countP_eq _).symm
/-- what matched tells -/
theorem matched_ok {X Y : List Drs} (p : Pool) (h : (X.map (·.a)).Perm (Y.map (·.a))) (h3 : ∀ o ∈ X, o.a < 3) :
    All X.length (matched p X Y).1 ∧ (∀ (k : Nat) o, X[k]? = some o → ∃ q, Y[(matched p X Y).1.getD k 0]? = some q ∧ q.a = o.a) ∧ ∀ (i : Nat) o, X[i]? = some o → 0 < ((mapA mtStep (X.take i) (p, left0 Y)).2.2.getD o.a []).length := by
  obtain ⟨h1, h2, h4, h5⟩ := mt_ok X p [] (left0 Y) h3 List.nodup_nil (left0_i h)
  have hl : X.length = Y.length := by
    have := h.length_eq
    rwa [List.length_map, List.length_map] at this
  have at_ : ∀ k, k < X.length → (matched p X Y).1[k]? = some ((matched p X Y).1.getD k 0) := fun k hk => getD_some (by unfold matched; rw [h1]; exact hk)
  refine ⟨⟨h1, h2, fun j hj => ?_⟩, fun k o hk => ?_, h5⟩
  · obtain ⟨k, hk⟩ := List.mem_iff_getElem?.mp hj
    have hkl := (List.getElem?_eq_some_iff.mp hk).1
    have hkx : k < X.length := by
      have e : (matched p X Y).1.length = X.length := h1
      omega
    have := (h4 k X[k] j (List.getElem?_eq_getElem hkx) hk).1
    omega
  · have hkx := (List.getElem?_eq_some_iff.mp hk).1
    have := h4 k o _ hk (at_ k hkx)
    refine ⟨Y[(matched p X Y).1.getD k 0], List.getElem?_eq_getElem this.1, ?_⟩
    rw [← this.2]
    exact (which_eq (List.getElem?_eq_getElem this.1)).symm
/-! ### led -/
theorem led_get {X Y : List Drs} {mt row : List Nat} (M : All row.length mt) : (led X Y mt row).length = row.length ∧
    ∀ k, k < row.length → (led X Y mt row).getD (mt.getD k 0) 0 = (((Y[mt.getD k 0]?).map (·.b)).getD []).getD ((((X[k]?).map (·.b)).getD []).idxOf (row.getD k 0)) 0 := by
  have g := set_all (fun p : Nat × Nat => mt.getD p.1 0) (fun p => (((Y[mt.getD p.1 0]?).map (·.b)).getD []).getD ((((X[p.1]?).map (·.b)).getD []).idxOf p.2) 0) (en row) (List.replicate row.length 0) (by
    rw [show (fun p : Nat × Nat => mt.getD p.1 0) = (fun k => mt.getD k 0) ∘ fun p : Nat × Nat => p.1 from rfl, ← List.map_map, en_map_fst, List.Nodup, List.pairwise_map]
    exact List.Pairwise.imp_of_mem (fun {a b} ha hb hne z => hne (M.inj (List.mem_range.mp ha) (List.mem_range.mp hb) z)) List.nodup_range) fun p hp => by
    rw [List.length_replicate]
    exact M.get (List.getElem?_eq_some_iff.mp (mem_en.mp hp)).1
  refine ⟨g.1.trans (by rw [List.length_replicate]), fun k hk => ?_⟩
  have := g.2.1 (k, row.getD k 0) (mem_en.mpr (getD_some hk))
  rw [List.getD_eq_getElem?_getD]
  unfold led ledStep
  rw [this]
  rfl
/-! ### back and forth -/
def backRow (u v : List Web) (n0 n2 : List Nat) (p : Nat) : List Nat := rowN u (n0.idxOf (p / (prodOf v).1)) ++ rowN v (n2.idxOf (p % (prodOf v).1))
def fwdRow (u v : List Web) (n0 n2 : List Nat) (r : List Nat) : Nat := n0.getD (numberIn u (r.take u.length)) 0 * (prodOf v).1 + n2.getD (numberIn v (r.drop u.length)) 0
theorem rowOk_app {u v : List Web} {r s : List Nat} (h1 : RowOk u r) (h2 : RowOk v s) : RowOk (u ++ v) (r ++ s) := by
  refine ⟨by rw [List.length_append, List.length_append, h1.len, h2.len], fun i hi => ?_⟩
  rw [List.length_append] at hi
  unfold wAt
  rcases cat_cases hi with h | ⟨j, hj, rfl⟩
  · rw [getD_app_l (by rw [h1.len]; exact h), getD_app_l h]
    exact h1.lt i h
  · rw [getD_app_r, ← h1.len, getD_app_r]
    exact h2.lt j hj
theorem rowOk_take {u v : List Web} {r : List Nat} (h : RowOk (u ++ v) r) : RowOk u (r.take u.length) ∧ RowOk v (r.drop u.length) := by
  have hl := h.len
  rw [List.length_append] at hl
  have e : r = r.take u.length ++ r.drop u.length := (List.take_append_drop ..).symm
  have tl : (r.take u.length).length = u.length := by rw [List.length_take]; omega
  refine ⟨⟨tl, fun i hi => ?_⟩, ⟨by rw [List.length_drop]; omega, fun i hi => ?_⟩⟩
  · have := h.lt i (by rw [List.length_append]; omega)
    rw [e, getD_app_l (by rw [tl]; exact hi)] at this
    unfold wAt at this ⊢
    rwa [getD_app_l hi] at this
  · have := h.lt (u.length + i) (by rw [List.length_append]; omega)
    unfold wAt at this ⊢
    rw [getD_app_r] at this
    rw [e] at this
    have e2 := getD_app_r (xs := r.take u.length) (ys := r.drop u.length) (i := i) (d := 0)
    rw [tl] at e2
    rwa [e2] at this
section
variable {u v : List Web} {n0 n2 : List Nat}
theorem fwd_back (O0 : All (prodOf u).1 n0) (O2 : All (prodOf v).1 n2) {r : List Nat} (h : RowOk (u ++ v) r) : fwdRow u v n0 n2 r < (prodOf u).1 * (prodOf v).1 ∧ backRow u v n0 n2 (fwdRow u v n0 n2 r) = r ∧ numberIn u (r.take u.length) < (prodOf u).1 ∧ numberIn v (r.drop u.length) < (prodOf v).1 := by
  obtain ⟨h1, h2⟩ := rowOk_take h
  have a := row_of_num u _ h1
  have b := row_of_num v _ h2
  rw [← prodOf_fst] at a b
  have a1 := O0.get a.1
  have b1 := O2.get b.1
  refine ⟨put_lt a1 b1, ?_, a.1, b.1⟩
  unfold backRow fwdRow
  rw [put_div b1, put_mod b1, idx_getD O0.nd (by rw [O0.len]; exact a.1), idx_getD O2.nd (by rw [O2.len]; exact b.1), a.2, b.2]
  exact List.take_append_drop ..
theorem back_ok (O0 : All (prodOf u).1 n0) (O2 : All (prodOf v).1 n2) {p : Nat} (h : p < (prodOf u).1 * (prodOf v).1) : RowOk (u ++ v) (backRow u v n0 n2 p) := by
  obtain ⟨h1, h2⟩ := div_lt h
  have a := O0.idx h1
  have b := O2.idx h2
  rw [prodOf_fst u] at a
  exact rowOk_app (num_of_row u _ a).1 (num_of_row v _ (Nat.lt_of_lt_of_eq b (prodOf_fst v))).1
theorem made_rw (Gu : Good u) (Gv : Good v) (O0 : All (prodOf u).1 n0) (O2 : All (prodOf v).1 n2) :
    Rw ((prodOf u).1 * (prodOf v).1) (adjW (madeOf [renumbered (prodOf u) n0, renumbered (prodOf v) n2])) (u ++ v).length (fun i => (wAt (u ++ v) i).1) (fun i => adjW (wAt (u ++ v) i)) fun p i => (backRow u v n0 n2 p).getD i 0 := by
  have Pu := prod_plain Gu
  have Pv := prod_plain Gv
  have Ru := ren_plain Pu O0
  have Rv := ren_plain Pv O2
  have Su := prod_rw Gu
  have Sv := prod_rw Gv
  rw [← prodOf_fst] at Su Sv
  have Mu := Su.move (ren_iso Pu O0) (ψ := n0.idxOf) fun p hp => idx_getD O0.nd (by rw [O0.len]; exact hp)
  have Mv := Sv.move (ren_iso Pv O2) (ψ := n2.idxOf) fun p hp => idx_getD O2.nd (by rw [O2.len]; exact hp)
  have F := (made_pr Ru.1 Rv.1).rw Mu Mv
  have e1 : (renumbered (prodOf u) n0).1 = (prodOf u).1 := rfl
  have e2 : (renumbered (prodOf v) n2).1 = (prodOf v).1 := rfl
  rw [e1, e2] at F
  rw [List.length_append]
  have hm : ∀ i, i < u.length + v.length → catN u.length (fun i => (wAt u i).1) (fun i => (wAt v i).1) i = (wAt (u ++ v) i).1 ∧ catN u.length (fun i => adjW (wAt u i)) (fun i => adjW (wAt v i)) i = adjW (wAt (u ++ v) i) := fun i hi => by
    rcases cat_cases hi with h | ⟨j, hj, rfl⟩
    · rw [catN_l _ _ h, catN_l _ _ h]
      unfold wAt
      rw [getD_app_l h]
      exact ⟨rfl, rfl⟩
    · rw [catN_r', catN_r']
      unfold wAt
      rw [getD_app_r]
      exact ⟨rfl, rfl⟩
  have hc : ∀ p i, p < (prodOf u).1 * (prodOf v).1 → i < u.length + v.length → catN u.length (fun i => (rowN u (n0.idxOf (p / (prodOf v).1))).getD i 0) (fun i => (rowN v (n2.idxOf (p % (prodOf v).1))).getD i 0) i = (backRow u v n0 n2 p).getD i 0 := fun p i hp hi => by
    obtain ⟨h1, h2⟩ := div_lt hp
    have a := O0.idx h1
    rw [prodOf_fst u] at a
    have l := (num_of_row u _ a).1.len
    unfold backRow
    rcases cat_cases hi with h | ⟨j, hj, rfl⟩
    · rw [catN_l _ _ h, getD_app_l (by rw [l]; exact h)]
    · rw [catN_r']
      have := getD_app_r (xs := rowN u (n0.idxOf (p / (prodOf v).1))) (ys := rowN v (n2.idxOf (p % (prodOf v).1))) (i := j) (d := 0)
      rw [l] at this
      exact this.symm
  refine ⟨fun {p i} hp hi => ?_, fun {p q} hp hq h => F.inj hp hq fun i hi => ?_, fun x hx => ?_, fun {p q} hp hq => ?_⟩
  · rw [← hc p i hp hi, ← (hm i hi).1]
    exact F.lt hp hi
  · show catN _ _ _ _ = catN _ _ _ _
    rw [hc p i hp hi, hc q i hq hi]
    exact h i hi
  · obtain ⟨p, hp, e⟩ := F.sur x fun i hi => by rw [(hm i hi).1]; exact hx i hi
    exact ⟨p, hp, fun i hi => by rw [← hc p i hp hi]; exact e i hi⟩
  · rw [F.tied hp hq]
    constructor
    · intro ⟨i, hi, h1, h2⟩
      refine ⟨i, hi, ?_, fun j hj hne => ?_⟩
      · rw [← (hm i hi).2, ← hc p i hp hi, ← hc q i hq hi]; exact h1
      · rw [← hc p j hp hj, ← hc q j hq hj]; exact h2 j hj hne
    · intro ⟨i, hi, h1, h2⟩
      refine ⟨i, hi, ?_, fun j hj hne => ?_⟩
      · have h1 : adjW (wAt (u ++ v) i) ((backRow u v n0 n2 p).getD i 0) ((backRow u v n0 n2 q).getD i 0) := h1
        rw [← (hm i hi).2, ← hc p i hp hi, ← hc q i hq hi] at h1
        exact h1
      · show catN _ _ _ _ = catN _ _ _ _
        rw [hc p j hp hj, hc q j hq hj]; exact h2 j hj hne
end
end M

/-! A drawn case is as the checks ask. -/
namespace M
open Ty (en srt T3)
open A (Iso Pr Rw Dist Told pigSur)
theorem pl_cons (w : Web) (ws : List Web) : placesIn (w :: ws) = w.1 * placesIn ws := by
  have := placesIn_app [w] ws
  rw [show [w] ++ ws = w :: ws from rfl] at this
  rw [this]
  show 1 * w.1 * _ = _
  rw [Nat.one_mul]
theorem pl_perm {xs ys : List Web} (h : xs.Perm ys) : placesIn xs = placesIn ys := by
  induction h with
  | nil => rfl
  | cons x _ ih => rw [pl_cons, pl_cons, ih]
  | swap x y l => rw [pl_cons, pl_cons, pl_cons, pl_cons, ← Nat.mul_assoc, ← Nat.mul_assoc, Nat.mul_comm x.1]
  | trans _ _ ih1 ih2 => exact ih1.trans ih2
theorem pl_dr {bases : List Web} : ∀ {xs : List Drs}, (∀ o ∈ xs, DrOk bases o) → placesIn (xs.map (·.c)) = placesIn ((xs.map (·.a)).map (wAt bases))
  | [], _ => rfl
  | o :: xs, h => by
    rw [List.map_cons, List.map_cons, List.map_cons, pl_cons, pl_cons, pl_dr fun q hq => h q (List.mem_cons_of_mem _ hq), (h o (List.mem_cons_self ..)).fst]
theorem rows_nodup (ws : List Web) : (rowsOf ws).Nodup := by
  have e : rowsOf ws = (List.range (placesIn ws)).map (rowN ws) := by
    apply List.ext_getElem?
    intro i
    by_cases h : i < placesIn ws
    · rw [get_map_range _ h]
      exact getD_some (by rw [rowsOf_len]; exact h)
    · rw [List.getElem?_eq_none (by rw [rowsOf_len]; omega), List.getElem?_eq_none (by simp; omega)]
  rw [e, List.Nodup, List.pairwise_map]
  refine List.Pairwise.imp_of_mem (fun {a b} ha hb hne z => hne ?_) List.nodup_range
  rw [← (num_of_row ws a (List.mem_range.mp ha)).2, ← (num_of_row ws b (List.mem_range.mp hb)).2, z]
structure CF (c : CaseS) : Prop where
  B : BasesOk c.bases
  lt3 : ∀ x ∈ c.some, x < 3
  few : c.some.length ≤ 5
  pl : placesIn (c.some.map (wAt c.bases)) ≤ 18
  cut : c.cut ≤ c.some.length
  a1 : c.ones.map (·.a) = c.some.take c.cut
  a2 : c.others.map (·.a) = c.order.map fun k => c.some.getD k 0
  a3 : c.thirds.map (·.a) = c.some.drop c.cut
  d1 : ∀ o ∈ c.ones, DrOk c.bases o
  d2 : ∀ o ∈ c.others, DrOk c.bases o
  d3 : ∀ o ∈ c.thirds, DrOk c.bases o
  ord : All c.cut c.order ∧ c.order.Perm (List.range c.cut)
  mt : c.mt = (matched c.p5 (c.ones ++ c.thirds) (c.others ++ c.thirds)).1
theorem found_ok {s1 : List Web × Pool} : (∀ x ∈ (bas2 s1 5).2, x < 3) ∧ (bas2 s1 5).2.length ≤ 5 ∧ placesIn ((bas2 s1 5).2.map (wAt s1.1)) ≤ 18 := by
  unfold bas2
  have b := bounds_ok _ (takeV_lt s1.2 (m := 4) (by decide))
  generalize bounds.getD (takeV s1.2 4) 0 = bound at b ⊢
  have hn := takeV_lt (takeS s1.2 4) (m := 5 + 1) (Nat.succ_pos 5)
  generalize takeV (takeS s1.2 4) (5 + 1) = n at hn ⊢
  generalize takeS (takeS s1.2 4) (5 + 1) = q
  have pk := pick_ok (bases := s1.1) (bound := bound) (List.range n) (q, []) (fun x hx => absurd hx List.not_mem_nil)
  have pp := pick_places (bases := s1.1) (bound := bound) (List.range n) (q, []) b.1
  rw [List.length_range] at pk
  refine ⟨pk.1, ?_, Nat.le_trans pp b.2⟩
  have := pk.2
  rw [List.length_nil, Nat.zero_add] at this
  omega
theorem cf {w : Pool} {c : CaseS} (ic : IsCase w c) : CF c := by
  have e1 : (basS w 5).bases = (bas1 w).1 := by simp only [basS]
  have e2 : (basS w 5).found = (bas2 (bas1 w) 5).2 := by simp only [basS]
  have fo := found_ok (s1 := bas1 w)
  rw [← e2, ← ic.f2] at fo
  have pk2 := fo.2.1
  have hb : c.bases = (bas1 w).1 := ic.f1.trans e1
  have c4 := ic.f4
  have ct := takeV_lt c.p0 (m := c.some.length + 1) (by omega)
  rw [← c4] at ct
  have r1 := dressed_ok c.bases (c.some.take c.cut) c.p1
  have r2 := dressed_ok c.bases (c.order.map fun k => c.some.getD k 0) c.p3
  have r3 := dressed_ok c.bases (c.some.drop c.cut) c.p4
  rw [← ic.f6] at r1
  rw [← ic.f10] at r2
  rw [← ic.f12] at r3
  have so := shuf_all c.p2 c.cut
  rw [← ic.f8] at so
  refine ⟨by rw [hb]; exact bases_ok w, fo.1, by omega, by rw [hb]; exact fo.2.2, by omega, r1.1, r2.1, r3.1, r1.2, r2.2, r3.2, so, ic.f14⟩
section
variable {c : CaseS} (F : CF c)
include F
theorem CF.x_a : (c.ones ++ c.thirds).map (·.a) = c.some := by
  rw [List.map_append, F.a1, F.a3, List.take_append_drop]
theorem CF.y_perm : ((c.ones ++ c.thirds).map (·.a)).Perm ((c.others ++ c.thirds).map (·.a)) := by
  rw [List.map_append, List.map_append, F.a1, F.a2, F.a3]
  refine List.Perm.append ?_ (List.Perm.refl _)
  have h := F.ord.2.map fun k => c.some.getD k 0
  have e : (List.range c.cut).map (fun k => c.some.getD k 0) = c.some.take c.cut := by
    apply List.ext_getElem?
    intro i
    have := F.cut
    by_cases hi : i < c.cut
    · rw [get_map_range _ hi, List.getElem?_take, if_pos hi]
      exact (getD_some (by omega)).symm
    · rw [List.getElem?_eq_none (by simp; omega), List.getElem?_eq_none (by simp; omega)]
  rw [e] at h
  exact h.symm
theorem CF.dX {o : Drs} (h : o ∈ c.ones ++ c.thirds) : DrOk c.bases o ∧ o.a < 3 := by
  refine ⟨?_, F.lt3 _ (by rw [← F.x_a]; exact List.mem_map.mpr ⟨o, h, rfl⟩)⟩
  rcases List.mem_append.mp h with h | h
  · exact F.d1 o h
  · exact F.d3 o h
theorem CF.dY {o : Drs} (h : o ∈ c.others ++ c.thirds) : DrOk c.bases o ∧ o.a < 3 := by
  refine ⟨?_, F.lt3 _ ?_⟩
  · rcases List.mem_append.mp h with h | h
    · exact F.d2 o h
    · exact F.d3 o h
  · rw [← F.x_a]
    exact F.y_perm.mem_iff.mpr (List.mem_map.mpr ⟨o, h, rfl⟩)
theorem CF.w13 : c.w1 ++ c.w3 = (c.ones ++ c.thirds).map (·.c) := by
  unfold CaseS.w1 CaseS.w3
  rw [List.map_append]
theorem CF.w23 : c.w2 ++ c.w3 = (c.others ++ c.thirds).map (·.c) := by
  unfold CaseS.w2 CaseS.w3
  rw [List.map_append]
theorem CF.g13 {w : Web} (h : w ∈ c.w1 ++ c.w3) : Plain w ∧ Conn w ∧ 0 < w.1 ∧ w.1 ≤ 12 ∧ w.2.length ≤ w.1 + 1 := by
  rw [F.w13] at h
  obtain ⟨o, ho, e⟩ := List.mem_map.mp h
  have := F.dX ho
  rw [← e]
  exact this.1.good F.B this.2
theorem CF.g23 {w : Web} (h : w ∈ c.w2 ++ c.w3) : Plain w ∧ Conn w ∧ 0 < w.1 ∧ w.1 ≤ 12 ∧ w.2.length ≤ w.1 + 1 := by
  rw [F.w23] at h
  obtain ⟨o, ho, e⟩ := List.mem_map.mp h
  have := F.dY ho
  rw [← e]
  exact this.1.good F.B this.2
theorem CF.G1 : Good c.w1 := fun w h => by have := F.g13 (List.mem_append_left _ h); exact ⟨this.1, this.2.1, this.2.2.1⟩
theorem CF.G2 : Good c.w2 := fun w h => by have := F.g23 (List.mem_append_left _ h); exact ⟨this.1, this.2.1, this.2.2.1⟩
theorem CF.G3 : Good c.w3 := fun w h => by have := F.g13 (List.mem_append_right _ h); exact ⟨this.1, this.2.1, this.2.2.1⟩
theorem CF.p13 : placesIn (c.w1 ++ c.w3) ≤ 18 := by
  rw [F.w13, pl_dr fun o ho => (F.dX ho).1, F.x_a]
  exact F.pl
theorem CF.p23 : placesIn (c.w2 ++ c.w3) ≤ 18 := by
  rw [F.w23, pl_dr fun o ho => (F.dY ho).1, ← pl_perm (F.y_perm.map (wAt c.bases)), F.x_a]
  exact F.pl
theorem CF.lX : (c.ones ++ c.thirds).length = c.some.length := by
  have := congrArg List.length F.x_a
  rwa [List.length_map] at this
theorem CF.lY : (c.others ++ c.thirds).length = c.some.length := by
  have := F.y_perm.length_eq
  rw [List.length_map, List.length_map, F.lX] at this
  exact this.symm
theorem CF.l1 : c.ones.length = c.cut := by
  have := congrArg List.length F.a1
  rw [List.length_map, List.length_take] at this
  have := F.cut
  omega
theorem CF.l2 : c.others.length = c.cut := by
  have := congrArg List.length F.a2
  rw [List.length_map, List.length_map, F.ord.1.len] at this
  exact this
theorem CF.l3 : c.thirds.length ≤ 5 := by
  have := congrArg List.length F.a3
  rw [List.length_map, List.length_drop] at this
  have := F.few
  omega
theorem CF.lw1 : c.w1.length = c.cut := by
  unfold CaseS.w1
  rw [List.length_map, F.l1]
theorem CF.lw2 : c.w2.length = c.cut := by
  unfold CaseS.w2
  rw [List.length_map, F.l2]
theorem CF.lw13 : (c.w1 ++ c.w3).length = (c.ones ++ c.thirds).length := by rw [F.w13, List.length_map]
theorem CF.lw23 : (c.w2 ++ c.w3).length = (c.ones ++ c.thirds).length := by rw [F.w23, List.length_map, F.lX, F.lY]
theorem CF.mto : All (c.ones ++ c.thirds).length c.mt ∧ (∀ (k : Nat) o, (c.ones ++ c.thirds)[k]? = some o → ∃ q, (c.others ++ c.thirds)[c.mt.getD k 0]? = some q ∧ q.a = o.a) ∧ ∀ (i : Nat) o, (c.ones ++ c.thirds)[i]? = some o → 0 < ((mapA mtStep ((c.ones ++ c.thirds).take i) (c.p5, left0 (c.others ++ c.thirds))).2.2.getD o.a []).length := by
  have := matched_ok c.p5 F.y_perm fun o ho => (F.dX ho).2
  rw [← F.mt] at this
  exact this
/-- the two that stand for one another -/
theorem CF.pair {k : Nat} (h : k < (c.ones ++ c.thirds).length) : ∃ o q, (c.ones ++ c.thirds)[k]? = some o ∧ (c.others ++ c.thirds)[c.mt.getD k 0]? = some q ∧ q.a = o.a ∧ DrOk c.bases o ∧ DrOk c.bases q ∧ o.a < 3 ∧ wAt (c.w1 ++ c.w3) k = o.c ∧ wAt (c.w2 ++ c.w3) (c.mt.getD k 0) = q.c := by
  have ho := List.getElem?_eq_getElem h
  obtain ⟨q, hq, e⟩ := F.mto.2.1 k _ ho
  have d1 := F.dX (List.mem_of_getElem? ho)
  have d2 := F.dY (List.mem_of_getElem? hq)
  refine ⟨_, q, ho, hq, e, d1.1, d2.1, d1.2, ?_, ?_⟩
  · unfold wAt
    rw [F.w13, List.getD_eq_getElem?_getD, List.getElem?_map, ho]
    rfl
  · unfold wAt
    rw [F.w23, List.getD_eq_getElem?_getD, List.getElem?_map, hq]
    rfl
/-- how a place of web k is led -/
def hAt (c : CaseS) (k x : Nat) : Nat := ((((c.others ++ c.thirds)[c.mt.getD k 0]?).map (·.b)).getD []).getD (((((c.ones ++ c.thirds)[k]?).map (·.b)).getD []).idxOf x) 0
theorem CF.hiso {k : Nat} (h : k < (c.ones ++ c.thirds).length) : Iso (wAt (c.w1 ++ c.w3) k).1 (adjW (wAt (c.w1 ++ c.w3) k)) (wAt (c.w2 ++ c.w3) (c.mt.getD k 0)).1 (adjW (wAt (c.w2 ++ c.w3) (c.mt.getD k 0))) (hAt c k) := by
  obtain ⟨o, q, h1, h2, e, d1, d2, h3, e1, e2⟩ := F.pair h
  rw [e1, e2]
  have I := dr_iso F.B d1 d2 h3 e
  unfold hAt
  rw [h1, h2]
  exact I
theorem CF.img {r : List Nat} (h : RowOk (c.w1 ++ c.w3) r) : RowOk (c.w2 ++ c.w3) (c.img r) ∧ ∀ k, k < (c.ones ++ c.thirds).length → (c.img r).getD (c.mt.getD k 0) 0 = hAt c k (r.getD k 0) := by
  have rl : r.length = (c.ones ++ c.thirds).length := h.len.trans F.lw13
  have M := F.mto.1
  rw [← rl] at M
  have g := led_get (X := c.ones ++ c.thirds) (Y := c.others ++ c.thirds) (row := r) M
  have g2 : ∀ k, k < (c.ones ++ c.thirds).length → (c.img r).getD (c.mt.getD k 0) 0 = hAt c k (r.getD k 0) := fun k hk => g.2 k (by rw [rl]; exact hk)
  refine ⟨⟨g.1.trans (rl.trans F.lw23.symm), fun i hi => ?_⟩, g2⟩
  rw [F.lw23] at hi
  obtain ⟨k, hk, e⟩ := pigSur (f := fun k => c.mt.getD k 0) (fun i hi => F.mto.1.get hi) (fun i j hi hj e => F.mto.1.inj hi hj e) hi
  have e : c.mt.getD k 0 = i := e
  rw [← e, g2 k hk]
  exact (F.hiso hk).lt (h.lt k (by rw [F.lw13]; exact hk))
theorem CF.nums {k : Nat} (hk : k < 3) : All (c.made.getD k (0, [])).1 (c.num k) := by
  have g : ∀ (ws : List Web) (p : Pool) (k : Nat) (l : List Nat), (mapA numStep ws p).1[k]? = some l → All (ws.getD k (0, [])).1 l := by
    intro ws
    induction ws with
    | nil => intro p k l h; simp [mapA] at h
    | cons w ws ih =>
      intro p k l h
      cases k with
      | zero =>
        have e2 : (shuf p w.1).1 = l := Option.some.inj h
        rw [← e2]
        exact (shuf_all p w.1).1
      | succ k => exact ih _ k l h
  exact g c.made c.p6 k _ (nums_len c k hk).1
theorem CF.n0 : All (prodOf c.w1).1 (c.num 0) := F.nums (k := 0) (by decide)
theorem CF.n1 : All (prodOf c.w2).1 (c.num 1) := F.nums (k := 1) (by decide)
theorem CF.n2 : All (prodOf c.w3).1 (c.num 2) := F.nums (k := 2) (by decide)
theorem CF.src (r : List Nat) : c.src r = fwdRow c.w1 c.w3 (c.num 0) (c.num 2) r := by
  unfold CaseS.src fwdRow
  rw [F.lw1]
theorem CF.dst (r : List Nat) : c.dst r = fwdRow c.w2 c.w3 (c.num 1) (c.num 2) (c.img r) := by
  unfold CaseS.dst fwdRow
  rw [F.lw2]
theorem CF.naming_at : c.naming.length = (prodOf c.w1).1 * (prodOf c.w3).1 ∧ ∀ r, RowOk (c.w1 ++ c.w3) r → c.naming.getD (c.src r) 0 = c.dst r := by
  have lt : ∀ r ∈ rowsOf (c.w1 ++ c.w3), c.src r < (List.replicate ((prodOf c.w1).1 * (prodOf c.w3).1) 0).length := fun r hr => by
    rw [List.length_replicate, F.src]
    exact (fwd_back F.n0 F.n2 (mem_rows.mp hr)).1
  have g := set_all c.src c.dst (rowsOf (c.w1 ++ c.w3)) (List.replicate ((prodOf c.w1).1 * (prodOf c.w3).1) 0) (by
    rw [List.Nodup, List.pairwise_map]
    refine List.Pairwise.imp_of_mem (fun {a b} ha hb hne z => hne ?_) (rows_nodup _)
    rw [F.src, F.src] at z
    rw [← (fwd_back F.n0 F.n2 (mem_rows.mp ha)).2.1, z, (fwd_back F.n0 F.n2 (mem_rows.mp hb)).2.1]) lt
  refine ⟨g.1.trans (by rw [List.length_replicate]), fun r hr => ?_⟩
  have := g.2.1 r (mem_rows.mpr hr)
  rw [List.getD_eq_getElem?_getD]
  unfold CaseS.naming CaseS.nstep
  rw [this]
  rfl
theorem CF.web0 : c.web 0 = renumbered (prodOf c.w1) (c.num 0) := rfl
theorem CF.web1 : c.web 1 = renumbered (prodOf c.w2) (c.num 1) := rfl
theorem CF.web2 : c.web 2 = renumbered (prodOf c.w3) (c.num 2) := rfl
theorem CF.naming : IsNaming (madeOf [c.web 0, c.web 2]) (madeOf [c.web 1, c.web 2]) c.naming := by
  rw [F.web0, F.web1, F.web2]
  have R := made_rw F.G1 F.G3 F.n0 F.n2
  have S := made_rw F.G2 F.G3 F.n1 F.n2
  have P1 := (ren_plain (prod_plain F.G1) F.n0).1
  have P2 := (ren_plain (prod_plain F.G2) F.n1).1
  have P3 := (ren_plain (prod_plain F.G3) F.n2).1
  rw [F.lw13] at R
  rw [F.lw23] at S
  have at_ : ∀ {p}, p < (prodOf c.w1).1 * (prodOf c.w3).1 → c.naming.getD p 0 = fwdRow c.w2 c.w3 (c.num 1) (c.num 2) (c.img (backRow c.w1 c.w3 (c.num 0) (c.num 2) p)) := fun {p} hp => by
    have ok := back_ok F.n0 F.n2 hp
    have fb := fwd_back F.n0 F.n2 ok
    have e : fwdRow c.w1 c.w3 (c.num 0) (c.num 2) (backRow c.w1 c.w3 (c.num 0) (c.num 2) p) = p := R.inj fb.1 hp fun i _ => by rw [fb.2.1]
    have := F.naming_at.2 _ ok
    rw [F.src, e, F.dst] at this
    exact this
  have im : ∀ {p}, p < (prodOf c.w1).1 * (prodOf c.w3).1 → _ := fun {p} hp => F.img (back_ok F.n0 F.n2 hp)
  refine namingOf (made_plain P1 P3) (made_plain P2 P3) (by rw [made_fst]; exact F.naming_at.1) ?_
  rw [made_fst, made_fst]
  refine R.join S (π := fun k => c.mt.getD k 0) (f := hAt c) (fun p hp => ?_) ⟨fun {i} hi => F.mto.1.get hi, fun {i j} hi hj e => F.mto.1.inj hi hj e, fun {p i} hp hi => ?_, fun {i} hi => F.hiso hi⟩
  · rw [at_ hp]
    exact (fwd_back F.n1 F.n2 (im hp).1).1
  · show (backRow c.w2 c.w3 (c.num 1) (c.num 2) (c.naming.getD p 0)).getD _ 0 = _
    rw [at_ hp, (fwd_back F.n1 F.n2 (im hp).1).2.1]
    exact (im hp).2 i hi
/-! ### bounds -/
theorem CF.small {u v : List Web} (Gu : Good u) (Gv : Good v) (h : placesIn (u ++ v) ≤ 18) (hf : ∀ w ∈ u ++ v, w.2.length ≤ w.1 + 1) {n0 n2 : List Nat} (O0 : All (prodOf u).1 n0) (O2 : All (prodOf v).1 n2) : FitPre [renumbered (prodOf u) n0, renumbered (prodOf v) n2] := by
  have Pu := prod_plain Gu
  have Pv := prod_plain Gv
  have Ru := ren_plain Pu O0
  have Rv := ren_plain Pv O2
  have pu := pl_pos Gu
  have pv := pl_pos Gv
  have fu := prod_few u Gu fun w hw => hf w (List.mem_append_left _ hw)
  have fv := prod_few v Gv fun w hw => hf w (List.mem_append_right _ hw)
  rw [placesIn_app] at h
  have lu : placesIn u ≤ 18 := Nat.le_trans (Nat.le_mul_of_pos_right _ pv) h
  have lv : placesIn v ≤ 18 := Nat.le_trans (Nat.le_mul_of_pos_left _ pu) h
  have bg : big u + big v ≤ 4 := by
    have b := big_pow (u ++ v) fun w hw => by
      rcases List.mem_append.mp hw with z | z
      · exact (Gu w z).2.2
      · exact (Gv w z).2.2
    rw [placesIn_app, big_app] at b
    refine Nat.le_of_not_lt fun z => ?_
    have : 2 ^ 5 ≤ 2 ^ (big u + big v) := Nat.pow_le_pow_right (by decide) z
    omega
  have tot : 2 * ((prodOf u).2.length * placesIn v + (prodOf v).2.length * placesIn u) ≤ 216 := by
    have a1 := Nat.mul_le_mul_right (placesIn v) fu
    have a2 := Nat.mul_le_mul_right (placesIn u) fv
    have e1 : 3 * big u * placesIn u * placesIn v + 3 * big v * placesIn v * placesIn u = 3 * (big u + big v) * (placesIn u * placesIn v) := by
      rw [Nat.mul_add, Nat.add_mul, Nat.mul_assoc (3 * big u), Nat.mul_assoc (3 * big v), Nat.mul_comm (placesIn v)]
    have e2 : 2 * ((prodOf u).2.length * placesIn v + (prodOf v).2.length * placesIn u) = 2 * (prodOf u).2.length * placesIn v + 2 * (prodOf v).2.length * placesIn u := by
      rw [Nat.mul_add, Nat.mul_assoc, Nat.mul_assoc]
    have e3 : 3 * (big u + big v) * (placesIn u * placesIn v) ≤ 12 * 18 := Nat.mul_le_mul (by omega) h
    omega
  have tu : (prodOf u).2.length ≤ 108 := by
    have : (prodOf u).2.length ≤ (prodOf u).2.length * placesIn v := Nat.le_mul_of_pos_right _ pv
    omega
  have tv : (prodOf v).2.length ≤ 108 := by
    have : (prodOf v).2.length ≤ (prodOf v).2.length * placesIn u := Nat.le_mul_of_pos_right _ pu
    omega
  have Vu : Valid (renumbered (prodOf u) n0) := ⟨by show 1 ≤ (prodOf u).1; rw [prodOf_fst]; exact pu, by show (prodOf u).1 ≤ 40; rw [prodOf_fst]; omega, by rw [Ru.2.2]; omega, Ru.1.tie, Ru.2.1⟩
  have Vv : Valid (renumbered (prodOf v) n2) := ⟨by show 1 ≤ (prodOf v).1; rw [prodOf_fst]; exact pv, by show (prodOf v).1 ≤ 40; rw [prodOf_fst]; omega, by rw [Rv.2.2]; omega, Rv.1.tie, Rv.2.1⟩
  refine ⟨by show 2 ≤ 12; omega, fun w hw => ?_, ?_, ?_⟩
  · rcases List.mem_cons.mp hw with e | hw
    · rw [e]; exact Vu
    · rw [List.mem_singleton.mp hw]; exact Vv
  · rw [pl_two]
    show (prodOf u).1 * (prodOf v).1 ≤ 40
    rw [prodOf_fst, prodOf_fst]
    omega
  · rw [ties_two Vu.pos Vv.pos, Ru.2.2, Rv.2.2]
    show (prodOf u).2.length * (prodOf v).1 + (prodOf v).2.length * (prodOf u).1 ≤ 120
    rw [prodOf_fst, prodOf_fst]
    omega
theorem CF.fit13 : FitPre [c.web 0, c.web 2] := F.small F.G1 F.G3 F.p13 (fun w hw => (F.g13 hw).2.2.2.2) F.n0 F.n2
theorem CF.fit23 : FitPre [c.web 1, c.web 2] := F.small F.G2 F.G3 F.p23 (fun w hw => (F.g23 hw).2.2.2.2) F.n1 F.n2
theorem CF.ren_conn {u : List Web} (Gu : Good u) {n0 : List Nat} (O0 : All (prodOf u).1 n0) : Conn (renumbered (prodOf u) n0) :=
  iso_conn (prod_plain Gu) (ren_plain (prod_plain Gu) O0).1 (prod_conn u Gu) (ren_iso (prod_plain Gu) O0)
theorem CF.right : RightPre (c.web 0) (c.web 1) (c.web 2) c.naming := right_pre (F.ren_conn F.G1 F.n0) (F.ren_conn F.G2 F.n1) (F.ren_conn F.G3 F.n2) F.fit13 F.fit23 F.naming
theorem CF.ok : CaseOk c := by
  have few := F.few
  have cut := F.cut
  have p13 := F.p13
  have p23 := F.p23
  have q1 := pl_pos F.G1
  have q2 := pl_pos F.G2
  have q3 := pl_pos F.G3
  rw [placesIn_app] at p13 p23
  have u1 : placesIn c.w1 ≤ 18 := Nat.le_trans (Nat.le_mul_of_pos_right _ q3) p13
  have u2 : placesIn c.w2 ≤ 18 := Nat.le_trans (Nat.le_mul_of_pos_right _ q3) p23
  have u3 : placesIn c.w3 ≤ 18 := Nat.le_trans (Nat.le_mul_of_pos_left _ q1) p13
  have l3 := F.l3
  have lw3 : c.w3.length = c.thirds.length := by unfold CaseS.w3; rw [List.length_map]
  have ln : ∀ {w : Web}, Plain w ∧ Conn w ∧ 0 < w.1 ∧ w.1 ≤ 12 ∧ w.2.length ≤ w.1 + 1 → 0 < w.1 ∧ w.1 ≤ 1000 := fun h => ⟨h.2.2.1, by omega⟩
  have lt : ∀ {w : Web}, Plain w ∧ Conn w ∧ 0 < w.1 ∧ w.1 ≤ 12 ∧ w.2.length ≤ w.1 + 1 → w.2.length ≤ 120 ∧ ∀ t ∈ w.2, t.1 < t.2 ∧ t.2 < w.1 := fun h => ⟨by omega, h.1.tie⟩
  have rows : ∀ row ∈ rowsOf (c.w1 ++ c.w3), RowOk (c.w1 ++ c.w3) row := fun row h => mem_rows.mp h
  have fb : ∀ row ∈ rowsOf (c.w1 ++ c.w3), _ := fun row h => fwd_back F.n0 F.n2 (rows row h)
  have fb2 : ∀ row ∈ rowsOf (c.w1 ++ c.w3), _ := fun row h => fwd_back F.n1 F.n2 (F.img (rows row h)).1
  refine ⟨⟨F.B.len, fun w hw => ?_⟩, F.l1, F.l2, by omega, by omega, by omega, F.lt3, ⟨by rw [F.ord.1.len]; omega, fun k hk => ?_⟩, ⟨by rw [F.lX]; omega, by rw [F.lY]; omega, fun o ho => (F.dX ho).2, F.mto.2.2⟩,
    ⟨by rw [F.lw1]; omega, fun w hw => ln (F.g13 (List.mem_append_left _ hw)), by omega, fun w hw => lt (F.g13 (List.mem_append_left _ hw))⟩,
    ⟨by rw [F.lw2]; omega, fun w hw => ln (F.g23 (List.mem_append_left _ hw)), by omega, fun w hw => lt (F.g23 (List.mem_append_left _ hw))⟩,
    ⟨by omega, fun w hw => ln (F.g13 (List.mem_append_right _ hw)), by omega, fun w hw => lt (F.g13 (List.mem_append_right _ hw))⟩,
    ⟨by rw [F.lw13, F.lX]; omega, by rw [placesIn_app]; omega⟩, fun row hr => ⟨?_, fun k x hk => ?_⟩, fun row hr => ?_, fun row hr => ?_, fun k hk => ?_⟩
  · have b := F.B.ok w hw
    have := b.few
    have := b.le
    exact ⟨b.pos, b.le, by omega, b.plain.tie⟩
  · have := F.ord.1.lt k hk
    omega
  · rw [(rows row hr).len, F.lw13, F.lX]
    omega
  · have ok := rows row hr
    have hkl := (List.getElem?_eq_some_iff.mp hk).1
    have hkx : k < (c.ones ++ c.thirds).length := by rw [← F.lw13, ← ok.len]; exact hkl
    obtain ⟨o, q, h1, h2, e, d1, d2, h3, e1, e2⟩ := F.pair hkx
    have hx : row.getD k 0 = x := by
      rw [List.getD_eq_getElem?_getD, hk]
      rfl
    have xl := ok.lt k (by rw [F.lw13]; exact hkx)
    rw [hx, e1, d1.fst] at xl
    refine ⟨c.mt.getD k 0, q, o, getD_some (by rw [F.mto.1.len]; exact hkx), ?_, h2, h1, d1.all.mem xl, ?_⟩
    · rw [ok.len, F.lw13]
      exact F.mto.1.get hkx
    · rw [d2.all.len, e]
      exact d1.all.idx xl
  · have a := (fb row hr).2.2
    have b := (fb2 row hr).2.2
    rw [F.lw1] at a
    rw [F.lw2] at b
    exact ⟨a.1, a.2, b.1, b.2⟩
  · rw [F.src]
    exact (fb row hr).1
  · have g : ∀ {u : List Web}, Good u → (∀ w ∈ u, w.2.length ≤ w.1 + 1) → placesIn u ≤ 18 → (prodOf u).2.length ≤ 100000 ∧ ∀ t ∈ (prodOf u).2, t.1 < (prodOf u).1 ∧ t.2 < (prodOf u).1 := fun {u} G hf hp => by
      have V := prod_plain G
      have f := prod_few u G hf
      have b := big_pow u fun w hw => (G w hw).2.2
      have bb : big u ≤ 4 := Nat.le_of_not_lt fun z => by
        have : 2 ^ 5 ≤ 2 ^ big u := Nat.pow_le_pow_right (by decide) z
        omega
      have : 3 * big u * placesIn u ≤ 12 * 18 := Nat.mul_le_mul (by omega) hp
      exact ⟨by omega, fun t ht => by have := V.tie t ht; omega⟩
    match k, hk with
    | 0, _ => exact g F.G1 (fun w hw => (F.g13 (List.mem_append_left _ hw)).2.2.2.2) u1
    | 1, _ => exact g F.G2 (fun w hw => (F.g23 (List.mem_append_left _ hw)).2.2.2.2) u2
    | 2, _ => exact g F.G3 (fun w hw => (F.g13 (List.mem_append_right _ hw)).2.2.2.2) u3
    | k + 3, h => omega
end
end M

namespace K48
open PySem PySem.Spec PyProof.Rows L2
abbrev R : PySem.W.OpenRow := PySem.W.OpenLaw.row PySem.Challenge.rw_webtimes_k48_whole_taken_away_and_put_ba
abbrev hk : PySem.W.Hook := He.hookD 4 fa fn
def ob (s : PySem.W.SharedT) : He.AlD := He.obsDG 4 fa fn (HandSHeadRun.getT s)
theorem ob_eq (s : PySem.W.SharedT) : ob s = hk.obs s.abs := He.obsDG_eq (HandSHeadRun.getT_eq s)
def names0 : List PySem.Str := ["WebError", "NoWeb", "NoWebs", "Apart", "NoPlace", "TooBig", "NoNaming", "MOST_PLACES_webs", "MOST_TIES_webs", "is_whole", "is_within", "is_tie", "look_at_web", "is_place", "tie_of", "beside_all", "ties_by", "far_by", "far_table", "together"]
def names1 : List PySem.Str := ["look_together", "pieces_of", "within_by", "pieces", "look_at_places", "within", "far_in", "corner_in", "hung_in", "word_of", "linked", "classes_in", "apart_of", "factored_in", "is_all_places", "is_naming_in", "lets_naming", "look_at_naming", "turned_back", "behind"]
def names2 : List PySem.Str := ["MOST_WEBS", "look_at_webs", "places_in", "ties_in", "number_in", "row_in", "beside_by", "factoring_of", "places_by", "unlike_at", "parted_by", "joined_by", "MOST_PLACES_products", "MOST_TIES_products", "fits", "made_of", "product", "followed", "cancelled", "_law_pool"]
def names3 : List PySem.Str := ["_law_take", "_law_web", "_law_many", "_law_rows", "_law_product", "_law_shuffled", "_law_renumbered", "_law_bases", "_law_dressed", "_law_matched", "_law_led", "_law_number", "_law_webs_of", "_law_case", "_law_beside", "_law_turned", "_law_right"]
abbrev namesAll : List PySem.Str := names0 ++ names1 ++ names2 ++ names3
theorem run (w : World) : HandSHeadRun.RunEq R (PySem.W.view R.prog [90]) hk ob 6000 namesAll w := by
  intro os
  kernel_rfl
end K48

namespace Ty
open PySem PySem.Spec PyProof.Rows L2
theorem fn_ofF {W : Wd} {x : Str} {args : Arguments} {body : List Stmt} {scope : Scope} {ι : Type} {ds : ι → List Dyn} {pre : ι → Prop} {res : ι → Dyn} {N ps : List Str} {k n : Nat} {f : Addr} {fd : FuncData} (F : FunD W.K x x args body scope [] [] f fd) (S : FnScope N ps scope) (hn : N.length = ps.length + n)
    (hl : ∀ i, (ds i).length = ps.length)
    (hbody : ∀ (f : Addr) (cdv : Value) (A : Around) (outer : List Env) (s : Shared) (H : Hp) (E : XK), Room k (A.deeper (envOfC x scope s.heap.objs.size f cdv)) → ∀ i, pre i →
      SsJ (cxOf CX0 W.P W.w W.K W.mg W.base N x scope f cdv A outer s H E).nox body (starts (ds i) n) ⟨fun _ => res i = ⟨()⟩, fun _ d => d = res i, fun _ _ => False⟩) : FnOk W.P W.w W.K W.mg W.base CX0 (k + 1) f fd ps (spF ds pre res) := by
  refine F.ok S (fun vs H Q E h => ?_) (fun cdv A outer s H vs Q E hr h => ?_)
  · obtain ⟨i, G, _, h2, _⟩ := h
    rw [repD_len h2, hl i]
  · obtain ⟨i, G, h1, h2, h3, q⟩ := h
    refine ⟨_, PSs.nox pss_tSs, hbody f cdv A outer s H E hr i h3 (G, H) _ G H (fits_start h1 h2 (by rw [repD_len h2, hl i]; exact hn)) _ (fun σ' G' H' Γ' f' n => ?_) (fun v σ' G' H' Γ' d f' r n => ?_) fun v ps σ' G' H1 H' Γ' y f' nd k sm r n => n.elim⟩
    · refine q .non G' H' ⟨f'.bg, f'.bh, f'.sub, f'.fresh⟩ ?_
      rw [n]
      rfl
    · subst n
      exact q v G' H' ⟨f'.bg, f'.bh, f'.sub, f'.fresh⟩ r
end Ty
namespace K48
open PySem PySem.Spec PyProof.Rows L2 Ty M
theorem lawPre (l : List Int) : LawPre l := fun k _ => by
  obtain ⟨c, ic⟩ := isCase (poolAt l k)
  exact ⟨c, ic, (cf ic).ok, (cf ic).right⟩
abbrev spLaw (K : PySem.W.Frag) : Sp := spF1 (fun s : Scr K => LawPre s.l) fun _ => true
theorem ok_law {W : Wd} (T : Top W) {f : Addr} {fd : FuncData} (F : FunD W.K "law" "law" (defArgs s_law) (defBody s_law) (defScope s_law) [] [] f fd) : FnOk W.P W.w W.K W.mg W.base CX0 10 f fd ["_law_script"] (spLaw W.K) :=
  fn_ofF (n := 5) F sc_law rfl (fun _ => rfl) fun _ cdv A outer s H E hr sc ok => by
    have nd := sc_law.nd
    refine ss_cons (s_for (i_range T.range_ (e_maxN T.max_ (e_n 1) (e_minN T.min_ (e_lenS (y := sc) T.len_ (e_v 0)) (e_n 3))) (by omega)) (g_name nd 1) (fun j Γ => ∃ s1 s2 s3 s4 s5, Γ = [.fro ⟨sc⟩, s1, s2, s3, s4, s5]) ⟨.non, .non, .non, .non, .non, rfl⟩ (fun j k Γ hx hp => ?_) fun Γ hp => ?_)
    · obtain ⟨s1, s2, s3, s4, s5, rfl⟩ := hp
      obtain ⟨rfl, hk⟩ := rng_at hx
      obtain ⟨c, ic, co, rp⟩ := ok k (by omega)
      refine ss_cons (s_four nd 2 3 4 5 (EJ.as (e_callPN (w := poolAt sc.l k) c (kn_case T) (hr.mono (by decide)) (n_callG (y := fun p : Scr W.K × Nat => pl (poolAt p.1.l p.2)) (ds := fun p : Scr W.K × Nat => [⟨p.1⟩, ⟨p.2⟩]) (pre := fun p => p.2 < 3) (sc, k) (kn_pool' T) (hr.mono (by decide)) (a_2 (e_v 0) (e_v 1)) (show k < 3 by omega)) rfl ⟨ic, co⟩) rfl) ?_)
      exact ss_one (s_ifNo (t_not (TJ.val (k := true) (e_call4 (kn_right T) hr (e_v 2) (e_v 3) (e_v 4) (e_v 5) rp))) ⟨_, _, _, _, _, rfl⟩)
    · obtain ⟨s1, s2, s3, s4, s5, rfl⟩ := hp
      exact ss_one (s_ret e_b rfl)
theorem facts {P : Program} {w : World} {K : PySem.W.Frag} {h : Heap} {mg : Str → Option Value} {f : Addr} (X : K.In h) (G : h.Ns mainGlobals mg) (hfa : mg ("law" : Str) = some (.ref f)) (c : He.SaysD fa fn K) :
    ∃ fd : FuncData, (∀ (s : Shared) (v : Value), BindsTo s fd ⟨[v], []⟩ [("_law_script", v)]) ∧ ∀ base : Heap, K.In base → base.Ns mainGlobals mg → FnOk P w K mg base CX0 10 f fd ["_law_script"] (spLaw K) := by
  have T : ∀ base, Top ⟨P, w, K, mg, base⟩ := fun base => ⟨h, X, G, c⟩
  obtain ⟨f', fd, F, e⟩ := (T h).f_law
  have e := hfa.symm.trans e
  cases e
  have b := FunD.bindsA (ps := ["_law_script"]) F fun _ _ _ _ _ _ us hl => match us, hl with | [_], _ => rfl
  exact ⟨fd, fun s v => b s [v] rfl, fun base _ _ => ok_law (T base) F⟩
theorem sp_law {K : PySem.W.Frag} {H : Hp} {a : Addr} {ns : List Int} (hS : SqL K H a (ns.map V.int)) : spLaw K [.ref a] H (fun v _ => v = .bl true) fun _ _ _ => False :=
  ⟨(⟨ns⟩ : Scr K), H, fun _ _ h => h, ⟨⟨a, rfl, hS⟩, trivial⟩, lawPre ns, fun v G' H' _ r => r⟩
end K48
open PySem PySem.W PySem.Calls PyProof.Rows
theorem PySem.Challenge.cw_webtimes_k48_whole_taken_away_and_put_ba_holds : PySem.Challenge.rw_webtimes_k48_whole_taken_away_and_put_ba.Holds := by
  w_on; o_law
  refine HandSHeadRun.head_any (r := OpenLaw.row PySem.Challenge.rw_webtimes_k48_whole_taken_away_and_put_ba) (q := view (OpenLaw.row PySem.Challenge.rw_webtimes_k48_whole_taken_away_and_put_ba).prog [90]) (H := K48.hk) (ob := K48.ob) (M := 6000) (loose := K48.namesAll) (d := HandSHeadRun.topDef (OpenLaw.row PySem.Challenge.rw_webtimes_k48_whole_taken_away_and_put_ba).prog 90) (kwd := []) K48.ob_eq
    (by kernel_rfl) (fun s => by kernel_rfl) K48.run (by kernel_rfl) (by kernel_rfl) (by kernel_rfl) (by rfl) (by first | assumption | decide +kernel) (by decide +kernel) ⟨rfl, rfl, rfl, rfl, rfl, by decide +kernel⟩ ?hw ?hc
  case hw => w_witness2
  case hc =>
    refine L2.walk_ofE (l := PySem.Challenge.rw_webtimes_k48_whole_taken_away_and_put_ba) (n := 63) (k := 10) (x := "_law_script") (CX := L2.CX0) rfl (by decide) (by kernel_rfl) ⟨rfl, by decide, by decide⟩ ?F (fun _ _ _ _ z => z)
    intro w mg fa h Y G hmg0
    obtain ⟨K, KX, c⟩ := Y
    have hmg : mg ("law" : PySem.Str) = some (.ref fa) := by
      have e : (HandSHeadRun.topDef (OpenLaw.row PySem.Challenge.rw_webtimes_k48_whole_taken_away_and_put_ba).prog 90).name = ("law" : PySem.Str) := by kernel_rfl
      rw [← e]
      exact hmg0
    obtain ⟨fd, hb, hF⟩ := K48.facts (P := (PySem.Challenge.rw_webtimes_k48_whole_taken_away_and_put_ba).prog) (w := w) KX G hmg c
    exact ⟨K, fd, K48.spLaw K, KX, hb, fun H a ns hl _ hS => K48.sp_law hS, hF⟩

