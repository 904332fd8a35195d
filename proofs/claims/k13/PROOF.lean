import PyProof.Rows.All
import Wide.All
import OpenK.AllK
import Wide.FinOn
import HandS.ForMost
import HandS.ForExc
import HandS.CallSlots
import HandS.Property
import HandS.IsInst
import HandS.Walk
import HandS.Defaults
import HandS.Wide
import HandS.TupAny
import HandS.Style
import HandS.Head0
import HandS.Head1
import HandS.Head2
import HandS.HeadEnd
import HandS.HeadHook1
import HandS.HeadHook2
import HandS.TupMul
import HandS.Iter
import PyProof.StrOps2
import HandS.Zip
import KE.GoesZip
import KE.GoesEnum
import HandS.Text
import PyProof.Rows.RegReprOcc
import HandS.Star
import HandS.ClsMeth
import PyProof.ReprNest
import PyProof.ReprReads
import HandS.FStr
import HandS.SortRule
import KE.KDictWalk
import HandS.ReplaceList
import HandS.SortKw
import KE.DatumOrd
import HandS.TryOnly
import PySem.Challenge.RW_quietminutes_k13_between_two_places
set_option Elab.async false
set_option linter.all false
set_option maxRecDepth 100000
set_option maxHeartbeats 0
namespace DL
open PySem PySem.Spec PyProof.Rows L2
abbrev St := L2.St

/-- data, a tree -/
inductive D where
  | non | bl (b : Bool) | int (i : Int) | str (s : Str)
  | tup (xs : List D) | lst (xs : List D)
  | dk (ks : List Key) (vs : List D) | dt (ks : List (List Key)) (vs : List D)
  | ins (c : Str) (ns : List Str) (vs : List D)
  | scr (ns : List Int)
/-- an object that one slot alone holds -/
inductive O where
  | lst (xs : List D) | dk (ks : List Key) (vs : List D) | dt (ks : List (List Key)) (vs : List D) | ins (c : Str) (ns : List Str) (vs : List D)
def O.frz : O → D
  | .lst xs => .lst xs
  | .dk ks vs => .dk ks vs
  | .dt ks vs => .dt ks vs
  | .ins c ns vs => .ins c ns vs
inductive Sl where
  | un | d (x : D) | o (x : O)
/-- an exception: its class, its fields -/
structure Ex where
  cls : Str
  ns : List Str := []
  vs : List D := []
inductive Res (α : Type) where
  | ok (a : α) (σ : List Sl) | ex (e : Ex) (σ : List Sl) | bad
abbrev M (α : Type) := List Sl → Res α
def M.bind {α β : Type} (m : M α) (f : α → M β) : M β := fun σ => match m σ with
  | .ok a σ' => f a σ'
  | .ex e σ' => .ex e σ'
  | .bad => .bad
def M.pure {α : Type} (a : α) : M α := fun σ => .ok a σ
def M.bad {α : Type} : M α := fun _ => .bad
instance : Monad M where
  pure := M.pure
  bind := M.bind

section
variable (K : PySem.W.Frag) (mg : Str → Option Value)
mutual
def Rep (F : Hp) : D → V → Prop
  | .non, v => v = .non
  | .bl b, v => v = .bl b
  | .int i, v => v = .int i
  | .str s, v => v = .str s
  | .tup ds, v => ∃ a xs, v = .ref a ∧ F a = some (.tup xs) ∧ xs.length ≤ sizeLine ∧ RepL F ds xs
  | .lst ds, v => ∃ a xs, v = .ref a ∧ F a = some (.lst xs) ∧ xs.length ≤ sizeLine ∧ RepL F ds xs
  | .scr ns, v => ∃ a, v = .ref a ∧ SqL K F a (ns.map V.int)
  | .dk ks ds, v => ∃ a xs, v = .ref a ∧ Rd F a (.dK (ks.zip xs)) ∧ ks.length = xs.length ∧ RepL F ds xs
  | .dt ks ds, v => ∃ a xs, v = .ref a ∧ Rd F a (.dT (ks.zip xs)) ∧ ks.length = xs.length ∧ RepL F ds xs
  | .ins c ns ds, v => ∃ a C dx xs, v = .ref a ∧ mg c = some (.ref C) ∧ F a = some (.ins C dx (ns.zip xs)) ∧ ns.length = xs.length ∧ RepL F ds xs
def RepL (F : Hp) : List D → List V → Prop
  | [], xs => xs = []
  | d :: ds, xs => ∃ x r, xs = x :: r ∧ Rep F d x ∧ RepL F ds r
end
def OAt (F H : Hp) : O → Addr → Prop
  | .lst ds, a => ∃ xs, H a = some (.lst xs) ∧ xs.length ≤ sizeLine ∧ RepL K mg F ds xs
  | .dk ks ds, a => ∃ xs, H a = some (.dK (ks.zip xs)) ∧ ks.length = xs.length ∧ RepL K mg F ds xs
  | .dt ks ds, a => ∃ xs, H a = some (.dT (ks.zip xs)) ∧ ks.length = xs.length ∧ RepL K mg F ds xs
  | .ins c ns ds, a => ∃ C dx xs, mg c = some (.ref C) ∧ H a = some (.ins C dx (ns.zip xs)) ∧ ns.length = xs.length ∧ RepL K mg F ds xs
end
/-- the address that a slot owns -/
def OwnS (r : Sl) (v : Option V) (a : Addr) : Prop := (∃ o, r = .o o) ∧ v = some (.ref a)
def Own (σ : List Sl) (τ : List (Option V)) (a : Addr) : Prop := ∃ (i : Nat) (o : O), σ[i]? = some (Sl.o o) ∧ τ[i]? = some (some (V.ref a))
structure Rl (K : PySem.W.Frag) (mg : Str → Option Value) (F H : Hp) (σ : List Sl) (τ : List (Option V)) : Prop where
  len : σ.length = τ.length
  same : Same F H
  val : ∀ (i : Nat) (x : D), σ[i]? = some (Sl.d x) → ∃ v : V, τ[i]? = some (some v) ∧ Rep K mg F x v
  own : ∀ (i : Nat) (o : O), σ[i]? = some (Sl.o o) → ∃ a : Addr, τ[i]? = some (some (V.ref a)) ∧ OAt K mg F H o a ∧ F a = none
  inj : ∀ (i j : Nat) (o o' : O) (a : Addr), σ[i]? = some (Sl.o o) → σ[j]? = some (Sl.o o') → τ[i]? = some (some (V.ref a)) → τ[j]? = some (some (V.ref a)) → i = j
/-- from one state to a later one -/
structure Tr (A : Addr → Prop) (F H : Hp) (A' : Addr → Prop) (F' H' : Hp) : Prop where
  fz : Same F F'
  keep : ∀ b o, H b = some o → ¬ A b → H' b = some o
  new : ∀ b, F' b ≠ none → F b ≠ none ∨ H b = none ∨ A b
  dom : ∀ b, H b ≠ none → H' b ≠ none
  sub : ∀ b, A' b → A b ∨ H b = none

section
variable {K : PySem.W.Frag} {mg : Str → Option Value} {F F' H H' : Hp}
theorem Rd.same {u : HO} {a : Addr} (s : Same F F') (h : Rd F a u) : Rd F' a u := by
  rcases h with h | ⟨o, h⟩
  · exact .inl (s _ _ h)
  · exact .inr ⟨o, s _ _ h⟩
theorem SqT.same {a : Addr} {xs : List V} (s : Same F F') (h : SqT K F a xs) : SqT K F' a xs := by
  rcases h with h | h
  · exact .inl (Rd.same s h)
  · exact .inr h
mutual
theorem Rep.same (s : Same F F') : ∀ {d : D} {v : V}, Rep K mg F d v → Rep K mg F' d v
  | .non, v, h => by simpa only [Rep] using h
  | .bl b, v, h => by simpa only [Rep] using h
  | .int i, v, h => by simpa only [Rep] using h
  | .str x, v, h => by simpa only [Rep] using h
  | .tup ds, v, h => by
    simp only [Rep] at h ⊢
    obtain ⟨a, xs, h1, h2, z, h3⟩ := h
    exact ⟨a, xs, h1, s _ _ h2, z, RepL.same s h3⟩
  | .lst ds, v, h => by
    simp only [Rep] at h ⊢
    obtain ⟨a, xs, h1, h2, z, h3⟩ := h
    exact ⟨a, xs, h1, s _ _ h2, z, RepL.same s h3⟩
  | .scr ns, v, h => by
    simp only [Rep] at h ⊢
    obtain ⟨a, h1, h2⟩ := h
    exact ⟨a, h1, s.seq h2⟩
  | .dk ks ds, v, h => by
    simp only [Rep] at h ⊢
    obtain ⟨a, xs, h1, h2, h3, h4⟩ := h
    exact ⟨a, xs, h1, Rd.same s h2, h3, RepL.same s h4⟩
  | .dt ks ds, v, h => by
    simp only [Rep] at h ⊢
    obtain ⟨a, xs, h1, h2, h3, h4⟩ := h
    exact ⟨a, xs, h1, Rd.same s h2, h3, RepL.same s h4⟩
  | .ins c ns ds, v, h => by
    simp only [Rep] at h ⊢
    obtain ⟨a, C, dx, xs, h1, h2, h3, h4, h5⟩ := h
    exact ⟨a, C, dx, xs, h1, h2, s _ _ h3, h4, RepL.same s h5⟩
theorem RepL.same (s : Same F F') : ∀ {ds : List D} {xs : List V}, RepL K mg F ds xs → RepL K mg F' ds xs
  | [], xs, h => by simpa only [RepL] using h
  | d :: ds, xs, h => by
    simp only [RepL] at h ⊢
    obtain ⟨x, r, h1, h2, h3⟩ := h
    exact ⟨x, r, h1, Rep.same s h2, RepL.same s h3⟩
end
end
end DL
namespace DL
open PySem PySem.Spec PyProof.Rows L2

theorem Tr.refl {A : Addr → Prop} {F H : Hp} : Tr A F H A F H :=
  ⟨Same.refl _, fun _ _ h _ => h, fun _ h => .inl h, fun _ h => h, fun _ h => .inl h⟩
theorem Tr.trans {A A1 A2 : Addr → Prop} {F H F1 H1 F2 H2 : Hp} (t : Tr A F H A1 F1 H1) (u : Tr A1 F1 H1 A2 F2 H2) : Tr A F H A2 F2 H2 := by
  refine ⟨t.fz.trans u.fz, fun b o h n => u.keep b o (t.keep b o h n) fun a1 => ?_, fun b h => ?_, fun b h => u.dom b (t.dom b h), fun b h => ?_⟩
  · rcases t.sub b a1 with a | z
    · exact n a
    · rw [z] at h; cases h
  · rcases u.new b h with q | q | q
    · exact t.new b q
    · refine .inr (.inl ?_)
      cases e : H b with
      | none => rfl
      | some o => exact absurd q (t.dom b (by rw [e]; simp))
    · rcases t.sub b q with a | z
      · exact .inr (.inr a)
      · exact .inr (.inl z)
  · rcases u.sub b h with q | q
    · exact t.sub b q
    · refine .inr ?_
      cases e : H b with
      | none => rfl
      | some o => exact absurd q (t.dom b (by rw [e]; simp))
theorem Tr.weak {A A1 A2 : Addr → Prop} {F H F1 H1 : Hp} (t : Tr A F H A1 F1 H1) (h : ∀ b, A2 b → A1 b) : Tr A F H A2 F1 H1 := ⟨t.fz, t.keep, t.new, t.dom, fun b q => t.sub b (h b q)⟩

/-- only new objects, frozen -/
structure Ext (F H F' H' : Hp) : Prop where
  fz : Same F F'
  hp : Same H H'
  sm : Same F' H'
  new : ∀ b, F' b ≠ none → F b ≠ none ∨ H b = none
theorem Ext.refl {F H : Hp} (s : Same F H) : Ext F H F H := ⟨Same.refl _, Same.refl _, s, fun _ h => .inl h⟩
theorem Same.none {H H' : Hp} {b : Addr} (s : Same H H') (h : H' b = none) : H b = none := by
  cases e : H b with
  | none => rfl
  | some o => rw [s b o e] at h; cases h
theorem Ext.trans {F H F1 H1 F2 H2 : Hp} (t : Ext F H F1 H1) (u : Ext F1 H1 F2 H2) : Ext F H F2 H2 :=
  ⟨t.fz.trans u.fz, t.hp.trans u.hp, u.sm, fun b h => (u.new b h).elim (t.new b) fun z => .inr (Same.none t.hp z)⟩
/-- a new object -/
theorem Ext.new1 {F H : Hp} (s : Same F H) {p : Addr} {o : HO} (n : H p = none) : Ext F H (upd F p o) (upd H p o) := by
  have np : ∀ b o, H b = some o → b ≠ p := fun b o h z => by rw [z, n] at h; cases h
  refine ⟨fun b o h => ?_, fun b o h => ?_, fun b o h => ?_, fun b h => ?_⟩
  · rw [upd_ne (np b o (s b o h))]; exact h
  · rw [upd_ne (np b o h)]; exact h
  · by_cases e : b = p
    · subst e; rw [upd_same] at h ⊢; exact h
    · rw [upd_ne e] at h ⊢; exact s b o h
  · by_cases e : b = p
    · subst e; exact .inr n
    · rw [upd_ne e] at h; exact .inl h

section
variable {K : PySem.W.Frag} {mg : Str → Option Value} {F H F' H' : Hp} {σ : List Sl} {τ : List (Option V)}
theorem OAt.same {o : O} {a : Addr} (s : Same F F') (k : ∀ u, H a = some u → H' a = some u) (h : OAt K mg F H o a) : OAt K mg F' H' o a := by
  cases o with
  | lst xs => obtain ⟨ys, e, z, r⟩ := h; exact ⟨ys, k _ e, z, RepL.same s r⟩
  | dk ks vs => obtain ⟨ys, e, l, r⟩ := h; exact ⟨ys, k _ e, l, RepL.same s r⟩
  | dt ks vs => obtain ⟨ys, e, l, r⟩ := h; exact ⟨ys, k _ e, l, RepL.same s r⟩
  | ins c ns vs => obtain ⟨C, dx, ys, g, e, l, r⟩ := h; exact ⟨C, dx, ys, g, k _ e, l, RepL.same s r⟩
theorem OAt.there {o : O} {a : Addr} (h : OAt K mg F H o a) : ∃ u, H a = some u := by
  cases o with
  | lst xs => obtain ⟨ys, e, r⟩ := h; exact ⟨_, e⟩
  | dk ks vs => obtain ⟨ys, e, l, r⟩ := h; exact ⟨_, e⟩
  | dt ks vs => obtain ⟨ys, e, l, r⟩ := h; exact ⟨_, e⟩
  | ins c ns vs => obtain ⟨C, dx, ys, g, e, l, r⟩ := h; exact ⟨_, e⟩
theorem Rl.own_there (R : Rl K mg F H σ τ) {a : Addr} (h : Own σ τ a) : (∃ u, H a = some u) ∧ F a = none := by
  obtain ⟨i, o, e, et⟩ := h
  obtain ⟨b, e1, at_, fn⟩ := R.own i o e
  rw [et] at e1
  cases e1
  exact ⟨at_.there, fn⟩
theorem Rl.ext (R : Rl K mg F H σ τ) (x : Ext F H F' H') : Rl K mg F' H' σ τ := by
  refine ⟨R.len, x.sm, fun i d e => ?_, fun i o e => ?_, R.inj⟩
  · obtain ⟨v, h1, h2⟩ := R.val i d e
    exact ⟨v, h1, Rep.same x.fz h2⟩
  · obtain ⟨a, h1, h2, h3⟩ := R.own i o e
    refine ⟨a, h1, h2.same x.fz fun u q => x.hp _ _ q, ?_⟩
    cases q : F' a with
    | none => rfl
    | some u =>
      rcases x.new a (by rw [q]; simp) with z | z
      · exact absurd h3 z
      · obtain ⟨u, hu⟩ := h2.there
        rw [z] at hu; cases hu
theorem Ext.tr {A : Addr → Prop} (x : Ext F H F' H') : Tr A F H A F' H' :=
  ⟨x.fz, fun b o h _ => x.hp b o h, fun b h => (x.new b h).elim .inl fun z => .inr (.inl z), fun b h => by
    cases e : H b with
    | none => exact absurd e h
    | some o => rw [x.hp b o e]; simp, fun b h => .inl h⟩

/-- F with what stands at a -/
def frzF (F H : Hp) (a : Addr) : Hp := fun b => if b = a then H a else F b
theorem frzF_same {a : Addr} (n : F a = none) : Same F (frzF F H a) := fun b o h => by
  unfold frzF
  rw [if_neg (fun z => by rw [z, n] at h; cases h)]
  exact h
theorem frzF_at {a : Addr} : frzF F H a a = H a := by unfold frzF; rw [if_pos rfl]
theorem frzF_ne {a b : Addr} (h : b ≠ a) : frzF F H a b = F b := by unfold frzF; rw [if_neg h]
theorem frzF_sm {a : Addr} (s : Same F H) : Same (frzF F H a) H := fun b o h => by
  by_cases e : b = a
  · subst e; rw [frzF_at] at h; exact h
  · rw [frzF_ne e] at h; exact s b o h
theorem OAt.rep {o : O} {a : Addr} (n : F a = none) (h : OAt K mg F H o a) : Rep K mg (frzF F H a) o.frz (.ref a) := by
  have s : Same F (frzF F H a) := frzF_same n
  cases o with
  | lst xs => obtain ⟨ys, e, z, r⟩ := h; exact ⟨a, ys, rfl, by rw [frzF_at]; exact e, z, RepL.same s r⟩
  | dk ks vs => obtain ⟨ys, e, l, r⟩ := h; exact ⟨a, ys, rfl, .inl (by rw [frzF_at]; exact e), l, RepL.same s r⟩
  | dt ks vs => obtain ⟨ys, e, l, r⟩ := h; exact ⟨a, ys, rfl, .inl (by rw [frzF_at]; exact e), l, RepL.same s r⟩
  | ins c ns vs => obtain ⟨C, dx, ys, g, e, l, r⟩ := h; exact ⟨a, C, dx, ys, rfl, g, by rw [frzF_at]; exact e, l, RepL.same s r⟩
theorem frzF_tr {a : Addr} {A A' : Addr → Prop} (n : F a = none) (ha : A a) (h : ∀ b, A' b → A b) : Tr A F H A' (frzF F H a) H :=
  ⟨frzF_same n, fun _ _ h _ => h, fun b q => by
    by_cases e : b = a
    · subst e; exact .inr (.inr ha)
    · rw [frzF_ne e] at q; exact .inl q, fun _ h => h, fun b q => .inl (h b q)⟩
/-- the state behind F's growth by a thing that no slot owns -/
theorem Rl.frzF (R : Rl K mg F H σ τ) {a : Addr} (n : F a = none) (h : ¬ Own σ τ a) : Rl K mg (frzF F H a) H σ τ := by
  refine ⟨R.len, frzF_sm R.same, fun i d e => ?_, fun i o e => ?_, R.inj⟩
  · obtain ⟨v, h1, h2⟩ := R.val i d e
    exact ⟨v, h1, Rep.same (frzF_same n) h2⟩
  · obtain ⟨b, h1, h2, h3⟩ := R.own i o e
    refine ⟨b, h1, h2.same (frzF_same n) fun _ q => q, ?_⟩
    rw [frzF_ne (fun z => h (by subst z; exact ⟨i, o, e, h1⟩))]
    exact h3

theorem set_some {α : Type} {l : List α} {i j : Nat} {x y : α} (h : (l.set i x)[j]? = some y) : (j = i ∧ y = x ∧ i < l.length) ∨ (j ≠ i ∧ l[j]? = some y) := by
  by_cases e : j = i
  · subst e
    rw [List.getElem?_set_self'] at h
    cases q : l[j]? with
    | none => rw [q] at h; cases h
    | some z =>
      rw [q] at h
      cases h
      exact .inl ⟨rfl, rfl, (List.getElem?_eq_some_iff.mp q).1⟩
  · rw [List.getElem?_set_ne (fun z => e z.symm)] at h
    exact .inr ⟨e, h⟩
theorem get_set {α : Type} {l : List α} {i : Nat} {x : α} (h : i < l.length) : (l.set i x)[i]? = some x := by
  rw [List.getElem?_set_self h]
theorem get_set_ne {α : Type} {l : List α} {i j : Nat} {x : α} (h : j ≠ i) : (l.set i x)[j]? = l[j]? := List.getElem?_set_ne fun z => h z.symm

/-- slot i gives up what it owns -/
theorem Own.drop {i : Nat} {r : Sl} {b : Addr} (hr : ∀ o, r ≠ .o o) (h : Own (σ.set i r) τ b) : Own σ τ b ∧ ∀ o, σ[i]? = some (.o o) → τ[i]? ≠ some (some (.ref b)) ∨ ∃ j o', j ≠ i ∧ σ[j]? = some (.o o') ∧ τ[j]? = some (some (.ref b)) := by
  obtain ⟨j, o, e, et⟩ := h
  rcases set_some e with ⟨_, z, _⟩ | ⟨ne, e⟩
  · exact absurd z.symm (hr o)
  · exact ⟨⟨j, o, e, et⟩, fun o' _ => .inr ⟨j, o, ne, e, et⟩⟩
theorem Rl.notOwn (R : Rl K mg F H σ τ) {i : Nat} {o : O} {a : Addr} {r : Sl} (hr : ∀ o, r ≠ .o o) (e : σ[i]? = some (.o o)) (et : τ[i]? = some (some (.ref a))) : ¬ Own (σ.set i r) τ a := by
  rintro ⟨j, o', e', et'⟩
  rcases set_some e' with ⟨_, z, _⟩ | ⟨ne, e'⟩
  · exact hr o' z.symm
  · exact ne (R.inj j i o' o a e' e et' et)
/-- the slot is emptied -/
theorem Rl.unset (R : Rl K mg F H σ τ) (i : Nat) : Rl K mg F H (σ.set i .un) τ := by
  refine ⟨by rw [List.length_set]; exact R.len, R.same, fun j d e => ?_, fun j o e => ?_, fun j k o o' a e1 e2 => ?_⟩
  · rcases set_some e with ⟨_, z, _⟩ | ⟨_, e⟩
    · cases z
    · exact R.val j d e
  · rcases set_some e with ⟨_, z, _⟩ | ⟨_, e⟩
    · cases z
    · exact R.own j o e
  · rcases set_some e1 with ⟨_, z, _⟩ | ⟨_, e1⟩
    · cases z
    · rcases set_some e2 with ⟨_, z, _⟩ | ⟨_, e2⟩
      · cases z
      · exact R.inj j k o o' a e1 e2
/-- slot i's own object is frozen -/
theorem Rl.freeze (R : Rl K mg F H σ τ) {i : Nat} {o : O} {a : Addr} (e : σ[i]? = some (.o o)) (et : τ[i]? = some (some (.ref a))) (at_ : OAt K mg F H o a) (n : F a = none) :
    Rl K mg (DL.frzF F H a) H (σ.set i (.d o.frz)) τ ∧ Tr (Own σ τ) F H (Own (σ.set i (.d o.frz)) τ) (DL.frzF F H a) H := by
  have nO : ¬ Own (σ.set i .un) τ a := R.notOwn (by intro o z; cases z) e et
  have R1 := (R.unset i).frzF n nO
  refine ⟨⟨by rw [List.length_set]; exact R.len, R1.same, fun j d e1 => ?_, fun j o1 e1 => ?_, fun j k o1 o2 b e1 e2 => ?_⟩, frzF_tr n ⟨i, o, e, et⟩ fun b h => (Own.drop (by intro o z; cases z) h).1⟩
  · rcases set_some e1 with ⟨rfl, z, _⟩ | ⟨ne, e1⟩
    · cases z
      exact ⟨_, et, at_.rep n⟩
    · exact R1.val j d (by rw [get_set_ne ne]; exact e1)
  · rcases set_some e1 with ⟨_, z, _⟩ | ⟨ne, e1⟩
    · cases z
    · exact R1.own j o1 (by rw [get_set_ne ne]; exact e1)
  · rcases set_some e1 with ⟨_, z, _⟩ | ⟨ne1, e1⟩
    · cases z
    · rcases set_some e2 with ⟨_, z, _⟩ | ⟨ne2, e2⟩
      · cases z
      · exact R.inj j k o1 o2 b e1 e2
end

/-! ### judgements -/
def RepS (K : PySem.W.Frag) (mg : Str → Option Value) (F H : Hp) (r : Sl) (v : V) : Prop := match r with
  | .d x => Rep K mg F x v
  | .o o => ∃ a, v = .ref a ∧ OAt K mg F H o a ∧ F a = none
  | .un => False
def OwnR (r : Sl) (v : V) (a : Addr) : Prop := (∃ o, r = .o o) ∧ v = .ref a
def ExRep (K : PySem.W.Frag) (mg : Str → Option Value) (F H : Hp) (e : Ex) (cls : Value) (dd : Option Addr) : Prop :=
  ∃ C xs, cls = .ref C ∧ mg e.cls = some (.ref C) ∧ e.ns.length = xs.length ∧ RepL K mg F e.vs xs ∧ (e.ns = [] ∧ dd = none ∨ ∃ d, dd = some d ∧ H d = some (.xd (e.ns.zip xs)))
/-- behind an expression -/
def OkE (K : PySem.W.Frag) (mg : Str → Option Value) (W : WX) (σ : List Sl) (τ : List (Option V)) (F H : Hp) (Q : VK) : Res Sl → Prop
  | .ok r σ' => ∀ v F' H', Rl K mg F' H' σ' τ → RepS K mg F' H' r v → (∀ a, OwnR r v a → ¬ Own σ' τ a) → Tr (Own σ τ) F H (fun a => Own σ' τ a ∨ OwnR r v a) F' H' → Q v H'
  | .ex e σ' => ∀ cls dd F' H', Rl K mg F' H' σ' τ → Tr (Own σ τ) F H (Own σ' τ) F' H' → ExRep K mg F' H' e cls dd → W cls dd τ H'
  | .bad => False
def asS (m : M D) : M Sl := fun σ => match m σ with
  | .ok x σ' => .ok (.d x) σ'
  | .ex e σ' => .ex e σ'
  | .bad => .bad
/-- an expression whose value may be an object of its own -/
def DO (X : Cx) (W : WX) (e : Expr) (m : M Sl) : Prop := ∃ t, PE X e t ∧ ∀ F H σ τ Q, Rl X.K X.mg F H σ τ → OkE X.K X.mg W σ τ F H Q (m σ) → t τ H Q
/-- an expression, by its data -/
def DV (X : Cx) (W : WX) (e : Expr) (m : M D) : Prop := DO X W e (asS m)
def OkT (K : PySem.W.Frag) (mg : Str → Option Value) (W : WX) (σ : List Sl) (τ : List (Option V)) (F H : Hp) (Q : Bool → Hp → Prop) : Res Bool → Prop
  | .ok b σ' => ∀ F' H', Rl K mg F' H' σ' τ → Tr (Own σ τ) F H (Own σ' τ) F' H' → Q b H'
  | .ex e σ' => ∀ cls dd F' H', Rl K mg F' H' σ' τ → Tr (Own σ τ) F H (Own σ' τ) F' H' → ExRep K mg F' H' e cls dd → W cls dd τ H'
  | .bad => False
/-- a test -/
def DT (X : Cx) (W : WX) (e : Expr) (m : M Bool) : Prop := ∃ t, PT X e t ∧ ∀ F H σ τ Q, Rl X.K X.mg F H σ τ → OkT X.K X.mg W σ τ F H Q (m σ) → t τ H Q
def DW (X : Cx) (W : WX) (e : Expr) (m : M Bool) : Prop := ∃ t, PW X e t ∧ ∀ F H σ τ Q, Rl X.K X.mg F H σ τ → OkT X.K X.mg W σ τ F H Q (m σ) → t τ H Q
inductive Fl where
  | nx | rt (r : Sl) | bk | ct
def LK (L : List Nat) (τ τ' : List (Option V)) : Prop := ∀ i ∈ L, τ'[i]? = τ[i]?
def OkS (K : PySem.W.Frag) (mg : Str → Option Value) (W : WX) (L : List Nat) (σ : List Sl) (τ : List (Option V)) (F H : Hp) (E : Ends) : Res Fl → Prop
  | .ok .nx σ' => ∀ τ' F' H', Rl K mg F' H' σ' τ' → LK L τ τ' → Tr (Own σ τ) F H (Own σ' τ') F' H' → E.nx τ' H'
  | .ok .bk σ' => ∀ τ' F' H', Rl K mg F' H' σ' τ' → LK L τ τ' → Tr (Own σ τ) F H (Own σ' τ') F' H' → E.bk τ' H'
  | .ok .ct σ' => ∀ τ' F' H', Rl K mg F' H' σ' τ' → LK L τ τ' → Tr (Own σ τ) F H (Own σ' τ') F' H' → E.ct τ' H'
  | .ok (.rt r) σ' => ∀ v τ' F' H', Rl K mg F' H' σ' τ' → LK L τ τ' → RepS K mg F' H' r v → (∀ a, OwnR r v a → ¬ Own σ' τ' a) → Tr (Own σ τ) F H (fun a => Own σ' τ' a ∨ OwnR r v a) F' H' → E.rt v H'
  | .ex e σ' => ∀ cls dd τ' F' H', Rl K mg F' H' σ' τ' → LK L τ τ' → Tr (Own σ τ) F H (Own σ' τ') F' H' → ExRep K mg F' H' e cls dd → W cls dd τ' H'
  | .bad => False
def DS (X : Cx) (W : WX) (L : List Nat) (st : Stmt) (m : M Fl) : Prop := ∃ t, PS X st t ∧ ∀ F H σ τ E, Rl X.K X.mg F H σ τ → OkS X.K X.mg W L σ τ F H E (m σ) → t E τ H
def DSs (X : Cx) (W : WX) (L : List Nat) (sts : List Stmt) (m : M Fl) : Prop := ∃ t, PSs X sts t ∧ ∀ F H σ τ E, Rl X.K X.mg F H σ τ → OkS X.K X.mg W L σ τ F H E (m σ) → t E τ H
end DL
namespace DL
open PySem PySem.Spec PyProof.Rows L2
section
variable {K : PySem.W.Frag} {mg : Str → Option Value} {W : WX} {σ σ1 : List Sl} {τ : List (Option V)} {F H F1 H1 : Hp} {Q : VK}
theorem OkE.later (t : Tr (Own σ τ) F H (Own σ1 τ) F1 H1) : ∀ {r : Res Sl}, OkE K mg W σ τ F H Q r → OkE K mg W σ1 τ F1 H1 Q r
  | .ok r σ', h => fun v F' H' R rp nd t' => h v F' H' R rp nd (t.trans t')
  | .ex e σ', h => fun cls dd F' H' R t' er => h cls dd F' H' R (t.trans t') er
  | .bad, h => h
theorem OkT.later {Q : Bool → Hp → Prop} (t : Tr (Own σ τ) F H (Own σ1 τ) F1 H1) : ∀ {r : Res Bool}, OkT K mg W σ τ F H Q r → OkT K mg W σ1 τ F1 H1 Q r
  | .ok r σ', h => fun F' H' R t' => h F' H' R (t.trans t')
  | .ex e σ', h => fun cls dd F' H' R t' er => h cls dd F' H' R (t.trans t') er
  | .bad, h => h
theorem Tr.noR {A A' : Addr → Prop} {F' H' : Hp} {x : D} {v : V} (t : Tr A F H (fun a => A' a ∨ OwnR (.d x) v a) F' H') : Tr A F H A' F' H' := t.weak fun _ h => .inl h
theorem Tr.orR {A A' : Addr → Prop} {F' H' : Hp} {x : D} {v : V} (t : Tr A F H A' F' H') : Tr A F H (fun a => A' a ∨ OwnR (.d x) v a) F' H' := t.weak fun _ h => h.elim id fun ⟨⟨_, z⟩, _⟩ => nomatch z
/-- a part's data, then the rest -/
theorem dvk {m : M D} {f : D → M Sl} {Q1 : VK} (h : OkE K mg W σ τ F H Q (M.bind m f σ))
    (k : ∀ x σ1 v F1 H1, Rl K mg F1 H1 σ1 τ → Rep K mg F1 x v → OkE K mg W σ1 τ F1 H1 Q (f x σ1) → Q1 v H1) : OkE K mg W σ τ F H Q1 (asS m σ) := by
  unfold M.bind at h
  unfold asS
  cases e : m σ with
  | ok x σ1 =>
    rw [e] at h
    exact fun v F1 H1 R1 r1 _ t1 => k x σ1 v F1 H1 R1 r1 (OkE.later t1.noR h)
  | ex x σ1 => rw [e] at h; exact h
  | bad => rw [e] at h; exact h
theorem dvkS {m : M D} {f : D → M Sl} {Q1 : VK} (h : OkE K mg W σ τ F H Q (M.bind m f σ))
    (k : ∀ x σ1 v F1 H1, Rl K mg F1 H1 σ1 τ → Rep K mg F1 x v → Same F F1 → OkE K mg W σ1 τ F1 H1 Q (f x σ1) → Q1 v H1) : OkE K mg W σ τ F H Q1 (asS m σ) := by
  unfold M.bind at h
  unfold asS
  cases e : m σ with
  | ok x σ1 =>
    rw [e] at h
    exact fun v F1 H1 R1 r1 _ t1 => k x σ1 v F1 H1 R1 r1 t1.fz (OkE.later t1.noR h)
  | ex x σ1 => rw [e] at h; exact h
  | bad => rw [e] at h; exact h
theorem dvkT {m : M D} {f : D → M Bool} {Q : Bool → Hp → Prop} {Q1 : VK} (h : OkT K mg W σ τ F H Q (M.bind m f σ))
    (k : ∀ x σ1 v F1 H1, Rl K mg F1 H1 σ1 τ → Rep K mg F1 x v → OkT K mg W σ1 τ F1 H1 Q (f x σ1) → Q1 v H1) : OkE K mg W σ τ F H Q1 (asS m σ) := by
  unfold M.bind at h
  unfold asS
  cases e : m σ with
  | ok x σ1 =>
    rw [e] at h
    exact fun v F1 H1 R1 r1 _ t1 => k x σ1 v F1 H1 R1 r1 (OkT.later t1.noR h)
  | ex x σ1 => rw [e] at h; exact h
  | bad => rw [e] at h; exact h
/-- the end: data that is there -/
theorem okd {x : D} {v : V} {F' H' : Hp} (h : OkE K mg W σ τ F H Q (.ok (.d x) σ)) (R : Rl K mg F H σ τ) (e : Ext F H F' H') (r : Rep K mg F' x v) : Q v H' :=
  h v F' H' (R.ext e) r (fun _ ⟨⟨_, z⟩, _⟩ => nomatch z) e.tr.orR
def lift (o : Option D) : M D := fun σ => match o with
  | some d => .ok d σ
  | none => .bad
def liftS (o : Option D) : M Sl := asS (lift o)
theorem okl {o : Option D} {v : V} (h : OkE K mg W σ τ F H Q (liftS o σ)) : ∃ d, o = some d ∧ OkE K mg W σ τ F H Q (.ok (.d d) σ) := by
  cases o with
  | none => exact False.elim h
  | some d => exact ⟨d, rfl, h⟩
end
/-- a value-level operation of two -/
def VOp2 (K : PySem.W.Frag) (mg : Str → Option Value) (r : R2) (f : D → D → Option D) : Prop :=
  ∀ (F H : Hp) (x y : D) (u v : V) (d : D) (Q : VK), Same F H → Rep K mg F x u → Rep K mg F y v → f x y = some d → (∀ w F' H', Ext F H F' H' → Rep K mg F' d w → Q w H') → r u v H Q
def VOp1 (K : PySem.W.Frag) (mg : Str → Option Value) (r : V → Hp → VK → Prop) (f : D → Option D) : Prop :=
  ∀ (F H : Hp) (x : D) (u : V) (d : D) (Q : VK), Same F H → Rep K mg F x u → f x = some d → (∀ w F' H', Ext F H F' H' → Rep K mg F' d w → Q w H') → r u H Q
def VCall (K : PySem.W.Frag) (mg : Str → Option Value) (r : List V → Hp → VK → Prop) (f : List D → Option D) : Prop :=
  ∀ (F H : Hp) (xs : List D) (us : List V) (d : D) (Q : VK), Same F H → RepL K mg F xs us → f xs = some d → (∀ w F' H', Ext F H F' H' → Rep K mg F' d w → Q w H') → r us H Q
/-- semantics -/
def ev1 (f : D → Option D) (ma : M D) : M D := ma.bind fun x => lift (f x)
def ev2 (f : D → D → Option D) (ma mb : M D) : M D := ma.bind fun x => mb.bind fun y => lift (f x y)
def evC (d : D) : M D := fun σ => .ok d σ
def evV (i : Nat) : M D := fun σ => match σ[i]? with
  | some (.d x) => .ok x σ
  | some (.o o) => .ok o.frz (σ.set i (.d o.frz))
  | _ => .bad
def evMv (i : Nat) : M Sl := fun σ => match σ[i]? with
  | some (.d x) => .ok (.d x) σ
  | some (.o o) => .ok (.o o) (σ.set i .un)
  | _ => .bad
theorem asS_bind {m : M D} {f : D → M D} : asS (m.bind f) = M.bind m fun x => asS (f x) := by
  funext σ
  unfold asS M.bind
  cases m σ <;> rfl
section
variable {X : Cx} {W : WX} {a b c e : Expr} {ma mb mc : M D}
theorem dv_op {op : Operator} {r : R2} {f : D → D → Option D} {pos : Pos} (ho : OpR X (binaryOp op) r) (hv : VOp2 X.K X.mg r f) (ha : DV X W a ma) (hb : DV X W b mb) : DV X W (.BinOp a op b pos) (ev2 f ma mb) := by
  obtain ⟨ta, pa, ha⟩ := ha
  obtain ⟨tb, pb, hb⟩ := hb
  refine ⟨_, pe_op ho pa pb, fun F H σ τ Q R h => ?_⟩
  unfold ev2 at h
  rw [asS_bind] at h
  refine ha F H σ τ _ R (dvk h fun x σ1 v F1 H1 R1 r1 h => ?_)
  rw [asS_bind] at h
  refine hb F1 H1 σ1 τ _ R1 ?_
  unfold M.bind at h
  unfold asS
  cases e : mb σ1 with
  | ok y σ2 =>
    rw [e] at h
    intro w F2 H2 R2 r2 _ t2
    obtain ⟨d, ed, h⟩ := okl (v := w) (OkE.later t2.noR h)
    exact hv F2 H2 x y v w d Q R2.same (Rep.same t2.fz r1) r2 ed fun z F' H' ex rz => okd h R2 ex rz
  | ex x σ1 => rw [e] at h; exact h
  | bad => rw [e] at h; exact h
theorem dv_un {op : UnaryOp} {r : V → Hp → VK → Prop} {f : D → Option D} {pos : Pos} (ho : UnR X (unaryOp op) r) (hv : VOp1 X.K X.mg r f) (ha : DV X W a ma) : DV X W (.UnaryOp op a pos) (ev1 f ma) := by
  obtain ⟨ta, pa, ha⟩ := ha
  refine ⟨_, pe_un ho pa, fun F H σ τ Q R h => ?_⟩
  unfold ev1 at h
  rw [asS_bind] at h
  refine ha F H σ τ _ R (dvk h fun x σ1 v F1 H1 R1 r1 h => ?_)
  obtain ⟨d, ed, h⟩ := okl (v := v) h
  exact hv F1 H1 x v d Q R1.same r1 ed fun z F' H' ex rz => okd h R1 ex rz
theorem dv_cmp {op : CmpOp} {r : R2} {f : D → D → Option D} {pos : Pos} (ho : OpR X (compareOp op) r) (hv : VOp2 X.K X.mg r f) (ha : DV X W a ma) (hb : DV X W b mb) (hm : behindInMarks op b = false) : DV X W (.Compare a [op] [b] pos) (ev2 f ma mb) := by
  obtain ⟨ta, pa, ha⟩ := ha
  obtain ⟨tb, pb, hb⟩ := hb
  refine ⟨_, pe_cmpR ho pa pb hm, fun F H σ τ Q R h => ?_⟩
  unfold ev2 at h
  rw [asS_bind] at h
  refine ha F H σ τ _ R (dvk h fun x σ1 v F1 H1 R1 r1 h => ?_)
  rw [asS_bind] at h
  refine hb F1 H1 σ1 τ _ R1 ?_
  unfold M.bind at h
  unfold asS
  cases e : mb σ1 with
  | ok y σ2 =>
    rw [e] at h
    intro w F2 H2 R2 r2 _ t2
    obtain ⟨d, ed, h⟩ := okl (v := w) (OkE.later t2.noR h)
    exact hv F2 H2 x y v w d Q R2.same (Rep.same t2.fz r1) r2 ed fun z F' H' ex rz => okd h R2 ex rz
  | ex x σ1 => rw [e] at h; exact h
  | bad => rw [e] at h; exact h
def toB (m : M D) : M Bool := fun σ => match m σ with
  | .ok (.bl b) σ' => .ok b σ'
  | .ok _ _ => .bad
  | .ex e σ' => .ex e σ'
  | .bad => .bad
theorem okT_toB {K : PySem.W.Frag} {mg : Str → Option Value} {σ : List Sl} {τ : List (Option V)} {F H : Hp} {Q : Bool → Hp → Prop} {m : M D} (h : OkT K mg W σ τ F H Q (toB m σ)) :
    OkE K mg W σ τ F H (fun x H1 => ∃ k, x = .bl k ∧ Q k H1) (asS m σ) := by
  unfold toB at h
  unfold asS
  cases e : m σ with
  | ok x σ1 =>
    rw [e] at h
    cases x with
    | bl k => exact fun v F1 H1 R1 r1 _ t1 => ⟨k, r1, h F1 H1 R1 t1.noR⟩
    | _ => exact False.elim h
  | ex x σ1 => rw [e] at h; exact h
  | bad => rw [e] at h; exact h
/-- a test by its value -/
theorem dt_val (h : DV X W e ma) (he : ∀ whole, isTrue e X.env whole = (do let v ← whole; standAt e.pos; holding [v] (truthy v)) := by intro _; rfl) : DT X W e (toB ma) := by
  obtain ⟨t, p, h⟩ := h
  exact ⟨_, pt_val p he, fun F H σ τ Q R q => h F H σ τ _ R (okT_toB q)⟩
theorem dt_cmp {op : CmpOp} {r : R2} {f : D → D → Option D} {pos : Pos} (ho : OpR X (compareOp op) r) (hv : VOp2 X.K X.mg r f) (ha : DV X W a ma) (hb : DV X W b mb) (hm : behindInMarks op b = false) : DT X W (.Compare a [op] [b] pos) (toB (ev2 f ma mb)) := by
  obtain ⟨ta, pa, ha⟩ := ha
  obtain ⟨tb, pb, hb⟩ := hb
  refine ⟨_, pt_cmpR ho pa pb hm, fun F H σ τ Q R q => ?_⟩
  have h := okT_toB q
  show tOp r ta tb τ H _
  unfold ev2 at h
  rw [asS_bind] at h
  refine ha F H σ τ _ R (dvk h fun x σ1 v F1 H1 R1 r1 h => ?_)
  rw [asS_bind] at h
  refine hb F1 H1 σ1 τ _ R1 ?_
  unfold M.bind at h
  unfold asS
  cases e : mb σ1 with
  | ok y σ2 =>
    rw [e] at h
    intro w F2 H2 R2 r2 _ t2
    obtain ⟨d, ed, h⟩ := okl (v := w) (OkE.later t2.noR h)
    exact hv F2 H2 x y v w d _ R2.same (Rep.same t2.fz r1) r2 ed fun z F' H' ex rz => okd h R2 ex rz
  | ex x σ1 => rw [e] at h; exact h
  | bad => rw [e] at h; exact h

/-! names, constants -/
theorem dv_var (i : Nat) {x : Str} {pos : Pos} (hN : X.N[i]? = some x := by rfl) (hv : Vis X.env.scope x := by first | exact Or.inl rfl | exact Or.inr (Or.inl rfl) | exact Or.inr (Or.inr rfl)) (hd : (x == ("__debug__" : Str)) = false := by decide +kernel)
    (hcd : (x == ("__classdict__" : Str)) = false := by decide +kernel) : DV X W (.Name x pos) (evV i) := by
  refine ⟨_, pe_var hN hv hd hcd, fun F H σ τ Q R h => ?_⟩
  unfold asS evV at h
  cases e : σ[i]? with
  | none => rw [e] at h; exact False.elim h
  | some s =>
    rw [e] at h
    cases s with
    | un => exact False.elim h
    | d x =>
      obtain ⟨v, e1, r⟩ := R.val i x e
      exact ⟨v, e1, okd h R (Ext.refl R.same) r⟩
    | o o =>
      obtain ⟨a, e1, at_, n⟩ := R.own i o e
      obtain ⟨R', t⟩ := R.freeze e e1 at_ n
      exact ⟨_, e1, h _ _ _ R' (at_.rep n) (fun _ ⟨⟨_, z⟩, _⟩ => nomatch z) t.orR⟩
theorem do_mv (i : Nat) {x : Str} {pos : Pos} (hN : X.N[i]? = some x := by rfl) (hv : Vis X.env.scope x := by first | exact Or.inl rfl | exact Or.inr (Or.inl rfl) | exact Or.inr (Or.inr rfl)) (hd : (x == ("__debug__" : Str)) = false := by decide +kernel)
    (hcd : (x == ("__classdict__" : Str)) = false := by decide +kernel) : DO X W (.Name x pos) (evMv i) := by
  refine ⟨_, pe_var hN hv hd hcd, fun F H σ τ Q R h => ?_⟩
  unfold evMv at h
  cases e : σ[i]? with
  | none => rw [e] at h; exact False.elim h
  | some s =>
    rw [e] at h
    cases s with
    | un => exact False.elim h
    | d x =>
      obtain ⟨v, e1, r⟩ := R.val i x e
      exact ⟨v, e1, okd h R (Ext.refl R.same) r⟩
    | o o =>
      obtain ⟨a, e1, at_, n⟩ := R.own i o e
      have nO : ¬ Own (σ.set i .un) τ a := R.notOwn (by intro o z; cases z) e e1
      refine ⟨_, e1, h _ F H (R.unset i) ⟨a, rfl, at_, n⟩ (fun b ⟨_, z⟩ q => ?_) (Tr.refl.weak fun b q => ?_)⟩
      · cases z; exact nO q
      · rcases q with q | ⟨_, z⟩
        · exact (Own.drop (by intro o z; cases z) q).1
        · cases z; exact ⟨i, o, e, e1⟩
theorem dv_const {pos : Pos} {t : TE} {v : V} {d : D} (h : PE X e (tC v)) (r : ∀ F, Rep X.K X.mg F d v) : DV X W e (evC d) :=
  ⟨_, h, fun F H σ τ Q R q => okd q R (Ext.refl R.same) (r F)⟩
theorem dv_int {i : Int} {j : _} {pos : Pos} : DV X W (.Constant (.int i) j pos) (evC (.int i)) := dv_const (pos := pos) (t := tC .non) pe_int fun _ => rfl
theorem dv_str {x : Str} {j : _} {pos : Pos} : DV X W (.Constant (.str x) j pos) (evC (.str x)) := dv_const (pos := pos) (t := tC .non) pe_str fun _ => rfl
theorem dv_bl {x : Bool} {j : _} {pos : Pos} : DV X W (.Constant (.bool x) j pos) (evC (.bl x)) := dv_const (pos := pos) (t := tC .non) pe_bl fun _ => rfl
theorem dv_non {j : _} {pos : Pos} : DV X W (.Constant .none j pos) (evC .non) := dv_const (pos := pos) (t := tC .non) pe_non fun _ => rfl
theorem dv_gint {x : Str} {i : Int} {t : Tok} {pos : Pos} (hg : Gl X x) (hm : X.mg x = some (.int i t)) (hd : (x == ("__debug__" : Str)) = false := by decide +kernel) : DV X W (.Name x pos) (evC (.int i)) :=
  dv_const (pos := pos) (t := tC .non) (pe_glob hg hm (v := .int i) ⟨t, rfl⟩ hd) fun _ => rfl
theorem dv_gstr {x z : Str} {t : Tok} {pos : Pos} (hg : Gl X x) (hm : X.mg x = some (.str z t)) (hd : (x == ("__debug__" : Str)) = false := by decide +kernel) : DV X W (.Name x pos) (evC (.str z)) :=
  dv_const (pos := pos) (t := tC .non) (pe_glob hg hm (v := .str z) ⟨t, rfl⟩ hd) fun _ => rfl
end
end DL
namespace DL
open PySem PySem.Spec PyProof.Rows L2
/-- the size that this layer allows -/
def szMax : Nat := 1000000
theorem sz_ok {n : Nat} (h : n ≤ szMax) : n ≤ sizeLine := Nat.le_trans h (by rw [sizeLine_eq]; decide)

theorem RepL.len {K : PySem.W.Frag} {mg : Str → Option Value} {F : Hp} : ∀ {ds : List D} {xs : List V}, RepL K mg F ds xs → ds.length = xs.length
  | [], xs, h => by simp only [RepL] at h; rw [h]; rfl
  | d :: ds, xs, h => by
    simp only [RepL] at h
    obtain ⟨x, r, rfl, _, h2⟩ := h
    rw [List.length_cons, List.length_cons, RepL.len h2]
theorem RepL.append {K : PySem.W.Frag} {mg : Str → Option Value} {F : Hp} : ∀ {ds es : List D} {xs ys : List V}, RepL K mg F ds xs → RepL K mg F es ys → RepL K mg F (ds ++ es) (xs ++ ys)
  | [], es, xs, ys, h, q => by simp only [RepL] at h; rw [h]; exact q
  | d :: ds, es, xs, ys, h, q => by
    simp only [RepL] at h
    obtain ⟨x, r, rfl, h1, h2⟩ := h
    rw [List.cons_append, List.cons_append]
    simp only [RepL]
    exact ⟨x, _, rfl, h1, RepL.append h2 q⟩
theorem RepL.get {K : PySem.W.Frag} {mg : Str → Option Value} {F : Hp} : ∀ {ds : List D} {xs : List V} {i : Nat} {d : D}, RepL K mg F ds xs → ds[i]? = some d → ∃ x, xs[i]? = some x ∧ Rep K mg F d x
  | [], _, _, _, _, e => by simp at e
  | d :: ds, xs, i, d', h, e => by
    simp only [RepL] at h
    obtain ⟨x, r, rfl, h1, h2⟩ := h
    cases i with
    | zero => simp at e; subst e; exact ⟨x, rfl, h1⟩
    | succ i =>
      obtain ⟨y, e1, e2⟩ := RepL.get (i := i) (d := d') h2 (by simpa using e)
      exact ⟨y, by simpa using e1, e2⟩
theorem RepL.get' {K : PySem.W.Frag} {mg : Str → Option Value} {F : Hp} : ∀ {ds : List D} {xs : List V} {i : Nat} {x : V}, RepL K mg F ds xs → xs[i]? = some x → ∃ d, ds[i]? = some d ∧ Rep K mg F d x
  | [], xs, i, x, h, e => by simp only [RepL] at h; rw [h] at e; simp at e
  | d :: ds, xs, i, x', h, e => by
    simp only [RepL] at h
    obtain ⟨x, r, rfl, h1, h2⟩ := h
    cases i with
    | zero => simp at e; subst e; exact ⟨d, rfl, h1⟩
    | succ i =>
      obtain ⟨y, e1, e2⟩ := RepL.get' (i := i) (x := x') h2 (by simpa using e)
      exact ⟨y, by simpa using e1, e2⟩
theorem RepL.drop {K : PySem.W.Frag} {mg : Str → Option Value} {F : Hp} : ∀ (n : Nat) {ds : List D} {xs : List V}, RepL K mg F ds xs → RepL K mg F (ds.drop n) (xs.drop n)
  | 0, _, _, h => h
  | n + 1, [], xs, h => by simp only [RepL] at h; rw [h]; simp [RepL]
  | n + 1, d :: ds, xs, h => by
    simp only [RepL] at h
    obtain ⟨x, r, rfl, _, h2⟩ := h
    exact RepL.drop n h2
theorem RepL.take {K : PySem.W.Frag} {mg : Str → Option Value} {F : Hp} : ∀ (n : Nat) {ds : List D} {xs : List V}, RepL K mg F ds xs → RepL K mg F (ds.take n) (xs.take n)
  | 0, _, _, h => by simp [RepL]
  | n + 1, [], xs, h => by simp only [RepL] at h; rw [h]; simp [RepL]
  | n + 1, d :: ds, xs, h => by
    simp only [RepL] at h
    obtain ⟨x, r, rfl, h1, h2⟩ := h
    show RepL K mg F (d :: ds.take n) (x :: r.take n)
    simp only [RepL]
    exact ⟨x, _, rfl, h1, RepL.take n h2⟩
theorem RepL.set {K : PySem.W.Frag} {mg : Str → Option Value} {F : Hp} {d : D} {x : V} (hd : Rep K mg F d x) : ∀ (n : Nat) {ds : List D} {xs : List V}, RepL K mg F ds xs → RepL K mg F (ds.set n d) (xs.set n x)
  | n, [], xs, h => by simp only [RepL] at h; rw [h]; simp [RepL]
  | 0, e :: ds, xs, h => by
    simp only [RepL] at h
    obtain ⟨y, r, rfl, _, h2⟩ := h
    show RepL K mg F (d :: ds) (x :: r)
    simp only [RepL]
    exact ⟨x, _, rfl, hd, h2⟩
  | n + 1, e :: ds, xs, h => by
    simp only [RepL] at h
    obtain ⟨y, r, rfl, h1, h2⟩ := h
    show RepL K mg F (e :: ds.set n d) (y :: r.set n x)
    simp only [RepL]
    exact ⟨y, _, rfl, h1, RepL.set hd n h2⟩
theorem RepL.flat {K : PySem.W.Frag} {mg : Str → Option Value} {F : Hp} {ds : List D} {xs : List V} (h : RepL K mg F ds xs) : ∀ n : Nat, RepL K mg F (List.replicate n ds).flatten (List.replicate n xs).flatten
  | 0 => by simp [RepL]
  | n + 1 => by
    rw [List.replicate_succ, List.replicate_succ, List.flatten_cons, List.flatten_cons]
    exact h.append (RepL.flat h n)
theorem RepL.mk {K : PySem.W.Frag} {mg : Str → Option Value} {F : Hp} {α : Type} {f : α → D} {g : α → V} (h : ∀ a, Rep K mg F (f a) (g a)) : ∀ l : List α, RepL K mg F (l.map f) (l.map g)
  | [] => by simp [RepL]
  | a :: l => by
    rw [List.map_cons, List.map_cons]
    simp only [RepL]
    exact ⟨_, _, rfl, h a, RepL.mk h l⟩

section
variable {K : PySem.W.Frag} {mg : Str → Option Value} {F H : Hp}
/-- a new list, a new tuple -/
theorem new_lst {ds : List D} {xs : List V} {p : Addr} (s : Same F H) (n : H p = none) (z : xs.length ≤ sizeLine) (r : RepL K mg F ds xs) :
    Ext F H (upd F p (.lst xs)) (upd H p (.lst xs)) ∧ Rep K mg (upd F p (.lst xs)) (.lst ds) (.ref p) := by
  have e := Ext.new1 s n (o := .lst xs)
  exact ⟨e, p, xs, rfl, upd_same, z, RepL.same e.fz r⟩
theorem new_tup {ds : List D} {xs : List V} {p : Addr} (s : Same F H) (n : H p = none) (z : xs.length ≤ sizeLine) (r : RepL K mg F ds xs) :
    Ext F H (upd F p (.tup xs)) (upd H p (.tup xs)) ∧ Rep K mg (upd F p (.tup xs)) (.tup ds) (.ref p) := by
  have e := Ext.new1 s n (o := .tup xs)
  exact ⟨e, p, xs, rfl, upd_same, z, RepL.same e.fz r⟩
end

/-! ### + -/
def dAdd : D → D → Option D
  | .int i, .int j => some (.int (i + j))
  | .str a, .str b => if a.length + b.length ≤ szMax then some (.str (a ++ b)) else none
  | .lst xs, .lst ys => if xs.length + ys.length ≤ szMax then some (.lst (xs ++ ys)) else none
  | .tup xs, .tup ys => if xs.isEmpty = false ∧ xs.length + ys.length ≤ szMax then some (.tup (xs ++ ys)) else none
  | _, _ => none
def rStrAdd : R2 := fun x y H Q => ∃ i j, x = .str i ∧ y = .str j ∧ i.length + j.length ≤ sizeLine ∧ Q (.str (i ++ j)) H
def rAddD (K : PySem.W.Frag) : R2 := fun x y H Q => (((rI0 fun i j => .int (i + j)) x y H Q ∨ rStrAdd x y H Q) ∨ rCat x y H Q) ∨ rCatT K x y H Q
theorem o_add {X : Cx} : OpR X (binaryOp .Add) (rAddD X.K) := OpR.or (OpR.or (OpR.or op_add op_add_str) op_cat) op_catT
theorem v_add {K : PySem.W.Frag} {mg : Str → Option Value} : VOp2 K mg (rAddD K) dAdd := by
  intro F H x y u v d Q s rx ry e k
  unfold dAdd at e
  split at e
  · cases e
    cases rx; cases ry
    exact .inl (.inl (.inl ⟨_, _, rfl, rfl, k _ F H (Ext.refl s) rfl⟩))
  · split at e
    · rename_i hz
      cases e
      cases rx; cases ry
      exact .inl (.inl (.inr ⟨_, _, rfl, rfl, sz_ok hz, k _ F H (Ext.refl s) rfl⟩))
    · cases e
  · split at e
    · rename_i hz
      cases e
      obtain ⟨a, xs, rfl, ha, za, ra⟩ := rx
      obtain ⟨b, ys, rfl, hb, zb, rb⟩ := ry
      have zz : xs.length + ys.length ≤ sizeLine := by rw [← ra.len, ← rb.len]; exact sz_ok hz
      refine .inl (.inr ⟨a, b, xs, ys, rfl, rfl, s _ _ ha, s _ _ hb, zz, fun p np => ?_⟩)
      obtain ⟨x, r⟩ := new_lst (mg := mg) s np (by rw [List.length_append]; exact zz) (ra.append rb)
      exact k _ _ _ x r
    · cases e
  · split at e
    · rename_i xs' ys' hz
      cases e
      obtain ⟨a, xs, rfl, ha, za, ra⟩ := rx
      obtain ⟨b, ys, rfl, hb, zb, rb⟩ := ry
      have zz : xs.length + ys.length ≤ sizeLine := by rw [← ra.len, ← rb.len]; exact sz_ok hz.2
      refine .inr ⟨a, b, xs, ys, rfl, rfl, .of (s _ _ ha), .of (s _ _ hb), ?_, zz, fun en => ?_, fun _ p np => ?_⟩
      · intro e
        have := ra.len
        rw [e] at this
        cases xs' with
        | nil => exact absurd hz.1 (by simp)
        | cons _ _ => simp at this
      · subst en
        have : ys' = [] := by
          have := rb.len
          cases ys' with
          | nil => rfl
          | cons _ _ => simp at this
        subst this
        rw [List.append_nil] at k
        exact k _ F H (Ext.refl s) ⟨a, xs, rfl, ha, za, ra⟩
      · obtain ⟨x, r⟩ := new_tup (mg := mg) s np (by rw [List.length_append]; exact zz) (ra.append rb)
        exact k _ _ _ x r
    · cases e
  · cases e
/-! ### - * // % ** of ints, a text or a list repeated -/
def dSub : D → D → Option D
  | .int i, .int j => some (.int (i - j))
  | _, _ => none
theorem v_sub {K : PySem.W.Frag} {mg : Str → Option Value} : VOp2 K mg (rI0 fun i j => .int (i - j)) dSub := by
  intro F H x y u v d Q s rx ry e k
  unfold dSub at e
  split at e
  · cases e
    cases rx; cases ry
    exact ⟨_, _, rfl, rfl, k _ F H (Ext.refl s) rfl⟩
  · cases e
def mulOk (i j : Int) : Bool := i.natAbs.log2 + j.natAbs.log2 < 1000000
theorem mulOk_w {i j : Int} (h : mulOk i j = true) : CMulW i j := by
  have h' : i.natAbs.log2 + j.natAbs.log2 < 1000000 := by simpa [mulOk] using h
  exact h'
def dMulI : D → D → Option D
  | .int i, .int j => if mulOk i j then some (.int (i * j)) else none
  | _, _ => none
theorem v_mulI {K : PySem.W.Frag} {mg : Str → Option Value} : VOp2 K mg (rI CMulW fun i j => .int (i * j)) dMulI := by
  intro F H x y u v d Q s rx ry e k
  unfold dMulI at e
  split at e
  · split at e
    · rename_i hm
      cases e
      cases rx; cases ry
      exact ⟨_, _, rfl, rfl, mulOk_w hm, k _ F H (Ext.refl s) rfl⟩
    · cases e
  · cases e
def dFdiv : D → D → Option D
  | .int i, .int j => if 0 < j ∧ j.natAbs.log2 < 9000 then some (.int (i / j)) else none
  | _, _ => none
theorem v_fdiv {K : PySem.W.Frag} {mg : Str → Option Value} : VOp2 K mg (rI CDivW fun i j => .int (i / j)) dFdiv := by
  intro F H x y u v d Q s rx ry e k
  unfold dFdiv at e
  split at e
  · split at e
    · rename_i hm
      cases e
      cases rx; cases ry
      exact ⟨_, _, rfl, rfl, hm, k _ F H (Ext.refl s) rfl⟩
    · cases e
  · cases e
def dMod : D → D → Option D
  | .int i, .int j => if 0 < j then some (.int (i % j)) else none
  | _, _ => none
theorem v_mod {K : PySem.W.Frag} {mg : Str → Option Value} : VOp2 K mg (rI (fun _ j => 0 < j) fun i j => .int (i % j)) dMod := by
  intro F H x y u v d Q s rx ry e k
  unfold dMod at e
  split at e
  · split at e
    · rename_i hm
      cases e
      cases rx; cases ry
      exact ⟨_, _, rfl, rfl, hm, k _ F H (Ext.refl s) rfl⟩
    · cases e
  · cases e
def dPow : D → D → Option D
  | .int i, .int j => if 0 ≤ j ∧ j ≤ 1000 ∧ i.natAbs < 2 ^ 64 then some (.int (i ^ j.toNat)) else none
  | _, _ => none
theorem v_pow {K : PySem.W.Frag} {mg : Str → Option Value} : VOp2 K mg (rI CPow fun i j => .int (i ^ j.toNat)) dPow := by
  intro F H x y u v d Q s rx ry e k
  unfold dPow at e
  split at e
  · split at e
    · rename_i hm
      cases e
      cases rx; cases ry
      exact ⟨_, _, rfl, rfl, ⟨hm.1, by omega, hm.2.2⟩, k _ F H (Ext.refl s) rfl⟩
    · cases e
  · cases e
def dNeg : D → Option D
  | .int i => some (.int (-i))
  | _ => none
theorem v_neg {K : PySem.W.Frag} {mg : Str → Option Value} : VOp1 K mg (rU fun i => .int (-i)) dNeg := by
  intro F H x u d Q s rx e k
  unfold dNeg at e
  split at e
  · cases e
    cases rx
    exact ⟨_, rfl, k _ F H (Ext.refl s) rfl⟩
  · cases e
/-! ### order of ints -/
def dCmpI (p : Int → Int → Bool) : D → D → Option D
  | .int i, .int j => some (.bl (p i j))
  | _, _ => none
theorem v_cmpI {K : PySem.W.Frag} {mg : Str → Option Value} {p : Int → Int → Bool} : VOp2 K mg (rI0 fun i j => .bl (p i j)) (dCmpI p) := by
  intro F H x y u v d Q s rx ry e k
  unfold dCmpI at e
  split at e
  · cases e
    cases rx; cases ry
    exact ⟨_, _, rfl, rfl, k _ F H (Ext.refl s) rfl⟩
  · cases e
abbrev dLt := dCmpI fun i j => decide (i < j)
abbrev dLe := dCmpI fun i j => decide (i ≤ j)
abbrev dGt := dCmpI fun i j => decide (j < i)
abbrev dGe := dCmpI fun i j => decide (j ≤ i)
/-! ### == of data -/
mutual
def toPy : D → PyData
  | .non => .none
  | .bl b => .bool b
  | .int i => .int i
  | .str s => .str s
  | .tup xs => .tuple (toPyL xs)
  | .lst xs => .list (toPyL xs)
  | .dk _ _ => .none
  | .dt _ _ => .none
  | .ins _ _ _ => .none
  | .scr _ => .none
def toPyL : List D → List PyData
  | [] => []
  | d :: ds => toPy d :: toPyL ds
end
mutual
def plain : D → Bool
  | .non => true
  | .bl _ => true
  | .int _ => true
  | .str _ => true
  | .tup xs => plainL xs
  | .lst xs => plainL xs
  | .dk _ _ => false
  | .dt _ _ => false
  | .ins _ _ _ => false
  | .scr _ => false
def plainL : List D → Bool
  | [] => true
  | d :: ds => plain d && plainL ds
end
section
variable {K : PySem.W.Frag} {mg : Str → Option Value} {F : Hp}
mutual
theorem Rep.dp : ∀ {d : D} {v : V}, plain d = true → Rep K mg F d v → Dp K F v (toPy d)
  | .non, v, _, h => by simp only [Rep] at h; subst h; simp only [toPy]; exact .non
  | .bl b, v, _, h => by simp only [Rep] at h; subst h; simp only [toPy]; exact .bl b
  | .int i, v, _, h => by simp only [Rep] at h; subst h; simp only [toPy]; exact .int i
  | .str s, v, _, h => by simp only [Rep] at h; subst h; simp only [toPy]; exact .str s
  | .tup xs, v, p, h => by
    simp only [plain] at p
    simp only [Rep] at h
    obtain ⟨a, ys, rfl, ha, _, r⟩ := h
    simp only [toPy]
    exact .tup (.of ha) (RepL.dp p r)
  | .lst xs, v, p, h => by
    simp only [plain] at p
    simp only [Rep] at h
    obtain ⟨a, ys, rfl, ha, _, r⟩ := h
    simp only [toPy]
    exact .lst (.of ha) (RepL.dp p r)
  | .dk _ _, v, p, _ => by simp [plain] at p
  | .dt _ _, v, p, _ => by simp [plain] at p
  | .ins _ _ _, v, p, _ => by simp [plain] at p
  | .scr _, v, p, _ => by simp [plain] at p
theorem RepL.dp : ∀ {ds : List D} {xs : List V}, plainL ds = true → RepL K mg F ds xs → DpAll K F xs (toPyL ds)
  | [], xs, _, h => by simp only [RepL] at h; subst h; simp only [toPyL]; exact .nil
  | d :: ds, xs, p, h => by
    simp only [plainL, Bool.and_eq_true] at p
    simp only [RepL] at h
    obtain ⟨x, r, rfl, h1, h2⟩ := h
    simp only [toPyL]
    exact .cons (Rep.dp p.1 h1) (RepL.dp p.2 h2)
end
end
mutual
theorem Dp.same {K : PySem.W.Frag} {F F' : Hp} (s : Same F F') : ∀ (d : PyData) (v : V), Dp K F v d → Dp K F' v d
  | .none, _, h => by cases h; exact .non
  | .bool b, _, h => by cases h; exact .bl _
  | .int i, _, h => by cases h; exact .int _
  | .str x, _, h => by cases h; exact .str _
  | .list ds, _, h => by cases h with | lst a b => exact .lst (s.seq a) (DpAll.same s ds _ b)
  | .tuple ds, _, h => by cases h with | tup a b => exact .tup (SqT.same s a) (DpAll.same s ds _ b)
  | .dict kvs, _, h => by cases h
theorem DpAll.same {K : PySem.W.Frag} {F F' : Hp} (s : Same F F') : ∀ (ds : List PyData) (vs : List V), DpAll K F vs ds → DpAll K F' vs ds
  | [], _, h => by cases h; exact .nil
  | d :: ds, _, h => by cases h with | cons a b => exact .cons (Dp.same s d _ a) (DpAll.same s ds _ b)
end
def eqOk (x y : D) : Bool := plain x && plain y && SeqAt.shaped (toPy x) && SeqAt.shaped (toPy y)
def dEqB : D → D → Option Bool
  | .int i, .int j => some (i == j)
  | .str a, .str b => some (a == b)
  | .non, .non => some true
  | .non, .int _ => some false
  | .int _, .non => some false
  | .non, .str _ => some false
  | .str _, .non => some false
  | .bl a, .bl b => some (a == b)
  | .str _, .int _ => some false
  | .int _, .str _ => some false
  | x, y => if eqOk x y then some (PyData.eqv (toPy x) (toPy y)) else none
def dEq (x y : D) : Option D := (dEqB x y).map .bl
def dNe (x y : D) : Option D := (dEqB x y).map fun b => .bl (!b)
def rEqA (K : PySem.W.Frag) : R2 := fun x y H Q => rEq x y H Q ∨ rEqD K x y H Q
def rNeA (K : PySem.W.Frag) : R2 := fun x y H Q => rNe x y H Q ∨ rNeD K x y H Q
theorem o_eq {X : Cx} (hu : X.A.units + 64 < cLine) : OpR X (compareOp .Eq) (rEqA X.K) := OpR.or op_eq (op_eqD hu)
theorem o_ne {X : Cx} (hu : X.A.units + 64 < cLine) : OpR X (compareOp .NotEq) (rNeA X.K) := OpR.or op_ne (op_neD hu)
theorem v_eqB {K : PySem.W.Frag} {mg : Str → Option Value} {F H : Hp} {x y : D} {u v : V} {b : Bool} (s : Same F H) (rx : Rep K mg F x u) (ry : Rep K mg F y v) (e : dEqB x y = some b) :
    (scal u v = true ∧ decide (u = v) = b) ∨ ∃ d e, Dp K H u d ∧ Dp K H v e ∧ SeqAt.shaped d = true ∧ SeqAt.shaped e = true ∧ PyData.eqv d e = b := by
  unfold dEqB at e
  split at e
  · cases e; cases rx; cases ry; exact .inl ⟨rfl, by first | (simp; done) | (rw [Bool.beq_eq_decide_eq]; simp)⟩
  · cases e; cases rx; cases ry; exact .inl ⟨rfl, by first | (simp; done) | (rw [Bool.beq_eq_decide_eq]; simp)⟩
  · cases e; cases rx; cases ry; exact .inl ⟨rfl, by first | (simp; done) | (rw [Bool.beq_eq_decide_eq]; simp)⟩
  · cases e; cases rx; cases ry; exact .inl ⟨rfl, by first | (simp; done) | (rw [Bool.beq_eq_decide_eq]; simp)⟩
  · cases e; cases rx; cases ry; exact .inl ⟨rfl, by first | (simp; done) | (rw [Bool.beq_eq_decide_eq]; simp)⟩
  · cases e; cases rx; cases ry; exact .inl ⟨rfl, by first | (simp; done) | (rw [Bool.beq_eq_decide_eq]; simp)⟩
  · cases e; cases rx; cases ry; exact .inl ⟨rfl, by first | (simp; done) | (rw [Bool.beq_eq_decide_eq]; simp)⟩
  · cases e; cases rx; cases ry; exact .inl ⟨rfl, by first | (simp; done) | (rw [Bool.beq_eq_decide_eq]; simp)⟩
  · cases e; cases rx; cases ry; exact .inl ⟨rfl, by first | (simp; done) | (rw [Bool.beq_eq_decide_eq]; simp)⟩
  · cases e; cases rx; cases ry; exact .inl ⟨rfl, by first | (simp; done) | (rw [Bool.beq_eq_decide_eq]; simp)⟩
  · split at e
    · rename_i hk
      cases e
      unfold eqOk at hk
      simp only [Bool.and_eq_true] at hk
      obtain ⟨⟨⟨p1, p2⟩, s1⟩, s2⟩ := hk
      exact .inr ⟨_, _, Dp.same s _ _ (rx.dp p1), Dp.same s _ _ (ry.dp p2), s1, s2, rfl⟩
    · cases e
theorem v_eq {K : PySem.W.Frag} {mg : Str → Option Value} : VOp2 K mg (rEqA K) dEq := by
  intro F H x y u v d Q s rx ry e k
  obtain ⟨b, eb, rfl⟩ := Option.map_eq_some_iff.mp e
  have q := k (.bl b) F H (Ext.refl s) rfl
  rcases v_eqB s rx ry eb with ⟨h1, rfl⟩ | ⟨d1, d2, h1, h2, h3, h4, rfl⟩
  · exact .inl ⟨h1, q⟩
  · exact .inr ⟨d1, d2, h1, h2, h3, h4, q⟩
theorem v_ne {K : PySem.W.Frag} {mg : Str → Option Value} : VOp2 K mg (rNeA K) dNe := by
  intro F H x y u v d Q s rx ry e k
  obtain ⟨b, eb, rfl⟩ := Option.map_eq_some_iff.mp e
  have q := k (.bl (!b)) F H (Ext.refl s) rfl
  rcases v_eqB s rx ry eb with ⟨h1, rfl⟩ | ⟨d1, d2, h1, h2, h3, h4, rfl⟩
  · exact .inl ⟨h1, q⟩
  · exact .inr ⟨d1, d2, h1, h2, h3, h4, q⟩
/-! ### is None -/
def isNon : D → Bool
  | .non => true
  | _ => false
theorem Rep.isNon {K : PySem.W.Frag} {mg : Str → Option Value} {F : Hp} {d : D} {v : V} (h : Rep K mg F d v) : decide (v = .non) = isNon d := by
  cases d with
  | non => cases h; rfl
  | bl b => cases h; rfl
  | int b => cases h; rfl
  | str b => cases h; rfl
  | tup b => obtain ⟨_, _, rfl, _⟩ := h; rfl
  | lst b => obtain ⟨_, _, rfl, _⟩ := h; rfl
  | dk b => obtain ⟨_, _, rfl, _⟩ := h; rfl
  | dt b => obtain ⟨_, _, rfl, _⟩ := h; rfl
  | ins b => obtain ⟨_, _, _, _, rfl, _⟩ := h; rfl
  | scr b => obtain ⟨_, rfl, _⟩ := h; rfl
def dIs : D → D → Option D
  | x, .non => some (.bl (isNon x))
  | _, _ => none
def dIsNot : D → D → Option D
  | x, .non => some (.bl (!isNon x))
  | _, _ => none
theorem v_is {K : PySem.W.Frag} {mg : Str → Option Value} : VOp2 K mg (fun x y H Q => y = .non ∧ Q (.bl (decide (x = .non))) H) dIs := by
  intro F H x y u v d Q s rx ry e k
  unfold dIs at e
  split at e
  · cases e; cases ry
    refine ⟨rfl, ?_⟩
    rw [rx.isNon]
    exact k _ F H (Ext.refl s) rfl
  · cases e
theorem v_isNot {K : PySem.W.Frag} {mg : Str → Option Value} : VOp2 K mg (fun x y H Q => y = .non ∧ Q (.bl (!decide (x = .non))) H) dIsNot := by
  intro F H x y u v d Q s rx ry e k
  unfold dIsNot at e
  split at e
  · cases e; cases ry
    refine ⟨rfl, ?_⟩
    rw [rx.isNon]
    exact k _ F H (Ext.refl s) rfl
  · cases e
end DL
namespace DL
open PySem PySem.Spec PyProof.Rows L2
/-! ### lists of expressions -/
def OkA (K : PySem.W.Frag) (mg : Str → Option Value) (W : WX) (σ : List Sl) (τ : List (Option V)) (F H : Hp) (Q : List V → Hp → Prop) : Res (List D) → Prop
  | .ok ds σ' => ∀ vs F' H', Rl K mg F' H' σ' τ → RepL K mg F' ds vs → Tr (Own σ τ) F H (Own σ' τ) F' H' → Q vs H'
  | .ex e σ' => ∀ cls dd F' H', Rl K mg F' H' σ' τ → Tr (Own σ τ) F H (Own σ' τ) F' H' → ExRep K mg F' H' e cls dd → W cls dd τ H'
  | .bad => False
def DA (X : Cx) (W : WX) (es : List Expr) (m : M (List D)) : Prop := ∃ t, PA X es t ∧ ∀ F H σ τ Q, Rl X.K X.mg F H σ τ → OkA X.K X.mg W σ τ F H Q (m σ) → t τ H Q
def evNil : M (List D) := fun σ => .ok [] σ
def evCons (m : M D) (r : M (List D)) : M (List D) := m.bind fun x => r.bind fun xs => fun σ => .ok (x :: xs) σ
section
variable {K : PySem.W.Frag} {mg : Str → Option Value} {W : WX} {σ σ1 : List Sl} {τ : List (Option V)} {F H F1 H1 : Hp} {Q : VK}
theorem OkA.later {Q : List V → Hp → Prop} (t : Tr (Own σ τ) F H (Own σ1 τ) F1 H1) : ∀ {r : Res (List D)}, OkA K mg W σ τ F H Q r → OkA K mg W σ1 τ F1 H1 Q r
  | .ok r σ', h => fun v F' H' R rp t' => h v F' H' R rp (t.trans t')
  | .ex e σ', h => fun cls dd F' H' R t' er => h cls dd F' H' R (t.trans t') er
  | .bad, h => h
/-- data, then anything -/
theorem dvkA {m : M D} {f : D → M (List D)} {Q : List V → Hp → Prop} {Q1 : VK} (h : OkA K mg W σ τ F H Q (M.bind m f σ))
    (k : ∀ x σ1 v F1 H1, Rl K mg F1 H1 σ1 τ → Rep K mg F1 x v → OkA K mg W σ1 τ F1 H1 Q (f x σ1) → Q1 v H1) : OkE K mg W σ τ F H Q1 (asS m σ) := by
  unfold M.bind at h
  unfold asS
  cases e : m σ with
  | ok x σ1 =>
    rw [e] at h
    exact fun v F1 H1 R1 r1 _ t1 => k x σ1 v F1 H1 R1 r1 (OkA.later t1.noR h)
  | ex x σ1 => rw [e] at h; exact h
  | bad => rw [e] at h; exact h
theorem dak {m : M (List D)} {f : List D → M Sl} {Q1 : List V → Hp → Prop} (h : OkE K mg W σ τ F H Q (M.bind m f σ))
    (k : ∀ x σ1 v F1 H1, Rl K mg F1 H1 σ1 τ → RepL K mg F1 x v → OkE K mg W σ1 τ F1 H1 Q (f x σ1) → Q1 v H1) : OkA K mg W σ τ F H Q1 (m σ) := by
  unfold M.bind at h
  cases e : m σ with
  | ok x σ1 =>
    rw [e] at h
    exact fun v F1 H1 R1 r1 t1 => k x σ1 v F1 H1 R1 r1 (OkE.later t1 h)
  | ex x σ1 => rw [e] at h; exact h
  | bad => rw [e] at h; exact h
/-- a new object, for one alone -/
theorem okO {o : O} {p : Addr} {u : HO} (h : OkE K mg W σ τ F H Q (.ok (.o o) σ)) (R : Rl K mg F H σ τ) (n : H p = none) (at_ : OAt K mg F (upd H p u) o p) : Q (.ref p) (upd H p u) := by
  have np : ∀ b w, H b = some w → b ≠ p := fun b w q z => by rw [z, n] at q; cases q
  have hs : Same H (upd H p u) := fun b w q => by rw [upd_ne (np b w q)]; exact q
  have fn : F p = none := Same.none R.same n
  have nO : ¬ Own σ τ p := fun q => by
    obtain ⟨⟨w, hw⟩, _⟩ := R.own_there q
    rw [n] at hw; cases hw
  have R' : Rl K mg F (upd H p u) σ τ := R.ext ⟨Same.refl _, hs, R.same.trans hs, fun _ q => .inl q⟩
  refine h (.ref p) F (upd H p u) R' ⟨p, rfl, at_, fn⟩ (fun a ⟨_, z⟩ => by cases z; exact nO) ⟨Same.refl _, fun b w q _ => hs b w q, fun b q => .inl q, fun b q => ?_, fun b q => ?_⟩
  · cases e : H b with
    | none => exact absurd e q
    | some w => rw [hs b w e]; simp
  · rcases q with q | ⟨_, z⟩
    · exact .inl q
    · cases z; exact .inr n
/-- the value of an object that is let go: frozen -/
def frzM (m : M Sl) : M D := fun σ => match m σ with
  | .ok (.d x) σ' => .ok x σ'
  | .ok (.o o) σ' => .ok o.frz σ'
  | .ok .un _ => .bad
  | .ex e σ' => .ex e σ'
  | .bad => .bad
theorem okFrz {m : M Sl} (h : OkE K mg W σ τ F H Q (asS (frzM m) σ)) : OkE K mg W σ τ F H Q (m σ) := by
  unfold asS frzM at h
  cases e : m σ with
  | ok r σ1 =>
    rw [e] at h
    cases r with
    | un => exact False.elim h
    | d x => exact h
    | o o =>
      intro v F' H' R ⟨a, ev, at_, fn⟩ nd t
      subst ev
      have nO : ¬ Own σ1 τ a := nd a ⟨⟨o, rfl⟩, rfl⟩
      refine h (.ref a) _ H' (R.frzF fn nO) (at_.rep fn) (fun _ ⟨⟨_, z⟩, _⟩ => nomatch z) ((t.trans (frzF_tr (A' := Own σ1 τ) fn (.inr ⟨⟨o, rfl⟩, rfl⟩) fun b q => .inl q)).orR)
  | ex x σ1 => rw [e] at h; exact h
  | bad => rw [e] at h; exact h
end
section
variable {X : Cx} {W : WX} {a b c e : Expr} {es : List Expr} {ma mb mc : M D} {ml : M (List D)}
theorem dv_of {m : M Sl} (h : DO X W e m) : DV X W e (frzM m) := by
  obtain ⟨t, p, h⟩ := h
  exact ⟨t, p, fun F H σ τ Q R q => h F H σ τ Q R (okFrz q)⟩
theorem do_of (h : DV X W e ma) : DO X W e (asS ma) := h
theorem da_nil : DA X W [] evNil := ⟨_, pa_nil, fun F H σ τ Q R h => h [] F H R (by simp [RepL]) Tr.refl⟩
theorem da_cons (ha : DV X W e ma) (hr : DA X W es ml) (hs : starEach (e :: es) X.env = (false, eval e X.env) :: starEach es X.env := by rfl) : DA X W (e :: es) (evCons ma ml) := by
  obtain ⟨ta, pa, ha⟩ := ha
  obtain ⟨tr, pr, hr⟩ := hr
  refine ⟨_, pa_cons pa pr hs, fun F H σ τ Q R h => ?_⟩
  refine ha F H σ τ _ R (dvkA h fun x σ1 v F1 H1 R1 r1 h => ?_)
  refine hr F1 H1 σ1 τ _ R1 ?_
  unfold M.bind at h
  cases e : ml σ1 with
  | ok y σ2 =>
    rw [e] at h
    intro w F2 H2 R2 r2 t2
    exact OkA.later t2 h (v :: w) F2 H2 R2 (by simp only [RepL]; exact ⟨v, w, rfl, Rep.same t2.fz r1, r2⟩) Tr.refl
  | ex x σ1 => rw [e] at h; exact h
  | bad => rw [e] at h; exact h
/-- a tuple's display -/
def dTup (ds : List D) : Option D := if ds.length ≤ szMax then some (.tup ds) else none
def evL (f : List D → Option D) (m : M (List D)) : M D := m.bind fun ds => lift (f ds)
theorem asS_bindL {m : M (List D)} {f : List D → M D} : asS (m.bind f) = M.bind m fun x => asS (f x) := by
  funext σ
  unfold asS M.bind
  cases m σ <;> rfl
theorem dv_tup {x1} {pos : Pos} (h : DA X W es ml) : DV X W (.Tuple es x1 pos) (evL dTup ml) := by
  obtain ⟨t, p, h⟩ := h
  refine ⟨_, pe_tup p, fun F H σ τ Q R q => ?_⟩
  unfold evL at q
  rw [asS_bindL] at q
  refine h F H σ τ _ R (dak q fun ds σ1 vs F1 H1 R1 r1 q => ?_)
  obtain ⟨d, ed, q⟩ := okl (v := .non) q
  unfold dTup at ed
  split at ed
  · rename_i hz
    cases ed
    have z : vs.length ≤ sizeLine := by rw [← r1.len]; exact sz_ok hz
    refine ⟨z, fun p np => ?_⟩
    obtain ⟨x, r⟩ := new_tup (mg := X.mg) R1.same np z r1
    exact okd q R1 x r
  · cases ed
/-- a list's display: an object of its own -/
def evLst (m : M (List D)) : M Sl := m.bind fun ds => fun σ => if ds.length ≤ szMax then .ok (.o (.lst ds)) σ else .bad
theorem do_lst {pos : Pos} (h : DA X W es ml) : DO X W (.List es pos) (evLst ml) := by
  obtain ⟨t, p, h⟩ := h
  refine ⟨_, pe_lst p, fun F H σ τ Q R q => ?_⟩
  refine h F H σ τ _ R (dak q fun ds σ1 vs F1 H1 R1 r1 q => ?_)
  by_cases hz : ds.length ≤ szMax
  · rw [if_pos hz] at q
    have z : vs.length ≤ sizeLine := by rw [← r1.len]; exact sz_ok hz
    exact ⟨z, fun p np => okO q R1 np ⟨vs, upd_same, z, r1⟩⟩
  · rw [if_neg hz] at q
    exact False.elim q
/-! ### built-ins by values -/
theorem dv_callB {id : String} {r : List V → Hp → VK → Prop} {f : List D → Option D} {x : Str} {p pos : Pos} (hc : CallR X (.builtin id) r) (hv : VCall X.K X.mg r f) (hg : Gl X x) (hm : X.mg x = none) (hb : bootBuiltins x = some (.builtin id)) (ha : DA X W (e :: es) ml)
    (hn : x ≠ "__name__" := by decide +kernel) (hdb : (x == ("__debug__" : Str)) = false := by decide +kernel)
    (he : starEach (e :: es) X.env = (false, eval e X.env) :: starEach es X.env := by rfl) (hpl : (backTo pos (starEach es X.env)).any (·.1) = false := by rfl) : DV X W (.Call (.Name x p) (e :: es) [] pos) (evL f ml) := by
  obtain ⟨t, p, h⟩ := ha
  refine ⟨_, pe_callB hc hg hm hb p hn hdb he hpl, fun F H σ τ Q R q => ?_⟩
  unfold evL at q
  rw [asS_bindL] at q
  refine h F H σ τ _ R (dak q fun ds σ1 vs F1 H1 R1 r1 q => ?_)
  obtain ⟨d, ed, q⟩ := okl (v := .non) q
  exact hv F1 H1 ds vs d Q R1.same r1 ed fun z F' H' ex rz => okd q R1 ex rz
theorem dv_callTy {T : String} {r : List V → Hp → VK → Prop} {f : List D → Option D} {x : Str} {p pos : Pos} (hc : CallR X (.type T) r) (hv : VCall X.K X.mg r f) (hg : Gl X x) (hm : X.mg x = none) (hb : bootBuiltins x = some (.type T)) (ha : DA X W (e :: es) ml)
    (hn : x ≠ "__name__" := by decide +kernel) (hdb : (x == ("__debug__" : Str)) = false := by decide +kernel)
    (he : starEach (e :: es) X.env = (false, eval e X.env) :: starEach es X.env := by rfl) (hpl : (backTo pos (starEach es X.env)).any (·.1) = false := by rfl) : DV X W (.Call (.Name x p) (e :: es) [] pos) (evL f ml) := by
  obtain ⟨t, p, h⟩ := ha
  refine ⟨_, pe_callTy hc hg hm hb p hn hdb he hpl, fun F H σ τ Q R q => ?_⟩
  unfold evL at q
  rw [asS_bindL] at q
  refine h F H σ τ _ R (dak q fun ds σ1 vs F1 H1 R1 r1 q => ?_)
  obtain ⟨d, ed, q⟩ := okl (v := .non) q
  exact hv F1 H1 ds vs d Q R1.same r1 ed fun z F' H' ex rz => okd q R1 ex rz
/-! ### subscripts, slices -/
theorem dv_ix {r : R2} {f : D → D → Option D} {pos : Pos} (ho : IxR X r) (hv : VOp2 X.K X.mg r f) (ha : DV X W a ma) (hb : DV X W b mb) (hs : PlainIx b := by intro _ _; rfl) : DV X W (.Subscript a b pos) (ev2 f ma mb) := by
  obtain ⟨ta, pa, ha⟩ := ha
  obtain ⟨tb, pb, hb⟩ := hb
  refine ⟨_, pe_ix ho pa pb hs, fun F H σ τ Q R h => ?_⟩
  unfold ev2 at h
  rw [asS_bind] at h
  refine ha F H σ τ _ R (dvk h fun x σ1 v F1 H1 R1 r1 h => ?_)
  rw [asS_bind] at h
  refine hb F1 H1 σ1 τ _ R1 ?_
  unfold M.bind at h
  unfold asS
  cases e : mb σ1 with
  | ok y σ2 =>
    rw [e] at h
    intro w F2 H2 R2 r2 _ t2
    obtain ⟨d, ed, h⟩ := okl (v := w) (OkE.later t2.noR h)
    exact hv F2 H2 x y v w d Q R2.same (Rep.same t2.fz r1) r2 ed fun z F' H' ex rz => okd h R2 ex rz
  | ex x σ1 => rw [e] at h; exact h
  | bad => rw [e] at h; exact h
/-- an optional int (a slice's part) -/
def DPt (X : Cx) (W : WX) (e : Option Expr) (m : M (Option Int)) : Prop := ∃ t, PO X e t ∧ ∀ F H σ τ (Q : Option Int → Hp → Prop), Rl X.K X.mg F H σ τ →
  (match m σ with
    | .ok i σ' => ∀ F' H', Rl X.K X.mg F' H' σ' τ → Tr (Own σ τ) F H (Own σ' τ) F' H' → Q i H'
    | .ex e σ' => ∀ cls dd F' H', Rl X.K X.mg F' H' σ' τ → Tr (Own σ τ) F H (Own σ' τ) F' H' → ExRep X.K X.mg F' H' e cls dd → W cls dd τ H'
    | .bad => False) → t τ H Q
def evNo : M (Option Int) := fun σ => .ok none σ
def evPt (m : M D) : M (Option Int) := fun σ => match m σ with
  | .ok (.int i) σ' => .ok (some i) σ'
  | .ok _ _ => .bad
  | .ex e σ' => .ex e σ'
  | .bad => .bad
theorem dp_none : DPt X W none evNo := ⟨_, po_none, fun F H σ τ Q R h => h F H R Tr.refl⟩
theorem dp_some (h : DV X W e ma) : DPt X W (some e) (evPt ma) := by
  obtain ⟨t, p, h⟩ := h
  refine ⟨_, po_some p, fun F H σ τ Q R q => h F H σ τ _ R ?_⟩
  unfold evPt at q
  unfold asS
  cases e : ma σ with
  | ok x σ1 =>
    rw [e] at q
    cases x with
    | int i => exact fun v F1 H1 R1 r1 _ t1 => ⟨i, r1, q F1 H1 R1 t1.noR⟩
    | _ => exact False.elim q
  | ex x σ1 => rw [e] at q; exact q
  | bad => rw [e] at q; exact q
def VSl (K : PySem.W.Frag) (mg : Str → Option Value) (r : V → Option Int → Option Int → Hp → VK → Prop) (f : D → Option Int → Option Int → Option D) : Prop :=
  ∀ (F H : Hp) (x : D) (u : V) (lo hi : Option Int) (d : D) (Q : VK), Same F H → Rep K mg F x u → f x lo hi = some d → (∀ w F' H', Ext F H F' H' → Rep K mg F' d w → Q w H') → r u lo hi H Q
def evSl (f : D → Option Int → Option Int → Option D) (ma : M D) (ml mh : M (Option Int)) : M D := ma.bind fun x => ml.bind fun l => mh.bind fun h => lift (f x l h)
theorem dv_sl {r : V → Option Int → Option Int → Hp → VK → Prop} {f : D → Option Int → Option Int → Option D} {lo hi : Option Expr} {ml mh : M (Option Int)} {p2 pos : Pos} (hr : SlR X r) (hv : VSl X.K X.mg r f) (ha : DV X W a ma) (hl : DPt X W lo ml) (hh : DPt X W hi mh) :
    DV X W (.Subscript a (.Slice lo hi none p2) pos) (evSl f ma ml mh) := by
  obtain ⟨ta, pa, ha⟩ := ha
  obtain ⟨tl, pl, hl⟩ := hl
  obtain ⟨th, ph, hh⟩ := hh
  refine ⟨_, pe_slice hr pa pl ph, fun F H σ τ Q R h => ?_⟩
  unfold evSl at h
  rw [asS_bind] at h
  refine ha F H σ τ _ R (dvk h fun x σ1 v F1 H1 R1 r1 h => ?_)
  refine hl F1 H1 σ1 τ _ R1 ?_
  unfold asS M.bind at h
  cases e : ml σ1 with
  | bad => rw [e] at h; exact h
  | ex x σ1 => rw [e] at h; exact h
  | ok l σ2 =>
    rw [e] at h
    intro F2 H2 R2 t2
    refine hh F2 H2 σ2 τ _ R2 ?_
    have h := OkE.later t2 h
    dsimp only at h
    cases e3 : mh σ2 with
    | bad => rw [e3] at h; exact h
    | ex x σ1 => rw [e3] at h; exact h
    | ok u σ3 =>
      rw [e3] at h
      intro F3 H3 R3 t3
      have h := OkE.later t3 h
      obtain ⟨d, ed, h⟩ := okl (o := f x l u) (v := v) h
      exact hv F3 H3 x v l u d Q R3.same (Rep.same (t2.fz.trans t3.fz) r1) ed fun z F' H' ex rz => okd h R3 ex rz
/-! ### and, or, not, if -/
def evAnd (ma mb : M D) : M D := fun σ => match ma σ with
  | .ok (.bl true) σ' => mb σ'
  | .ok (.bl false) σ' => .ok (.bl false) σ'
  | .ok _ _ => .bad
  | .ex e σ' => .ex e σ'
  | .bad => .bad
def evOr (ma mb : M D) : M D := fun σ => match ma σ with
  | .ok (.bl false) σ' => mb σ'
  | .ok (.bl true) σ' => .ok (.bl true) σ'
  | .ok _ _ => .bad
  | .ex e σ' => .ex e σ'
  | .bad => .bad
def DWV (X : Cx) (W : WX) (op : BoolOp) (es : List Expr) (pos : Pos) (m : M D) : Prop := DV X W (.BoolOp op es pos) m
theorem dv_one {op : BoolOp} {pos : Pos} (h : DV X W a ma) : DV X W (.BoolOp op [a] pos) ma := by
  obtain ⟨t, p, h⟩ := h
  exact ⟨_, pe_one p, h⟩
theorem dv_and {rest : List Expr} {pos : Pos} (ha : DV X W a ma) (hb : DV X W (.BoolOp .And (b :: rest) pos) mb) : DV X W (.BoolOp .And (a :: b :: rest) pos) (evAnd ma mb) := by
  obtain ⟨ta, pa, ha⟩ := ha
  obtain ⟨tb, pb, hb⟩ := hb
  refine ⟨_, pe_and pa pb, fun F H σ τ Q R h => ha F H σ τ _ R ?_⟩
  unfold asS evAnd at h
  unfold asS
  cases e : ma σ with
  | bad => rw [e] at h; exact h
  | ex x σ1 => rw [e] at h; exact h
  | ok x σ1 =>
    rw [e] at h
    cases x with
    | bl k =>
      cases k with
      | false => exact fun v F1 H1 R1 r1 nd t1 => ⟨false, r1, by rw [if_neg Bool.false_ne_true]; exact h (.bl false) F1 H1 R1 rfl (fun _ ⟨⟨_, z⟩, _⟩ => nomatch z) t1.noR.orR⟩
      | true => exact fun v F1 H1 R1 r1 nd t1 => ⟨true, r1, iteT (hb F1 H1 σ1 τ Q R1 (OkE.later t1.noR h))⟩
    | _ => exact False.elim h
theorem dv_or {rest : List Expr} {pos : Pos} (ha : DV X W a ma) (hb : DV X W (.BoolOp .Or (b :: rest) pos) mb) : DV X W (.BoolOp .Or (a :: b :: rest) pos) (evOr ma mb) := by
  obtain ⟨ta, pa, ha⟩ := ha
  obtain ⟨tb, pb, hb⟩ := hb
  refine ⟨_, pe_or pa pb, fun F H σ τ Q R h => ha F H σ τ _ R ?_⟩
  unfold asS evOr at h
  unfold asS
  cases e : ma σ with
  | bad => rw [e] at h; exact h
  | ex x σ1 => rw [e] at h; exact h
  | ok x σ1 =>
    rw [e] at h
    cases x with
    | bl k =>
      cases k with
      | true => exact fun v F1 H1 R1 r1 nd t1 => ⟨true, r1, by rw [if_pos rfl]; exact h (.bl true) F1 H1 R1 rfl (fun _ ⟨⟨_, z⟩, _⟩ => nomatch z) t1.noR.orR⟩
      | false => exact fun v F1 H1 R1 r1 nd t1 => ⟨false, r1, iteF (hb F1 H1 σ1 τ Q R1 (OkE.later t1.noR h))⟩
    | _ => exact False.elim h
def dNot : D → Option D
  | .bl b => some (.bl (!b))
  | _ => none
theorem dv_not {pos : Pos} (ha : DV X W a ma) : DV X W (.UnaryOp .Not a pos) (ev1 dNot ma) := by
  obtain ⟨ta, pa, ha⟩ := ha
  refine ⟨_, pe_not pa, fun F H σ τ Q R h => ?_⟩
  unfold ev1 at h
  rw [asS_bind] at h
  refine ha F H σ τ _ R (dvk h fun x σ1 v F1 H1 R1 r1 h => ?_)
  obtain ⟨d, ed, h⟩ := okl (v := v) h
  cases x with
  | bl b => cases ed; exact ⟨b, r1, okd h R1 (Ext.refl R1.same) rfl⟩
  | _ => cases ed
/-! tests -/
def tNotM (m : M Bool) : M Bool := m.bind fun b => fun σ => .ok (!b) σ
def tAndM (m n : M Bool) : M Bool := m.bind fun b => if b = true then n else fun σ => .ok false σ
def tOrM (m n : M Bool) : M Bool := m.bind fun b => if b = true then (fun σ => .ok true σ) else n
variable {na nb : M Bool}
theorem dt_not {pos : Pos} (ha : DT X W a na) : DT X W (.UnaryOp .Not a pos) (tNotM na) := by
  obtain ⟨t, p, h⟩ := ha
  refine ⟨_, pt_not p, fun F H σ τ Q R q => h F H σ τ _ R ?_⟩
  unfold tNotM M.bind at q
  cases e : na σ with
  | bad => rw [e] at q; exact q
  | ex x σ1 => rw [e] at q; exact q
  | ok b σ1 => rw [e] at q; exact q
theorem dw_and1 {pos : Pos} (h : DT X W a na) : DW X W (.BoolOp .And [a] pos) na := by
  obtain ⟨t, p, h⟩ := h
  exact ⟨_, pw_and1 p, h⟩
theorem dw_or1 {pos : Pos} (h : DT X W a na) : DW X W (.BoolOp .Or [a] pos) na := by
  obtain ⟨t, p, h⟩ := h
  exact ⟨_, pw_or1 p, h⟩
theorem dt_w (h : DW X W a na) : DT X W a na := by
  obtain ⟨t, p, h⟩ := h
  exact ⟨_, p.pt, h⟩
theorem dw_and {rest : List Expr} {pos : Pos} (ha : DT X W a na) (hb : DW X W (.BoolOp .And (b :: rest) pos) nb) : DW X W (.BoolOp .And (a :: b :: rest) pos) (tAndM na nb) := by
  obtain ⟨ta, pa, ha⟩ := ha
  obtain ⟨tb, pb, hb⟩ := hb
  refine ⟨_, pw_and pa pb, fun F H σ τ Q R q => ha F H σ τ _ R ?_⟩
  unfold tAndM M.bind at q
  cases e : na σ with
  | bad => rw [e] at q; exact q
  | ex x σ1 => rw [e] at q; exact q
  | ok b σ1 =>
    rw [e] at q
    cases b with
    | false => exact fun F1 H1 R1 t1 => iteF (q F1 H1 R1 t1)
    | true => exact fun F1 H1 R1 t1 => iteT (hb F1 H1 σ1 τ Q R1 (OkT.later t1 q))
theorem dw_or {rest : List Expr} {pos : Pos} (ha : DT X W a na) (hb : DW X W (.BoolOp .Or (b :: rest) pos) nb) : DW X W (.BoolOp .Or (a :: b :: rest) pos) (tOrM na nb) := by
  obtain ⟨ta, pa, ha⟩ := ha
  obtain ⟨tb, pb, hb⟩ := hb
  refine ⟨_, pw_or pa pb, fun F H σ τ Q R q => ha F H σ τ _ R ?_⟩
  unfold tOrM M.bind at q
  cases e : na σ with
  | bad => rw [e] at q; exact q
  | ex x σ1 => rw [e] at q; exact q
  | ok b σ1 =>
    rw [e] at q
    cases b with
    | true => exact fun F1 H1 R1 t1 => iteT (q F1 H1 R1 t1)
    | false => exact fun F1 H1 R1 t1 => iteF (hb F1 H1 σ1 τ Q R1 (OkT.later t1 q))
def evIf {α : Type} (c : M Bool) (ma mb : M α) : M α := c.bind fun b => if b = true then ma else mb
theorem dv_if {pos : Pos} {nc : M Bool} (hc : DT X W c nc) (ha : DV X W a ma) (hb : DV X W b mb) : DV X W (.IfExp c a b pos) (evIf nc ma mb) := by
  obtain ⟨tc, pc, hc⟩ := hc
  obtain ⟨ta, pa, ha⟩ := ha
  obtain ⟨tb, pb, hb⟩ := hb
  refine ⟨_, pe_ifExp pc pa pb, fun F H σ τ Q R q => hc F H σ τ _ R ?_⟩
  unfold asS evIf M.bind at q
  cases e : nc σ with
  | bad => rw [e] at q; exact q
  | ex x σ1 => rw [e] at q; exact q
  | ok b σ1 =>
    rw [e] at q
    cases b with
    | true => exact fun F1 H1 R1 t1 => iteT (ha F1 H1 σ1 τ Q R1 (OkE.later t1 q))
    | false => exact fun F1 H1 R1 t1 => iteF (hb F1 H1 σ1 τ Q R1 (OkE.later t1 q))
/-- a op b op' c -/
def evChain (f g : D → D → Option D) (ma mb mc : M D) : M D := ma.bind fun x => mb.bind fun y => fun σ => match f x y with
  | some (.bl true) => (mc.bind fun z => lift (g y z)) σ
  | some (.bl false) => .ok (.bl false) σ
  | _ => .bad
/-- what a comparison answers: a truth value, the heap as it was -/
def VCmp (K : PySem.W.Frag) (mg : Str → Option Value) (r : R2) (f : D → D → Option D) : Prop :=
  ∀ (F H : Hp) (x y : D) (u v : V) (k : Bool) (Q : VK), Same F H → Rep K mg F x u → Rep K mg F y v → f x y = some (.bl k) → Q (.bl k) H → r u v H Q
theorem v_cmpI' {K : PySem.W.Frag} {mg : Str → Option Value} {p : Int → Int → Bool} : VCmp K mg (rI0 fun i j => .bl (p i j)) (dCmpI p) := by
  intro F H x y u v k Q s rx ry e q
  unfold dCmpI at e
  split at e
  · cases e
    cases rx; cases ry
    exact ⟨_, _, rfl, rfl, q⟩
  · cases e
/-- reads: what a part asks -/
abbrev RdV (X : Cx) (W : WX) (t : TE) (m : M D) : Prop := ∀ F H σ τ (Q : VK), Rl X.K X.mg F H σ τ → OkE X.K X.mg W σ τ F H Q (asS m σ) → t τ H Q
theorem rd_chain {r r' : R2} {f g : D → D → Option D} {ta tb tc : TE} (hv : VCmp X.K X.mg r f) (hv' : VOp2 X.K X.mg r' g) (ha : RdV X W ta ma) (hb : RdV X W tb mb) (hc : RdV X W tc mc) : RdV X W (tChain r r' ta tb tc) (evChain f g ma mb mc) := by
  intro F H σ τ Q R h
  unfold evChain at h
  rw [asS_bind] at h
  refine ha F H σ τ _ R (dvk h fun x σ1 v F1 H1 R1 r1 h => ?_)
  rw [asS_bind] at h
  refine hb F1 H1 σ1 τ _ R1 (dvkS h fun y σ2 u F2 H2 R2 r2 t12 h => ?_)
  have h2 : OkE X.K X.mg W σ2 τ F2 H2 Q (match f x y with
    | some (.bl true) => asS (mc.bind fun z => lift (g y z)) σ2
    | some (.bl false) => .ok (.d (.bl false)) σ2
    | _ => .bad) := by
    have e : (asS (fun σ => match f x y with
      | some (.bl true) => (mc.bind fun z => lift (g y z)) σ
      | some (.bl false) => .ok (.bl false) σ
      | _ => .bad) σ2) = (match f x y with
      | some (.bl true) => asS (mc.bind fun z => lift (g y z)) σ2
      | some (.bl false) => .ok (.d (.bl false)) σ2
      | _ => .bad) := by
      unfold asS
      cases f x y with
      | none => rfl
      | some d =>
        cases d with
        | bl k => cases k <;> rfl
        | _ => rfl
    rw [← e]
    exact h
  cases ef : f x y with
  | none => rw [ef] at h2; exact False.elim h2
  | some d =>
    rw [ef] at h2
    cases d with
    | bl k =>
      refine hv F2 H2 x y v u k _ R2.same (Rep.same t12 r1) r2 ef ⟨k, rfl, ?_⟩
      cases k with
      | false => exact iteF (okd h2 R2 (Ext.refl R2.same) rfl)
      | true =>
        refine iteT ?_
        rw [asS_bind] at h2
        refine hc F2 H2 σ2 τ _ R2 (dvkS h2 fun z σ3 w F3 H3 R3 r3 t23 h3 => ?_)
        obtain ⟨d, ed, h3⟩ := okl (v := w) h3
        exact hv' F3 H3 y z u w d Q R3.same (Rep.same t23 r2) r3 ed fun z F' H' ex rz => okd h3 R3 ex rz
    | _ => exact False.elim h2
theorem dv_chain {op op' : CmpOp} {r r' : R2} {f g : D → D → Option D} {pos : Pos} (ho : OpR X (compareOp op) r) (hv : VCmp X.K X.mg r f) (ho' : OpR X (compareOp op') r') (hv' : VOp2 X.K X.mg r' g)
    (ha : DV X W a ma) (hb : DV X W b mb) (hc : DV X W c mc) (hm : lastMarks [op, op'] [b, c] = false := by with_unfolding_all rfl) : DV X W (.Compare a [op, op'] [b, c] pos) (evChain f g ma mb mc) := by
  obtain ⟨ta, pa, ha⟩ := ha
  obtain ⟨tb, pb, hb⟩ := hb
  obtain ⟨tc, pc, hc⟩ := hc
  exact ⟨_, pe_chain ho ho' pa pb pc hm, rd_chain hv hv' ha hb hc⟩
theorem dt_chain {op op' : CmpOp} {r r' : R2} {f g : D → D → Option D} {pos : Pos} (ho : OpR X (compareOp op) r) (hv : VCmp X.K X.mg r f) (ho' : OpR X (compareOp op') r') (hv' : VOp2 X.K X.mg r' g)
    (ha : DV X W a ma) (hb : DV X W b mb) (hc : DV X W c mc) (hm : lastMarks [op, op'] [b, c] = false := by with_unfolding_all rfl) : DT X W (.Compare a [op, op'] [b, c] pos) (toB (evChain f g ma mb mc)) := by
  obtain ⟨ta, pa, ha⟩ := ha
  obtain ⟨tb, pb, hb⟩ := hb
  obtain ⟨tc, pc, hc⟩ := hc
  exact ⟨_, pt_chain ho ho' pa pb pc hm, fun F H σ τ Q R q => rd_chain hv hv' ha hb hc F H σ τ _ R (okT_toB q)⟩
end
end DL
namespace DL
open PySem PySem.Spec PyProof.Rows L2
section
variable {K : PySem.W.Frag} {mg : Str → Option Value} {W : WX} {L : List Nat} {σ σ1 : List Sl} {τ τ1 : List (Option V)} {F H F1 H1 : Hp}
theorem LK.refl : LK L τ τ := fun _ _ => rfl
theorem LK.trans {τ2 : List (Option V)} (a : LK L τ τ1) (b : LK L τ1 τ2) : LK L τ τ2 := fun i h => (b i h).trans (a i h)
theorem OkS.later {E : Ends} (l : LK L τ τ1) (t : Tr (Own σ τ) F H (Own σ1 τ1) F1 H1) : ∀ {r : Res Fl}, OkS K mg W L σ τ F H E r → OkS K mg W L σ1 τ1 F1 H1 E r
  | .ok .nx σ', h => fun τ' F' H' R l' t' => h τ' F' H' R (l.trans l') (t.trans t')
  | .ok .bk σ', h => fun τ' F' H' R l' t' => h τ' F' H' R (l.trans l') (t.trans t')
  | .ok .ct σ', h => fun τ' F' H' R l' t' => h τ' F' H' R (l.trans l') (t.trans t')
  | .ok (.rt r) σ', h => fun v τ' F' H' R l' rp nd t' => h v τ' F' H' R (l.trans l') rp nd (t.trans t')
  | .ex e σ', h => fun cls dd τ' F' H' R l' t' er => h cls dd τ' F' H' R (l.trans l') (t.trans t') er
  | .bad, h => h
/-- a value goes into slot i -/
theorem Rl.put (R : Rl K mg F H σ τ) (i : Nat) {r : Sl} {v : V} (rs : RepS K mg F H r v) (nd : ∀ a, OwnR r v a → ¬ Own σ τ a) :
    Rl K mg F H (σ.set i r) (τ.set i (some v)) ∧ ∀ a, Own (σ.set i r) (τ.set i (some v)) a → Own σ τ a ∨ OwnR r v a := by
  refine ⟨⟨by rw [List.length_set, List.length_set]; exact R.len, R.same, fun j d e => ?_, fun j o e => ?_, fun j k o o' a e1 e2 q1 q2 => ?_⟩, fun a ⟨j, o, e, q⟩ => ?_⟩
  · rcases set_some e with ⟨rfl, z, hl⟩ | ⟨ne, e⟩
    · subst z
      exact ⟨v, get_set (by rw [← R.len]; exact hl), rs⟩
    · obtain ⟨w, e1, e2⟩ := R.val j d e
      exact ⟨w, by rw [get_set_ne ne]; exact e1, e2⟩
  · rcases set_some e with ⟨rfl, z, hl⟩ | ⟨ne, e⟩
    · subst z
      obtain ⟨a, rfl, h1, h2⟩ := rs
      exact ⟨a, get_set (by rw [← R.len]; exact hl), h1, h2⟩
    · obtain ⟨w, e1, e2⟩ := R.own j o e
      exact ⟨w, by rw [get_set_ne ne]; exact e1, e2⟩
  · rcases set_some e1 with ⟨z1, z, hl⟩ | ⟨ne1, f1⟩
    · rcases set_some e2 with ⟨z2, _, _⟩ | ⟨ne2, f2⟩
      · rw [z1, z2]
      · rw [z1, get_set (by rw [← R.len]; exact hl)] at q1
        rw [get_set_ne ne2] at q2
        exact absurd ⟨k, o', f2, q2⟩ (nd a ⟨⟨o, z.symm⟩, by cases q1; rfl⟩)
    · rcases set_some e2 with ⟨z2, z, hl⟩ | ⟨ne2, f2⟩
      · rw [z2, get_set (by rw [← R.len]; exact hl)] at q2
        rw [get_set_ne ne1] at q1
        exact absurd ⟨j, o, f1, q1⟩ (nd a ⟨⟨o', z.symm⟩, by cases q2; rfl⟩)
      · rw [get_set_ne ne1] at q1
        rw [get_set_ne ne2] at q2
        exact R.inj j k o o' a f1 f2 q1 q2
  · rcases set_some e with ⟨rfl, z, hl⟩ | ⟨ne, e⟩
    · rw [get_set (by rw [← R.len]; exact hl)] at q
      exact .inr ⟨⟨o, z.symm⟩, by cases q; rfl⟩
    · rw [get_set_ne ne] at q
      exact .inl ⟨j, o, e, q⟩
/-- slot i's own object becomes u, which shows o' -/
theorem Rl.write (R : Rl K mg F H σ τ) {i : Nat} {o o' : O} {a : Addr} {u : HO} (e : σ[i]? = some (.o o)) (et : τ[i]? = some (some (.ref a))) (n : F a = none) (at_ : OAt K mg F (upd H a u) o' a) :
    Rl K mg F (upd H a u) (σ.set i (.o o')) τ ∧ Tr (Own σ τ) F H (Own (σ.set i (.o o')) τ) F (upd H a u) := by
  have oa : Own σ τ a := ⟨i, o, e, et⟩
  have hi : i < σ.length := (List.getElem?_eq_some_iff.mp e).1
  have sm : Same F (upd H a u) := fun b w q => by
    rw [upd_ne (fun z => by rw [z, n] at q; cases q)]
    exact R.same b w q
  have own' : ∀ b, Own (σ.set i (.o o')) τ b → Own σ τ b := fun b ⟨j, p, q1, q2⟩ => by
    rcases set_some q1 with ⟨rfl, _, _⟩ | ⟨_, q1⟩
    · exact ⟨_, o, e, q2⟩
    · exact ⟨j, p, q1, q2⟩
  refine ⟨⟨by rw [List.length_set]; exact R.len, sm, fun j d q => ?_, fun j p q => ?_, fun j k p p' b q1 q2 t1 t2 => ?_⟩, ⟨Same.refl _, fun b w q nb => ?_, fun b q => .inl q, fun b q => ?_, fun b q => .inl (own' b q)⟩⟩
  · rcases set_some q with ⟨_, z, _⟩ | ⟨_, q⟩
    · cases z
    · exact R.val j d q
  · rcases set_some q with ⟨rfl, z, _⟩ | ⟨ne, q⟩
    · cases z
      exact ⟨a, et, at_, n⟩
    · obtain ⟨b, t1, t2, t3⟩ := R.own j p q
      refine ⟨b, t1, t2.same (Same.refl _) fun w hw => ?_, t3⟩
      rw [upd_ne (fun z => ne (R.inj j i p o b q e t1 (by rw [z]; exact et)))]
      exact hw
  · rcases set_some q1 with ⟨z1, _, _⟩ | ⟨n1, f1⟩
    · rcases set_some q2 with ⟨z2, _, _⟩ | ⟨_, f2⟩
      · rw [z1, z2]
      · rw [z1] at t1
        rw [z1]
        exact R.inj i k o p' b e f2 t1 t2
    · rcases set_some q2 with ⟨z2, _, _⟩ | ⟨_, f2⟩
      · rw [z2] at t2
        rw [z2]
        exact R.inj j i p o b f1 e t1 t2
      · exact R.inj j k p p' b f1 f2 t1 t2
  · rw [upd_ne (fun z => nb (by rw [z]; exact oa))]; exact q
  · by_cases z : b = a
    · rw [z, upd_same]; simp
    · rw [upd_ne z]; exact q
end

/-! ### statements -/
def evSet (i : Nat) (m : M Sl) : M Fl := m.bind fun r => fun σ => .ok .nx (σ.set i r)
def evDrop (m : M Sl) : M Fl := m.bind fun _ => fun σ => .ok .nx σ
def evRet (m : M Sl) : M Fl := m.bind fun r => fun σ => .ok (.rt r) σ
def evPass : M Fl := fun σ => .ok .nx σ
def evSeq (m n : M Fl) : M Fl := m.bind fun f => match f with
  | .nx => n
  | f => fun σ => .ok f σ
section
variable {X : Cx} {W : WX} {L : List Nat} {e c : Expr} {m : M Sl} {pos : Pos} {st : Stmt} {sts as_ bs : List Stmt} {ms ns : M Fl}
/-- a value, then a statement's end -/
theorem dsk {K : PySem.W.Frag} {mg : Str → Option Value} {σ : List Sl} {τ : List (Option V)} {F H : Hp} {E : Ends} {f : Sl → M Fl} {Q1 : VK} (h : OkS K mg W L σ τ F H E (M.bind m f σ))
    (k : ∀ r σ1 v F1 H1, Rl K mg F1 H1 σ1 τ → RepS K mg F1 H1 r v → (∀ a, OwnR r v a → ¬ Own σ1 τ a) → Tr (Own σ τ) F H (fun a => Own σ1 τ a ∨ OwnR r v a) F1 H1 → OkS K mg W L σ τ F H E (f r σ1) → Q1 v H1) : OkE K mg W σ τ F H Q1 (m σ) := by
  unfold M.bind at h
  cases e : m σ with
  | ok r σ1 => rw [e] at h; exact fun v F1 H1 R1 rp nd t1 => k r σ1 v F1 H1 R1 rp nd t1 h
  | ex x σ1 => rw [e] at h; exact fun cls dd F' H' R t er => h cls dd τ F' H' R LK.refl t er
  | bad => rw [e] at h; exact h
theorem ds_set (i : Nat) {x : Str} {pos' : Pos} (hN : X.N.Nodup) (hi : X.N[i]? = some x) (hx : Loc X.env.scope x) (hl : L.contains i = false) (he : DO X W e m) (hs : swapsWith e (some (.Name x pos')) pos.line X.env = pure false := by rfl)
    (hf : X.fn x = true ∨ X.env.scope.names.lookup x = some .local := by first | exact .inl rfl | exact .inr rfl | assumption) : DS X W L (.Assign [.Name x pos'] e pos) (evSet i m) := by
  obtain ⟨t, p, he⟩ := he
  refine ⟨_, ps_set hN hi hx p hs hf, fun F H σ τ E R h => he F H σ τ _ R (dsk h fun r σ1 v F1 H1 R1 rp nd t1 h => ?_)⟩
  obtain ⟨R2, o2⟩ := R1.put i rp nd
  refine h (τ.set i (some v)) F1 H1 R2 (fun j hj => ?_) (t1.weak o2)
  refine get_set_ne fun z => ?_
  subst z
  have : L.contains j = true := List.contains_iff_mem.mpr hj
  rw [hl] at this; cases this
theorem ds_expr (he : DO X W e m) (hs : swapsWith e none pos.line X.env = pure false := by rfl) : DS X W L (.Expr e pos) (evDrop m) := by
  obtain ⟨t, p, he⟩ := he
  exact ⟨_, ps_expr p hs, fun F H σ τ E R h => he F H σ τ _ R (dsk h fun r σ1 v F1 H1 R1 rp nd t1 h => h τ F1 H1 R1 LK.refl (t1.weak fun _ q => .inl q))⟩
theorem ds_ret (he : DO X W e m) : DS X W L (.Return (some e) pos) (evRet m) := by
  obtain ⟨t, p, he⟩ := he
  exact ⟨_, ps_ret p, fun F H σ τ E R h => he F H σ τ _ R (dsk h fun r σ1 v F1 H1 R1 rp nd t1 h => h v τ F1 H1 R1 LK.refl rp nd t1)⟩
theorem ds_pass : DS X W L (.Pass pos) evPass := ⟨_, ps_pass, fun F H σ τ E R h => h τ F H R LK.refl Tr.refl⟩
def evCt : M Fl := fun σ => .ok .ct σ
theorem ds_continue : DS X W L (.Continue pos) evCt := ⟨_, ps_continue, fun F H σ τ E R h => h τ F H R LK.refl Tr.refl⟩
theorem dss_nil : DSs X W L [] evPass := ⟨_, pss_nil, fun F H σ τ E R h => h τ F H R LK.refl Tr.refl⟩
theorem dss_one (h : DS X W L st ms) : DSs X W L [st] ms := by
  obtain ⟨t, p, h⟩ := h
  exact ⟨_, pss_one p, h⟩
theorem dss_cons (h : DS X W L st ms) (hr : DSs X W L sts ns) : DSs X W L (st :: sts) (evSeq ms ns) := by
  obtain ⟨t, p, h⟩ := h
  obtain ⟨u, q, hr⟩ := hr
  refine ⟨_, pss_cons p q, fun F H σ τ E R h' => h F H σ τ _ R ?_⟩
  unfold evSeq M.bind at h'
  cases e : ms σ with
  | bad => rw [e] at h'; exact h'
  | ex x σ1 => rw [e] at h'; exact h'
  | ok f σ1 =>
    rw [e] at h'
    cases f with
    | nx => exact fun τ' F' H' R' l t => hr F' H' σ1 τ' E R' (OkS.later l t h')
    | rt r => exact h'
    | bk => exact h'
    | ct => exact h'
theorem ds_if {nc : M Bool} (hc : DT X W c nc) (ha : DSs X W L as_ ms) (hb : DSs X W L bs ns) : DS X W L (.If c as_ bs pos) (evIf nc ms ns) := by
  obtain ⟨tc, pc, hc⟩ := hc
  obtain ⟨ta, pa, ha⟩ := ha
  obtain ⟨tb, pb, hb⟩ := hb
  refine ⟨_, ps_if pc pa pb, fun F H σ τ E R q => hc F H σ τ _ R ?_⟩
  unfold evIf M.bind at q
  cases e : nc σ with
  | bad => rw [e] at q; exact q
  | ex x σ1 => rw [e] at q; exact fun cls dd F' H' R t er => q cls dd τ F' H' R LK.refl t er
  | ok b σ1 =>
    rw [e] at q
    cases b with
    | true => exact fun F1 H1 R1 t1 => iteT (ha F1 H1 σ1 τ E R1 (OkS.later LK.refl t1 q))
    | false => exact fun F1 H1 R1 t1 => iteF (hb F1 H1 σ1 τ E R1 (OkS.later LK.refl t1 q))
/-- raise C() -/
def evRaise (c : Str) : M Fl := fun σ => .ex ⟨c, [], []⟩ σ
theorem ds_raise {C : Addr} {x : Str} (hc : X.calm = true) (tk : Takes X W) (he : PMk X e (fun _ H Q => Q (.ref C) none H)) (gC : X.mg x = some (.ref C)) : DS X W L (.Raise (some e) none pos) (evRaise x) :=
  ⟨_, ps_raise hc tk he, fun F H σ τ E R h => h (.ref C) none τ F H R LK.refl Tr.refl ⟨C, [], rfl, gC, rfl, by simp [RepL], .inl ⟨rfl, rfl⟩⟩⟩
/-- C() of an own exception class without own __init__ -/
theorem pmk_own0 {C : Addr} {bmB : List Value} {B newId initId : String} {x : Str} {p pos : Pos} (F : ExcBaseFacts B newId initId bmB) (q : PySem.W.excIn X.K C bmB newId = true) (gC : X.mg x = some (.ref C)) (kC : PySem.W.keepIn X.K (.ref C) = true) (r : Raises X (.ref C)) (hg : Gl X x)
    (hdb : (x == ("__debug__" : Str)) = false := by decide +kernel) : PMk X (.Call (.Name x p) [] [] pos) (fun _ H Q => Q (.ref C) none H) := by
  intro pins s σ H Q I h
  refine wpAny_Call_Name_kw (ld_glob I hg gC ?_ hdb)
  refine PySem.W.callWith_K0 I.kIn kC ?_
  show wpAny _ _ (call (.ref C) []) _ _ _
  obtain ⟨bm, N, nm, qn, bs, hdct, sn, sub, ab, col, dd, k0, k1, k2, k3, k5, mN, hC, hN, hni, T⟩ := exc_obj I.kIn q
  refine wpAny_call_exc_subT F T hC hN hni (fun h' e hm => ?_) (by show 0 ≤ sizeLine; exact Nat.zero_le _)
  exact mk_of I hm r h (I.hok.gone hm.new)
end

/-! ### the promise of a def -/
def spD (K : PySem.W.Frag) (mg : Str → Option Value) (f : List Sl → Res Sl) : Sp := fun vs H Q E =>
  ∃ F ps, Rl K mg F H ps (vs.map some) ∧ OkE K mg (fun c d _ H => E c d H) ps (vs.map some) F H Q (f ps)
def fin (L : List Nat) : Nat → List Sl → List Sl → List Sl
  | _, [], _ => []
  | i, p :: ps, [] => (if L.contains i then .un else p) :: fin L (i + 1) ps []
  | i, p :: ps, s :: σ => (if L.contains i then s else p) :: fin L (i + 1) ps σ
def noO : Sl → Bool
  | .o _ => false
  | _ => true
def okPs (L : List Nat) : Nat → List Sl → Bool
  | _, [] => true
  | i, p :: ps => (L.contains i || noO p) && okPs L (i + 1) ps
def semOf (np n : Nat) (L : List Nat) (m : M Fl) (ps : List Sl) : Res Sl := if (Nat.beq ps.length np && okPs L 0 ps) = true then match m (ps ++ List.replicate (n - ps.length) .un) with
  | .ok .nx σ' => .ok (.d .non) (fin L 0 ps σ')
  | .ok (.rt r) σ' => .ok r (fin L 0 ps σ')
  | .ex e σ' => .ex e (fin L 0 ps σ')
  | _ => .bad else .bad
theorem fin_length {L : List Nat} : ∀ {i : Nat} {ps σ : List Sl}, (fin L i ps σ).length = ps.length
  | _, [], _ => rfl
  | i, p :: ps, [] => by unfold fin; rw [List.length_cons, List.length_cons, fin_length]
  | i, p :: ps, s :: σ => by unfold fin; rw [List.length_cons, List.length_cons, fin_length]
theorem fin_get {L : List Nat} : ∀ {i j : Nat} {ps σ : List Sl} {s : Sl}, s ≠ .un → (fin L i ps σ)[j]? = some s → (L.contains (i + j) = true ∧ σ[j]? = some s) ∨ (L.contains (i + j) = false ∧ ps[j]? = some s)
  | _, _, [], _, _, _, h => by simp [fin] at h
  | i, j, p :: ps, [], s, hs, h => by
    unfold fin at h
    cases j with
    | zero =>
      simp only [List.getElem?_cons_zero, Option.some.injEq] at h
      cases e : L.contains i with
      | true => rw [e] at h; exact absurd (by simpa using h.symm) hs
      | false => rw [e] at h; exact .inr ⟨by simpa using e, by simpa using h⟩
    | succ j =>
      simp only [List.getElem?_cons_succ] at h ⊢
      have := fin_get (i := i + 1) (j := j) hs h
      rw [show i + 1 + j = i + (j + 1) by omega] at this
      simpa using this
  | i, j, p :: ps, q :: σ, s, hs, h => by
    unfold fin at h
    cases j with
    | zero =>
      simp only [List.getElem?_cons_zero, Option.some.injEq] at h
      cases e : L.contains i with
      | true => rw [e] at h; exact .inl ⟨by simpa using e, by simpa using h⟩
      | false => rw [e] at h; exact .inr ⟨by simpa using e, by simpa using h⟩
    | succ j =>
      simp only [List.getElem?_cons_succ] at h ⊢
      have := fin_get (i := i + 1) (j := j) hs h
      rw [show i + 1 + j = i + (j + 1) by omega] at this
      exact this
theorem okPs_get {L : List Nat} : ∀ {i j : Nat} {ps : List Sl} {s : Sl}, okPs L i ps = true → ps[j]? = some s → L.contains (i + j) = false → noO s = true
  | _, _, [], _, _, h, _ => by simp at h
  | i, j, p :: ps, s, hk, h, hn => by
    unfold okPs at hk
    rw [Bool.and_eq_true] at hk
    cases j with
    | zero =>
      simp only [List.getElem?_cons_zero, Option.some.injEq] at h
      subst h
      have h1 := hk.1
      rw [show L.contains i = false from hn, Bool.false_or] at h1
      exact h1
    | succ j => exact okPs_get (i := i + 1) (j := j) hk.2 (by simpa using h) (by rw [show i + 1 + j = i + (j + 1) by omega]; exact hn)
section
variable {K : PySem.W.Frag} {mg : Str → Option Value}
theorem app_get {α : Type} {l m : List α} {i : Nat} {x : α} (h : (l ++ m)[i]? = some x) : l[i]? = some x ∨ x ∈ m := by
  by_cases hi : i < l.length
  · rw [List.getElem?_append_left hi] at h; exact .inl h
  · rw [List.getElem?_append_right (by omega)] at h; exact .inr (List.mem_of_getElem? h)
theorem Rl.open_ {F H : Hp} {ps : List Sl} {vs : List V} (R : Rl K mg F H ps (vs.map some)) (n : Nat) :
    Rl K mg F H (ps ++ List.replicate (n - ps.length) .un) (vs.map some ++ List.replicate (n - vs.length) none) ∧ ∀ a, Own (ps ++ List.replicate (n - ps.length) .un) (vs.map some ++ List.replicate (n - vs.length) none) a ↔ Own ps (vs.map some) a := by
  have hl : ps.length = vs.length := by rw [R.len, List.length_map]
  have up : ∀ {i : Nat} {s : Sl}, (ps ++ List.replicate (n - ps.length) .un)[i]? = some s → s ≠ .un → ps[i]? = some s := fun {i s} h ne => by
    rcases app_get h with h | h
    · exact h
    · exact absurd (List.eq_of_mem_replicate h) ne
  have tv : ∀ {i : Nat}, i < ps.length → (vs.map some ++ List.replicate (n - vs.length) none)[i]? = (vs.map some)[i]? := fun {i} h => List.getElem?_append_left (by rw [List.length_map, ← hl]; exact h)
  have lt : ∀ {i : Nat} {s : Sl}, ps[i]? = some s → i < ps.length := fun h => (List.getElem?_eq_some_iff.mp h).1
  refine ⟨⟨by rw [List.length_append, List.length_append, List.length_replicate, List.length_replicate, List.length_map, hl], R.same, fun i d e => ?_, fun i o e => ?_, fun i j o o' a e1 e2 t1 t2 => ?_⟩, fun a => ⟨fun ⟨i, o, e, t⟩ => ?_, fun ⟨i, o, e, t⟩ => ?_⟩⟩
  · have e := up e (by simp)
    rw [tv (lt e)]
    exact R.val i d e
  · have e := up e (by simp)
    rw [tv (lt e)]
    exact R.own i o e
  · have e1 := up e1 (by simp)
    have e2 := up e2 (by simp)
    rw [tv (lt e1)] at t1
    rw [tv (lt e2)] at t2
    exact R.inj i j o o' a e1 e2 t1 t2
  · have e := up e (by simp)
    rw [tv (lt e)] at t
    exact ⟨i, o, e, t⟩
  · exact ⟨i, o, by rw [List.getElem?_append_left (lt e)]; exact e, by rw [tv (lt e)]; exact t⟩
/-- the parameters behind the body -/
theorem Rl.close {L : List Nat} {F H F' H' : Hp} {ps σ' : List Sl} {vs : List V} {n : Nat} {τ' : List (Option V)} (R : Rl K mg F H ps (vs.map some)) (fz : Same F F') (ok : okPs L 0 ps = true) (R' : Rl K mg F' H' σ' τ')
    (l : LK L (vs.map some ++ List.replicate (n - vs.length) none) τ') :
    Rl K mg F' H' (fin L 0 ps σ') (vs.map some) ∧ ∀ a, Own (fin L 0 ps σ') (vs.map some) a → Own σ' τ' a := by
  have hl : ps.length = vs.length := by rw [R.len, List.length_map]
  have lt : ∀ {i : Nat} {s : Sl}, (fin L 0 ps σ')[i]? = some s → i < ps.length := fun {i s} h => by
    have := (List.getElem?_eq_some_iff.mp h).1
    rw [fin_length] at this
    exact this
  have tv : ∀ {i : Nat}, i < ps.length → (vs.map some ++ List.replicate (n - vs.length) none)[i]? = (vs.map some)[i]? := fun {i} h => List.getElem?_append_left (by rw [List.length_map, ← hl]; exact h)
  have tl : ∀ {i : Nat}, i < ps.length → L.contains i = true → τ'[i]? = (vs.map some)[i]? := fun {i} h hc => (l i (List.contains_iff_mem.mp hc)).trans (tv h)
  have ow : ∀ {i : Nat} {o : O}, (fin L 0 ps σ')[i]? = some (.o o) → L.contains i = true ∧ σ'[i]? = some (.o o) := fun {i o} e => by
    rcases fin_get (by simp) e with ⟨h1, h2⟩ | ⟨h1, h2⟩
    · exact ⟨by simpa using h1, h2⟩
    · have := okPs_get ok h2 h1
      cases this
  refine ⟨⟨by rw [fin_length]; exact R.len, R'.same, fun i d e => ?_, fun i o e => ?_, fun i j o o' a e1 e2 t1 t2 => ?_⟩, fun a ⟨i, o, e, t⟩ => ?_⟩
  · rcases fin_get (by simp) e with ⟨h1, h2⟩ | ⟨h1, h2⟩
    · rw [← tl (lt e) (by simpa using h1)]
      exact R'.val i d h2
    · obtain ⟨v, q1, q2⟩ := R.val i d h2
      exact ⟨v, q1, Rep.same fz q2⟩
  · obtain ⟨h1, h2⟩ := ow e
    rw [← tl (lt e) h1]
    exact R'.own i o h2
  · obtain ⟨h1, h2⟩ := ow e1
    obtain ⟨h3, h4⟩ := ow e2
    rw [← tl (lt e1) h1] at t1
    rw [← tl (lt e2) h3] at t2
    exact R'.inj i j o o' a h2 h4 t1 t2
  · obtain ⟨h1, h2⟩ := ow e
    rw [← tl (lt e) h1] at t
    exact ⟨i, o, h2, t⟩
end
section
variable {P : Program} {w : World} {K : PySem.W.Frag} {mg : Str → Option Value} {base : Heap}
/-- THE RULE for a def -/
theorem fn_ok {x qual : Str} {params : Arguments} {body : List Stmt} {scope : Scope} {dvs : List V} {kws : List (Str × V)} {f : Addr} {fd : FuncData} {N ps : List Str} {k : Nat} (F : FunD K x qual params body scope dvs kws f fd) (S : FnScope N ps scope) (L : List Nat) (m : M Fl)
    (hb : ∀ (cdv : Value) (A : Around) (outer : List Env) (s : Shared) (H : Hp) (E : XK), Room k (A.deeper (envOfC qual scope s.heap.objs.size f cdv)) →
      DSs (cxOf (L2.CX P w) P w K mg base N qual scope f cdv A outer s H E) (fun cls d _ H => E cls d H) L body m) : FnOk P w K mg base (L2.CX P w) (k + 1) f fd ps (spD K mg (semOf ps.length N.length L m)) := by
  refine F.ok S (fun vs H Q E h => ?_) fun cdv A outer s H vs Q E hr h => ?_
  · obtain ⟨F0, ps0, R, q⟩ := h
    have hl0 : ps0.length = vs.length := by rw [R.len, List.length_map]
    unfold semOf at q
    by_cases ok : (Nat.beq ps0.length ps.length && okPs L 0 ps0) = true
    · rw [← hl0]
      exact Nat.eq_of_beq_eq_true (Bool.and_eq_true_iff.mp ok).1
    · rw [if_neg ok] at q
      exact False.elim q
  obtain ⟨t, p, ht⟩ := hb cdv A outer s H E hr
  refine ⟨t, p, ?_⟩
  obtain ⟨F0, ps0, R, q⟩ := h
  have hl0 : ps0.length = vs.length := by rw [R.len, List.length_map]
  obtain ⟨R1, o1⟩ := R.open_ N.length
  have st : start N vs = vs.map some ++ List.replicate (N.length - vs.length) none := rfl
  rw [st]
  refine ht F0 H _ _ _ R1 ?_
  show OkS K mg _ L _ _ F0 H _ _
  unfold semOf at q
  by_cases ok : (Nat.beq ps0.length ps.length && okPs L 0 ps0) = true
  · rw [if_pos ok] at q
    have ok := (Bool.and_eq_true_iff.mp ok).2
    have tr : ∀ {A A' : Addr → Prop} {F' H' : Hp}, Tr (Own (ps0 ++ List.replicate (N.length - ps0.length) .un) (vs.map some ++ List.replicate (N.length - vs.length) none)) F0 H A F' H' → (∀ a, A' a → A a) → Tr (Own ps0 (vs.map some)) F0 H A' F' H' := fun {A A' F' H'} t h =>
      ⟨t.fz, fun b o e n => t.keep b o e fun z => n ((o1 b).mp z), fun b e => (t.new b e).elim .inl fun z => z.elim (fun z => .inr (.inl z)) fun z => .inr (.inr ((o1 b).mp z)), t.dom, fun b e => (t.sub b (h b e)).elim (fun z => .inl ((o1 b).mp z)) .inr⟩
    cases e : m (ps0 ++ List.replicate (N.length - ps0.length) .un) with
    | bad => rw [e] at q; exact q
    | ex x σ' =>
      rw [e] at q
      intro cls dd τ' F' H' R' l t er
      obtain ⟨R2, o2⟩ := R.close t.fz ok R' l
      exact q cls dd F' H' R2 (tr t o2) er
    | ok f σ' =>
      rw [e] at q
      cases f with
      | bk => exact False.elim q
      | ct => exact False.elim q
      | nx =>
        intro τ' F' H' R' l t
        obtain ⟨R2, o2⟩ := R.close t.fz ok R' l
        exact q .non F' H' R2 rfl (fun _ ⟨⟨_, z⟩, _⟩ => nomatch z) (tr t o2).orR
      | rt r =>
        intro v τ' F' H' R' l rp nd t
        obtain ⟨R2, o2⟩ := R.close t.fz ok R' l
        exact q v F' H' R2 rp (fun a ha hb => nd a ha (o2 a hb)) (tr t fun a ha => ha.elim (fun z => .inl (o2 a z)) .inr)
  · rw [if_neg ok] at q
    exact False.elim q
end
end DL
namespace DL
open PySem PySem.Spec PyProof.Rows L2
/-! ### calls -/
section
variable {K : PySem.W.Frag} {mg : Str → Option Value} {W : WX} {σ σ1 : List Sl} {τ : List (Option V)} {F H F1 H1 : Hp} {Q : VK}
theorem Rl.ofD {ds : List D} {vs : List V} (s : Same F H) (r : RepL K mg F ds vs) : Rl K mg F H (ds.map .d) (vs.map some) := by
  refine ⟨by rw [List.length_map, List.length_map]; exact r.len, s, fun i x e => ?_, fun i o e => ?_, fun i j o o' a e1 => ?_⟩
  · rw [List.getElem?_map] at e
    obtain ⟨d, e1, e2⟩ := Option.map_eq_some_iff.mp e
    cases e2
    obtain ⟨v, h1, h2⟩ := r.get e1
    exact ⟨v, by rw [List.getElem?_map, h1]; rfl, h2⟩
  · rw [List.getElem?_map] at e
    obtain ⟨d, e1, e2⟩ := Option.map_eq_some_iff.mp e
    cases e2
  · rw [List.getElem?_map] at e1
    obtain ⟨d, _, e2⟩ := Option.map_eq_some_iff.mp e1
    cases e2
theorem noOwnD {ds : List D} {τ : List (Option V)} {a : Addr} : ¬ Own (ds.map .d) τ a := fun ⟨i, o, e, _⟩ => by
  rw [List.getElem?_map] at e
  obtain ⟨d, _, e2⟩ := Option.map_eq_some_iff.mp e
  cases e2
/-- behind a call that takes data alone -/
theorem spD_d {f : List Sl → Res Sl} {ds : List D} {vs : List V} (R : Rl K mg F H σ τ) (r : RepL K mg F ds vs) (h : OkE K mg W σ τ F H Q (match f (ds.map .d) with
    | .ok r _ => .ok r σ
    | .ex e _ => .ex e σ
    | .bad => .bad)) : spD K mg f vs H Q (fun c d H' => W c d τ H') := by
  refine ⟨F, ds.map .d, Rl.ofD R.same r, ?_⟩
  have ext : ∀ {A' : Addr → Prop} {F' H' : Hp}, Tr (Own (ds.map .d) (vs.map some)) F H A' F' H' → Same F' H' → Ext F H F' H' := fun t s =>
    ⟨t.fz, fun b o e => t.keep b o e noOwnD, s, fun b e => (t.new b e).elim .inl fun z => z.elim .inr fun z => absurd z noOwnD⟩
  cases e : f (ds.map .d) with
  | bad => rw [e] at h; exact h
  | ex x ps' =>
    rw [e] at h
    intro cls dd F' H' R' t er
    have x := ext t R'.same
    exact h cls dd F' H' (R.ext x) x.tr er
  | ok r ps' =>
    rw [e] at h
    intro v F' H' R' rp nd t
    have x := ext t R'.same
    have new : ∀ a, OwnR r v a → H a = none := fun a ha => (t.sub a (.inr ha)).elim (fun z => absurd z noOwnD) id
    refine h v F' H' (R.ext x) rp (fun a ha hb => ?_) ⟨x.fz, fun b o e _ => x.hp b o e, fun b e => (x.new b e).elim .inl fun z => .inr (.inl z), t.dom, fun b e => e.elim .inl fun z => .inr (new b z)⟩
    obtain ⟨⟨u, hu⟩, _⟩ := R.own_there hb
    rw [new a ha] at hu
    cases hu
/-- behind a call that takes slot j's own object and data -/
theorem spD_io {f : List Sl → Res Sl} {ds : List D} {vs : List V} {j : Nat} {oj : O} {v0 : V} (R : Rl K mg F H σ τ) (r : RepL K mg F ds vs) (ej : σ[j]? = some (.o oj)) (et : τ[j]? = some (some v0)) (h : OkE K mg W σ τ F H Q (match f (.o oj :: ds.map .d) with
    | .ok r (p :: _) => .ok r (σ.set j p)
    | .ex e (p :: _) => .ex e (σ.set j p)
    | _ => .bad)) : spD K mg f (v0 :: vs) H Q (fun c d H' => W c d τ H') := by
  have Rd := Rl.ofD R.same r
  have R0 : Rl K mg F H (.o oj :: ds.map .d) ((v0 :: vs).map some) := by
    refine ⟨?_, R.same, fun i x e => ?_, fun i o e => ?_, fun i k o o' a e1 e2 t1 t2 => ?_⟩
    · simp only [List.length_cons, List.length_map, r.len]
    · cases i with
      | zero =>
        simp at e
      | succ i =>
        obtain ⟨v, h1, h2⟩ := Rd.val i x (by simpa using e)
        exact ⟨v, by simpa using h1, h2⟩
    · cases i with
      | zero =>
        simp only [List.getElem?_cons_zero, Option.some.injEq, Sl.o.injEq] at e
        subst e
        obtain ⟨a, h1, h2, h3⟩ := R.own j oj ej
        rw [et] at h1
        cases h1
        exact ⟨a, rfl, h2, h3⟩
      | succ i =>
        obtain ⟨v, h1, _⟩ := Rd.own i o (by simpa using e)
        exact absurd ⟨i, o, by simpa using e, h1⟩ (noOwnD (ds := ds) (τ := vs.map some) (a := v))
    · cases i with
      | zero =>
        cases k with
        | zero => rfl
        | succ k =>
          obtain ⟨v, h1, _⟩ := Rd.own k o' (by simpa using e2)
          exact absurd ⟨k, o', by simpa using e2, h1⟩ (noOwnD (ds := ds) (τ := vs.map some) (a := v))
      | succ i =>
        obtain ⟨v, h1, _⟩ := Rd.own i o (by simpa using e1)
        exact absurd ⟨i, o, by simpa using e1, h1⟩ (noOwnD (ds := ds) (τ := vs.map some) (a := v))
  have o0 : ∀ a, Own (.o oj :: ds.map .d) ((v0 :: vs).map some) a → Own σ τ a := fun a ⟨i, o, e, t⟩ => by
    cases i with
    | zero =>
      simp only [List.map_cons, List.getElem?_cons_zero, Option.some.injEq] at t
      exact ⟨j, oj, ej, by rw [et, t]⟩
    | succ i => exact absurd ⟨i, o, by simpa using e, by simpa using t⟩ (noOwnD (ds := ds) (τ := vs.map some) (a := a))
  refine ⟨F, .o oj :: ds.map .d, R0, ?_⟩
  -- the caller's state behind it
  have back : ∀ {A' : Addr → Prop} {F' H' : Hp} {p : Sl} {ps' : List Sl}, Rl K mg F' H' (p :: ps') ((v0 :: vs).map some) → Tr (Own (.o oj :: ds.map .d) ((v0 :: vs).map some)) F H A' F' H' →
      Rl K mg F' H' (σ.set j p) τ ∧ ∀ a, Own (σ.set j p) τ a → Own σ τ a ∨ Own (p :: ps') ((v0 :: vs).map some) a := by
    intro A' F' H' p ps' R' t
    have stay : ∀ {i : Nat} {o : O} {a : Addr}, i ≠ j → σ[i]? = some (.o o) → τ[i]? = some (some (.ref a)) → ¬ Own (.o oj :: ds.map .d) ((v0 :: vs).map some) a := fun {i o a} ni e q ⟨k, o', e', q'⟩ => by
      cases k with
      | zero =>
        simp only [List.map_cons, List.getElem?_cons_zero, Option.some.injEq] at q'
        exact ni (R.inj i j o oj a e ej q (by rw [et, q']))
      | succ k => exact absurd ⟨k, o', by simpa using e', by simpa using q'⟩ (noOwnD (ds := ds) (τ := vs.map some) (a := a))
    refine ⟨⟨by rw [List.length_set]; exact R.len, R'.same, fun i x e => ?_, fun i o e => ?_, fun i k o o' a e1 e2 t1 t2 => ?_⟩, fun a ⟨i, o, e, q⟩ => ?_⟩
    · rcases set_some e with ⟨z, zz, _⟩ | ⟨ni, e⟩
      · rw [z, et]
        exact ⟨v0, rfl, by
          obtain ⟨v, h1, h2⟩ := R'.val 0 x (by rw [zz]; rfl)
          simp only [List.map_cons, List.getElem?_cons_zero, Option.some.injEq] at h1
          rw [h1]; exact h2⟩
      · obtain ⟨v, h1, h2⟩ := R.val i x e
        exact ⟨v, h1, Rep.same t.fz h2⟩
    · rcases set_some e with ⟨z, zz, _⟩ | ⟨ni, e⟩
      · rw [z, et]
        obtain ⟨a, h1, h2, h3⟩ := R'.own 0 o (by rw [zz]; rfl)
        simp only [List.map_cons, List.getElem?_cons_zero, Option.some.injEq] at h1
        exact ⟨a, by rw [h1], h2, h3⟩
      · obtain ⟨a, h1, h2, h3⟩ := R.own i o e
        have ns := stay ni e h1
        refine ⟨a, h1, h2.same t.fz fun u q => t.keep a u q ns, ?_⟩
        cases q : F' a with
        | none => rfl
        | some u =>
          rcases t.new a (by rw [q]; simp) with z | z | z
          · exact absurd h3 z
          · obtain ⟨u, hu⟩ := h2.there
            rw [z] at hu; cases hu
          · exact absurd z ns
    · rcases set_some e1 with ⟨z1, w1, _⟩ | ⟨n1, f1⟩
      · rcases set_some e2 with ⟨z2, w2, _⟩ | ⟨n2, f2⟩
        · rw [z1, z2]
        · exfalso
          have ns := stay n2 f2 t2
          rw [z1, et] at t1
          cases t1
          exact ns ⟨0, oj, rfl, rfl⟩
      · rcases set_some e2 with ⟨z2, w2, _⟩ | ⟨n2, f2⟩
        · exfalso
          have ns := stay n1 f1 t1
          rw [z2, et] at t2
          cases t2
          exact ns ⟨0, oj, rfl, rfl⟩
        · exact R.inj i k o o' a f1 f2 t1 t2
    · rcases set_some e with ⟨z, zz, _⟩ | ⟨ni, e⟩
      · rw [z, et] at q
        exact .inr ⟨0, o, by rw [zz]; rfl, by simpa using q⟩
      · exact .inl ⟨i, o, e, q⟩
  have tr : ∀ {A' A2 : Addr → Prop} {F' H' : Hp}, Tr (Own (.o oj :: ds.map .d) ((v0 :: vs).map some)) F H A' F' H' → (∀ a, A2 a → Own σ τ a ∨ A' a) → Tr (Own σ τ) F H A2 F' H' := fun t h2 =>
    ⟨t.fz, fun b o e n => t.keep b o e fun z => n (o0 b z), fun b e => (t.new b e).elim .inl fun z => z.elim (fun z => .inr (.inl z)) fun z => .inr (.inr (o0 b z)), t.dom, fun b e => (h2 b e).elim .inl fun z => (t.sub b z).elim (fun z => .inl (o0 b z)) .inr⟩
  cases e : f (.o oj :: ds.map .d) with
  | bad => rw [e] at h; exact h
  | ex x ps' =>
    rw [e] at h
    cases ps' with
    | nil => exact False.elim h
    | cons p ps' =>
      intro cls dd F' H' R' t er
      obtain ⟨R2, o2⟩ := back R' t
      exact h cls dd F' H' R2 (tr t o2) er
  | ok r ps' =>
    rw [e] at h
    cases ps' with
    | nil => exact False.elim h
    | cons p ps' =>
      intro v F' H' R' rp nd t
      obtain ⟨R2, o2⟩ := back R' t
      refine h v F' H' R2 rp (fun a ha hb => ?_) (tr t fun a ha => ha.elim (fun z => (o2 a z).elim .inl fun z => .inr (.inl z)) fun z => .inr (.inr z))
      obtain ⟨i, o, q1, q2⟩ := hb
      rcases set_some q1 with ⟨z, zz, _⟩ | ⟨ni, q1⟩
      · rw [z, et] at q2
        exact nd a ha ⟨0, o, by rw [zz]; rfl, by simpa using q2⟩
      · rcases t.sub a (.inr ha) with z | z
        · obtain ⟨k, o', q3, q4⟩ := z
          cases k with
          | zero =>
            simp only [List.map_cons, List.getElem?_cons_zero, Option.some.injEq] at q4
            exact ni (R.inj i j o oj a q1 ej q2 (by rw [et, q4]))
          | succ k => exact absurd ⟨k, o', by simpa using q3, by simpa using q4⟩ (noOwnD (ds := ds) (τ := vs.map some) (a := a))
        · obtain ⟨⟨u, hu⟩, _⟩ := R.own_there ⟨i, o, q1, q2⟩
          rw [z] at hu
          cases hu
end
/-- a call with data alone -/
def semC (f : List Sl → Res Sl) (m : M (List D)) : M Sl := m.bind fun ds => fun σ => match f (ds.map .d) with
  | .ok r _ => .ok r σ
  | .ex e _ => .ex e σ
  | .bad => .bad
/-- a call with slot j's own thing first -/
def isSet (σ : List Sl) (j : Nat) : Bool := match σ[j]? with
  | some (.o _) => true
  | some (.d _) => true
  | _ => false
theorem Rl.isSet {K : PySem.W.Frag} {mg : Str → Option Value} {F H : Hp} {σ : List Sl} {τ : List (Option V)} (R : Rl K mg F H σ τ) {j : Nat} (h : DL.isSet σ j = true) : ∃ v0, τ[j]? = some (some v0) := by
  unfold DL.isSet at h
  split at h
  · rename_i o e
    obtain ⟨a, h1, _⟩ := R.own j o e
    exact ⟨_, h1⟩
  · rename_i x e
    obtain ⟨a, h1, _⟩ := R.val j x e
    exact ⟨_, h1⟩
  · cases h
def semIO1 (f : List Sl → Res Sl) (j : Nat) (ds : List D) : M Sl := fun σ => match σ[j]? with
  | some (.o o) => (match f (.o o :: ds.map .d) with
    | .ok r (p :: _) => .ok r (σ.set j p)
    | .ex e (p :: _) => .ex e (σ.set j p)
    | _ => .bad)
  | some (.d x) => (match f ((x :: ds).map .d) with
    | .ok r _ => .ok r σ
    | .ex e _ => .ex e σ
    | .bad => .bad)
  | _ => .bad
def semIO (f : List Sl → Res Sl) (j : Nat) (m : M (List D)) : M Sl := fun σ => if isSet σ j = true then (m.bind fun ds => fun σ => semIO1 f j ds σ) σ else .bad
section
variable {X : Cx} {W : WX} {e : Expr} {es : List Expr} {ml : M (List D)} {x : Str} {p pos : Pos} {k : Nat} {f : Addr} {fd : FuncData} {ps : List Str} {sem : List Sl → Res Sl} {dds : List D} {dvs : List V} {ds : List Value}
theorem do_call (G : FnOk X.prog X.w X.K X.mg X.base (L2.CX X.prog X.w) k f fd ps (spD X.K X.mg sem)) (hr : Room k X.A) (hg : Gl X x) (hm : X.mg x = some (.ref f)) (hk : PySem.W.keepIn X.K (.ref f) = true) (hb : Binds X.K fd ps []) (tk : Takes X W)
    (ha : DA X W (e :: es) ml) (hdb : (x == ("__debug__" : Str)) = false := by decide +kernel) (he : starEach (e :: es) X.env = (false, eval e X.env) :: starEach es X.env := by rfl) (hpl : (backTo pos (starEach es X.env)).any (·.1) = false := by rfl) :
    DO X W (.Call (.Name x p) (e :: es) [] pos) (semC sem ml) := by
  obtain ⟨t, q, ha⟩ := ha
  refine ⟨_, pe_callSD G hr hg hm hk hb .nil (fun σ => passAt tk σ) q hdb he hpl, fun F H σ τ Q R h => ?_⟩
  refine ha F H σ τ _ R (dak h fun ds σ1 vs F1 H1 R1 r1 h => ?_)
  rw [List.append_nil]
  exact spD_d R1 r1 h
theorem do_call0 (G : FnOk X.prog X.w X.K X.mg X.base (L2.CX X.prog X.w) k f fd ps (spD X.K X.mg sem)) (hr : Room k X.A) (hg : Gl X x) (hm : X.mg x = some (.ref f)) (hk : PySem.W.keepIn X.K (.ref f) = true) (hb : Binds X.K fd ps []) (tk : Takes X W)
    (hdb : (x == ("__debug__" : Str)) = false := by decide +kernel) : DO X W (.Call (.Name x p) [] [] pos) (semC sem evNil) := by
  refine ⟨fun σ H Q => spD X.K X.mg sem ([] ++ []) H Q (WE W σ), ⟨fun pins s σ H Q I h => ?_⟩, fun F H σ τ Q R h => ?_⟩
  · refine wpAny_Call_Name_kw (ld_glob I hg hm ?_ hdb)
    exact PySem.W.callWith_K0 I.kIn hk (run_fnSD (us := []) (E := WE W) G hr hb .nil (passAt tk σ) I .nil h)
  · exact spD_d (ds := []) R (by simp [RepL]) h
theorem do_callIO (j : Nat) {y : Str} {py : Pos} (G : FnOk X.prog X.w X.K X.mg X.base (L2.CX X.prog X.w) k f fd ps (spD X.K X.mg sem)) (hr : Room k X.A) (hg : Gl X x) (hm : X.mg x = some (.ref f)) (hk : PySem.W.keepIn X.K (.ref f) = true) (hb : Binds X.K fd ps []) (tk : Takes X W)
    (hN : X.N[j]? = some y) (hv : Vis X.env.scope y) (ha : DA X W es ml) (hdy : (y == ("__debug__" : Str)) = false := by decide +kernel) (hcy : (y == ("__classdict__" : Str)) = false := by decide +kernel)
    (hdb : (x == ("__debug__" : Str)) = false := by decide +kernel) (he : starEach (.Name y py :: es) X.env = (false, eval (.Name y py) X.env) :: starEach es X.env := by rfl) (hpl : (backTo pos (starEach es X.env)).any (·.1) = false := by rfl) :
    DO X W (.Call (.Name x p) (.Name y py :: es) [] pos) (semIO sem j ml) := by
  obtain ⟨t, q, ha⟩ := ha
  refine ⟨_, pe_callSD G hr hg hm hk hb .nil (fun σ => passAt tk σ) (pa_cons (pe_var hN hv hdy hcy) q he) hdb he hpl, fun F H σ τ Q R h => ?_⟩
  unfold semIO at h
  by_cases hs : isSet σ j = true
  case neg => rw [if_neg hs] at h; exact False.elim h
  rw [if_pos hs] at h
  have core : ∀ v0, τ[j]? = some (some v0) → t τ H (fun xs H2 => spD X.K X.mg sem ((v0 :: xs) ++ []) H2 Q (WE W τ)) := fun v0 et => by
    refine ha F H σ τ _ R (dak h fun ds σ1 vs F1 H1 R1 r1 h => ?_)
    rw [List.append_nil]
    unfold semIO1 at h
    cases e : σ1[j]? with
    | none => rw [e] at h; exact False.elim h
    | some s =>
      rw [e] at h
      cases s with
      | un => exact False.elim h
      | o o => exact spD_io R1 r1 e et h
      | d x =>
        obtain ⟨v, h1, h2⟩ := R1.val j x e
        rw [et] at h1
        cases h1
        exact spD_d (ds := x :: ds) R1 (by simp only [RepL]; exact ⟨v0, vs, rfl, h2, r1⟩) h
  obtain ⟨v0, et⟩ := R.isSet hs
  exact ⟨v0, et, core v0 et⟩
end
end DL
namespace DL
open PySem PySem.Spec PyProof.Rows L2
/-! ### instances: fields -/
def putNs (f : Str) : List Str → List Str
  | [] => [f]
  | n :: ns => if n = f then n :: ns else n :: putNs f ns
def putVs {α : Type} (f : Str) (x : α) : List Str → List α → List α
  | [], _ => [x]
  | n :: ns, [] => if n = f then [x] else putVs f x ns []
  | n :: ns, v :: vs => if n = f then x :: vs else v :: putVs f x ns vs
theorem putF_zip (f : Str) (x : V) : ∀ (ns : List Str) (xs : List V), ns.length = xs.length → putF f x (ns.zip xs) = (putNs f ns).zip (putVs f x ns xs)
  | [], [], _ => rfl
  | [], _ :: _, h => by simp at h
  | _ :: _, [], h => by simp at h
  | n :: ns, v :: vs, h => by
    have ih := putF_zip f x ns vs (by simpa using h)
    show (if n = f then (n, x) :: ns.zip vs else (n, v) :: putF f x (ns.zip vs)) = _
    unfold putNs putVs
    by_cases e : n = f
    · rw [if_pos e, if_pos e, if_pos e]; rfl
    · rw [if_neg e, if_neg e, if_neg e, ih]; rfl
theorem put_len {α : Type} (f : Str) (x : α) : ∀ (ns : List Str) (xs : List α), ns.length = xs.length → (putNs f ns).length = (putVs f x ns xs).length
  | [], [], _ => rfl
  | [], _ :: _, h => by simp at h
  | _ :: _, [], h => by simp at h
  | n :: ns, v :: vs, h => by
    have ih := put_len f x ns vs (by simpa using h)
    unfold putNs putVs
    by_cases e : n = f
    · rw [if_pos e, if_pos e]; simpa using h
    · rw [if_neg e, if_neg e, List.length_cons, List.length_cons, ih]
theorem RepL.put {K : PySem.W.Frag} {mg : Str → Option Value} {F : Hp} {f : Str} {d : D} {x : V} (hd : Rep K mg F d x) : ∀ {ns : List Str} {ds : List D} {xs : List V}, RepL K mg F ds xs → RepL K mg F (putVs f d ns ds) (putVs f x ns xs)
  | [], ds, xs, h => by
    unfold putVs
    simp only [RepL]
    exact ⟨x, [], rfl, hd, rfl⟩
  | n :: ns, [], xs, h => by
    simp only [RepL] at h
    subst h
    unfold putVs
    by_cases e : n = f
    · rw [if_pos e, if_pos e]; simp only [RepL]; exact ⟨x, [], rfl, hd, rfl⟩
    · rw [if_neg e, if_neg e]; exact RepL.put hd (by simp [RepL])
  | n :: ns, e :: ds, xs, h => by
    simp only [RepL] at h
    obtain ⟨y, r, rfl, h1, h2⟩ := h
    unfold putVs
    by_cases q : n = f
    · rw [if_pos q, if_pos q]; simp only [RepL]; exact ⟨x, _, rfl, hd, h2⟩
    · rw [if_neg q, if_neg q]; simp only [RepL]; exact ⟨y, _, rfl, h1, RepL.put hd h2⟩
def getV {α : Type} (f : Str) : List Str → List α → Option α
  | n :: ns, v :: vs => if n = f then some v else getV f ns vs
  | _, _ => none
theorem getV_rep {K : PySem.W.Frag} {mg : Str → Option Value} {F : Hp} {f : Str} {d : D} : ∀ {ns : List Str} {ds : List D} {xs : List V}, RepL K mg F ds xs → getV f ns ds = some d → ∃ x, (ns.zip xs).lookup f = some x ∧ Rep K mg F d x
  | [], _, _, _, h => by cases h
  | n :: ns, [], xs, _, h => by cases h
  | n :: ns, e :: ds, xs, h, g => by
    simp only [RepL] at h
    obtain ⟨y, r, rfl, h1, h2⟩ := h
    unfold getV at g
    rw [List.zip_cons_cons, List.lookup_cons]
    by_cases q : n = f
    · rw [if_pos q] at g
      cases g
      rw [show (f == n) = true by rw [beq_iff_eq]; exact q.symm]
      exact ⟨y, rfl, h1⟩
    · rw [if_neg q] at g
      rw [show (f == n) = false by rw [beq_eq_false_iff_ne]; exact fun z => q z.symm]
      exact getV_rep h2 g
theorem getV_no {α : Type} {f : Str} : ∀ {ns : List Str} {xs : List α}, ns.contains f = false → (ns.zip xs).lookup f = none
  | [], _, _ => rfl
  | n :: ns, [], _ => rfl
  | n :: ns, v :: vs, h => by
    rw [List.contains_cons, Bool.or_eq_false_iff] at h
    rw [List.zip_cons_cons, List.lookup_cons, h.1]
    exact getV_no h.2
/-- the class at hand: by its name -/
structure CF (X : Cx) (c : Str) (C : Addr) : Prop where
  mg : X.mg c = some (.ref C)
  cls : Cls X.K C
/-- o.f of data -/
def dFld (c f : Str) : D → Option D
  | .ins c' ns vs => if c' = c then getV f ns vs else none
  | _ => none
section
variable {X : Cx} {W : WX} {L : List Nat} {e o : Expr} {es : List Expr} {ma : M D} {ml : M (List D)} {m : M Sl} {c f : Str} {C : Addr} {pos : Pos}
theorem dv_fld (T : CF X c C) (n : NoAttr X.K C f) (ha : DV X W o ma) (hb : attributeBase o f X.env (eval o X.env) = eval o X.env := by rfl) : DV X W (.Attribute o f pos) (ev1 (dFld c f) ma) := by
  obtain ⟨ta, pa, ha⟩ := ha
  refine ⟨_, pe_fld pa hb, fun F H σ τ Q R h => ?_⟩
  unfold ev1 at h
  rw [asS_bind] at h
  refine ha F H σ τ _ R (dvk h fun x σ1 v F1 H1 R1 r1 h1 => ?_)
  obtain ⟨d, ed, h2⟩ := okl (v := v) h1
  unfold dFld at ed
  split at ed
  · rename_i c' ns vs
    split at ed
    · rename_i hc
      subst hc
      obtain ⟨a, C', dx, xs, rfl, hm, ha, hl, r⟩ := r1
      rw [T.mg] at hm
      cases hm
      obtain ⟨y, g, ry⟩ := getV_rep r ed
      exact ⟨a, C, dx, _, y, rfl, R1.same _ _ ha, T.cls, n, g, okd h2 R1 (Ext.refl R1.same) ry⟩
    · cases ed
  · cases ed
/-- the same of slot j's own instance, or of its data -/
def evFldP (c f : Str) (j : Nat) : M D := fun σ => match σ[j]? with
  | some (.d x) => lift (dFld c f x) σ
  | some (.o o) => lift (dFld c f o.frz) σ
  | _ => .bad
theorem dv_fldP (j : Nat) {x : Str} {px : Pos} (T : CF X c C) (n : NoAttr X.K C f) (hN : X.N[j]? = some x) (hv : Vis X.env.scope x) (hd : (x == ("__debug__" : Str)) = false := by decide +kernel) (hcd : (x == ("__classdict__" : Str)) = false := by decide +kernel)
    (hb : attributeBase (.Name x px) f X.env (eval (.Name x px) X.env) = eval (.Name x px) X.env := by rfl) : DV X W (.Attribute (.Name x px) f pos) (evFldP c f j) := by
  refine ⟨_, pe_fld (pe_var hN hv hd hcd) hb, fun F H σ τ Q R h => ?_⟩
  unfold asS evFldP at h
  cases e : σ[j]? with
  | none => rw [e] at h; exact False.elim h
  | some s =>
    rw [e] at h
    cases s with
    | un => exact False.elim h
    | d x =>
      obtain ⟨v, h1, r1⟩ := R.val j x e
      refine ⟨v, h1, ?_⟩
      obtain ⟨d, ed, h2⟩ := okl (o := dFld c f x) (v := v) h
      unfold dFld at ed
      split at ed
      · rename_i c' ns vs
        split at ed
        · rename_i hc
          subst hc
          obtain ⟨a, C', dx, xs, rfl, hm, ha, hl, r⟩ := r1
          rw [T.mg] at hm
          cases hm
          obtain ⟨y, g, ry⟩ := getV_rep r ed
          exact ⟨a, C, dx, _, y, rfl, R.same _ _ ha, T.cls, n, g, okd h2 R (Ext.refl R.same) ry⟩
        · cases ed
      · cases ed
    | o oo =>
      obtain ⟨a, h1, at_, fn⟩ := R.own j oo e
      refine ⟨_, h1, ?_⟩
      obtain ⟨d, ed, h2⟩ := okl (o := dFld c f oo.frz) (v := .ref a) h
      cases oo with
      | ins c' ns vs =>
        unfold dFld O.frz at ed
        dsimp only at ed
        split at ed
        · rename_i hc
          subst hc
          obtain ⟨C', dx, xs, hm, ha, hl, r⟩ := at_
          rw [T.mg] at hm
          cases hm
          obtain ⟨y, g, ry⟩ := getV_rep r ed
          exact ⟨a, C, dx, _, y, rfl, ha, T.cls, n, g, okd h2 R (Ext.refl R.same) ry⟩
        · cases ed
      | _ => cases ed
/-- slot j's own instance: a field is stored -/
def evFldS (c f : Str) (j : Nat) (m : M D) : M Fl := fun σ => if isSet σ j = true then (m.bind fun x => fun σ => match σ[j]? with
  | some (.o (.ins c' ns vs)) => if c' = c ∧ ns.length < 100 then .ok .nx (σ.set j (.o (.ins c (putNs f ns) (putVs f x ns vs)))) else .bad
  | _ => .bad) σ else .bad
theorem ds_fld (j : Nat) {x : Str} {px : Pos} (T : CF X c C) (n : NoAttr X.K C f) (hN : X.N[j]? = some x) (hv : Vis X.env.scope x) (he : DV X W e ma) (hs : swapsWith e (some (.Attribute (.Name x px) f pos)) pos.line X.env = pure false := by rfl)
    (hd : (x == ("__debug__" : Str)) = false := by decide +kernel) (hcd : (x == ("__classdict__" : Str)) = false := by decide +kernel) {pos' : Pos} (hs' : swapsWith e (some (.Attribute (.Name x px) f pos')) pos.line X.env = pure false := by rfl) :
    DS X W L (.Assign [.Attribute (.Name x px) f pos'] e pos) (evFldS c f j ma) := by
  obtain ⟨t, p, he⟩ := he
  refine ⟨_, ps_fld (pe_var hN hv hd hcd) p hs', fun F H σ τ E R h => ?_⟩
  unfold evFldS at h
  by_cases hj : isSet σ j = true
  case neg => rw [if_neg hj] at h; exact False.elim h
  rw [if_pos hj] at h
  refine he F H σ τ _ R ?_
  unfold M.bind at h
  unfold asS
  cases e1 : ma σ with
  | bad => rw [e1] at h; exact h
  | ex x σ1 => rw [e1] at h; exact fun cls dd F' H' R t er => h cls dd τ F' H' R LK.refl t er
  | ok d σ1 =>
    rw [e1] at h
    intro v F1 H1 R1 r1 _ t1
    dsimp only at h
    split at h
    · rename_i c' ns vs ej
      obtain ⟨a, h1, at_, fn⟩ := R1.own j _ ej
      split at h
      · rename_i hc
        obtain ⟨hc, hn⟩ := hc
        subst hc
        obtain ⟨C', dx, xs, hm, ha, hl, r⟩ := at_
        rw [T.mg] at hm
        cases hm
        have lz : (ns.zip xs).length < 1000 := by rw [List.length_zip, ← hl]; omega
        refine ⟨.ref a, h1, a, C, dx, _, rfl, ha, T.cls, n, lz, ?_⟩
        rw [putF_zip f v ns xs hl]
        obtain ⟨R2, t2⟩ := R1.write (o' := .ins c' (putNs f ns) (putVs f d ns vs)) (u := .ins C dx ((putNs f ns).zip (putVs f v ns xs))) ej h1 fn ⟨C, dx, _, T.mg, upd_same, put_len f v ns xs hl, RepL.put (Rep.same (Same.refl _) r1) r⟩
        exact h τ _ _ R2 LK.refl (t1.noR.trans t2)
      · exact False.elim h
    · exact False.elim h
/-! ### methods -/
/-- pe_meth at the caller's slots -/
theorem pe_methS {CX : CXT} {k : Nat} {g : Addr} {fd : FuncData} {ps : List Str} {sp : Sp} {dvs : List V} {ds : List Value} {E : St → XK} {m : Str} {apos : Pos} {ta : TE} {t : TA} {pl : Sem Bool} (he : PE X o ta) (cl : Cls X.K C) (hm : Meth X.K C m g)
    (F : FnOk X.prog X.w X.K X.mg X.base CX k g fd ps sp) (hr : Room k X.A) (hb : Binds X.K fd ps ds) (hd : Vals dvs ds) (hx : ∀ σ, PassesAt CX X σ (E σ)) (ha : PA X (e :: es) t)
    (hst : starEach (e :: es) X.env = (false, eval e X.env) :: starEach es X.env := by rfl) (hpl : (backTo pos (starEach es X.env)).any (·.1) = false := by rfl)
    (ht : eval (.Call (.Attribute o m apos) (e :: es) [] pos) X.env = (do
      let ov ← eval o X.env
      standAt apos.atName
      let (f, first) ← holding [ov] (getMethod ov m pl)
      callWith pos f first (backTo pos (starEach (e :: es) X.env)) (backToKw pos (keywordEach [] X.env))) := by rfl) :
    PE X (.Call (.Attribute o m apos) (e :: es) [] pos) (fun σ H Q => ta σ H fun x H1 => ∃ a dx fs, x = .ref a ∧ H1 a = some (.ins C dx fs) ∧ fs.lookup m = none ∧ t σ H1 fun vs H2 => sp (x :: (vs ++ dvs)) H2 Q (E σ)) := by
  refine ⟨fun pins s σ H Q I h => ?_⟩
  refine PySem.W.methodCall_KW (pl := pl) (thn (he.run pins s σ H _ I h) fun u s1 ⟨x, H1, I1, rx, a, dx, fs, ex, ea, l, q⟩ => ?_) ht
  subst ex
  obtain rfl : u = Value.ref a := rx
  refine getmeth_ok I1 ea cl hm l ?_
  refine PySem.W.callWith_K (first := [.ref a]) (h₀ := X.base) I.ok.mod.kin hm.kp (thn (ha.run pos pins s1 σ H1 _ I1 q) fun us s2 ⟨vs, H2, I2, r, q2⟩ => ⟨I2.kIn, ?_⟩) hst hpl
  exact run_fnSD (us := .ref a :: us) (vs := .ref a :: vs) F hr hb hd (hx σ) I2 (.cons rfl r) q2
theorem pe_meth0S {CX : CXT} {k : Nat} {g : Addr} {fd : FuncData} {ps : List Str} {sp : Sp} {dvs : List V} {ds : List Value} {E : St → XK} {m : Str} {apos : Pos} {ta : TE} {pl : Sem Bool} (he : PE X o ta) (cl : Cls X.K C) (hm : Meth X.K C m g)
    (F : FnOk X.prog X.w X.K X.mg X.base CX k g fd ps sp) (hr : Room k X.A) (hb : Binds X.K fd ps ds) (hd : Vals dvs ds) (hx : ∀ σ, PassesAt CX X σ (E σ))
    (ht : eval (.Call (.Attribute o m apos) [] [] pos) X.env = (do
      let ov ← eval o X.env
      standAt apos.atName
      let (f, first) ← holding [ov] (getMethod ov m pl)
      callWith pos f first (backTo pos (starEach [] X.env)) (backToKw pos (keywordEach [] X.env))) := by rfl) :
    PE X (.Call (.Attribute o m apos) [] [] pos) (fun σ H Q => ta σ H fun x H1 => ∃ a dx fs, x = .ref a ∧ H1 a = some (.ins C dx fs) ∧ fs.lookup m = none ∧ sp (x :: ([] ++ dvs)) H1 Q (E σ)) := by
  refine ⟨fun pins s σ H Q I h => ?_⟩
  refine PySem.W.methodCall_KW (pl := pl) (thn (he.run pins s σ H _ I h) fun u s1 ⟨x, H1, I1, rx, a, dx, fs, ex, ea, l, q⟩ => ?_) ht
  subst ex
  obtain rfl : u = Value.ref a := rx
  refine getmeth_ok I1 ea cl hm l ?_
  exact PySem.W.callWith_K0 (first := [.ref a]) I1.kIn hm.kp (run_fnSD (us := [.ref a]) (vs := [.ref a]) F hr hb hd (hx σ) I1 (.cons rfl .nil) q)
/-- o.m(..) of data -/
def semM (c mn : Str) (f : List Sl → Res Sl) (ma : M D) (ml : M (List D)) : M Sl := ma.bind fun x => match x with
  | .ins c' ns vs => if c' = c ∧ ns.contains mn = false then ml.bind fun ds => fun σ => (match f ((x :: ds).map .d) with
    | .ok r _ => .ok r σ
    | .ex e _ => .ex e σ
    | .bad => .bad) else M.bad
  | _ => M.bad
variable {k : Nat} {g : Addr} {fd : FuncData} {ps : List Str} {sem : List Sl → Res Sl} {mn : Str} {apos : Pos}
theorem do_meth (T : CF X c C) (hm : Meth X.K C mn g) (G : FnOk X.prog X.w X.K X.mg X.base (L2.CX X.prog X.w) k g fd ps (spD X.K X.mg sem)) (hr : Room k X.A) (hb : Binds X.K fd ps []) (tk : Takes X W) (ho : DV X W o ma) (ha : DA X W (e :: es) ml) {pl : Sem Bool}
    (hst : starEach (e :: es) X.env = (false, eval e X.env) :: starEach es X.env := by rfl) (hpl : (backTo pos (starEach es X.env)).any (·.1) = false := by rfl)
    (ht : eval (.Call (.Attribute o mn apos) (e :: es) [] pos) X.env = (do
      let ov ← eval o X.env
      standAt apos.atName
      let (f, first) ← holding [ov] (getMethod ov mn pl)
      callWith pos f first (backTo pos (starEach (e :: es) X.env)) (backToKw pos (keywordEach [] X.env))) := by rfl) : DO X W (.Call (.Attribute o mn apos) (e :: es) [] pos) (semM c mn sem ma ml) := by
  obtain ⟨to, po, ho⟩ := ho
  obtain ⟨t, p, ha⟩ := ha
  refine ⟨_, pe_methS po T.cls hm G hr hb .nil (fun σ => passAt tk σ) p hst hpl ht, fun F H σ τ Q R h => ?_⟩
  refine ho F H σ τ _ R (dvk h fun x σ1 v F1 H1 R1 r1 h2 => ?_)
  cases x with
  | ins c' ns vs =>
    dsimp only at h2
    split at h2
    · rename_i hc
      obtain ⟨hc, hn⟩ := hc
      subst hc
      obtain ⟨a, C', dx, xs, rfl, hmg, hF, hl, r⟩ := id r1
      rw [T.mg] at hmg
      cases hmg
      refine ⟨a, dx, _, rfl, R1.same _ _ hF, getV_no hn, ?_⟩
      refine ha F1 H1 σ1 τ _ R1 ?_
      unfold M.bind at h2
      cases e1 : ml σ1 with
      | bad => rw [e1] at h2; exact h2
      | ex x σ1 => rw [e1] at h2; exact h2
      | ok ds σ2 =>
        rw [e1] at h2
        intro us F2 H2 R2 r2 t2
        rw [List.append_nil]
        exact spD_d (ds := .ins c' ns vs :: ds) R2 (by simp only [RepL]; exact ⟨_, _, rfl, Rep.same t2.fz r1, r2⟩) (OkE.later t2 h2)
    · exact False.elim h2
  | _ => exact False.elim h2
theorem do_meth0 (T : CF X c C) (hm : Meth X.K C mn g) (G : FnOk X.prog X.w X.K X.mg X.base (L2.CX X.prog X.w) k g fd ps (spD X.K X.mg sem)) (hr : Room k X.A) (hb : Binds X.K fd ps []) (tk : Takes X W) (ho : DV X W o ma) {pl : Sem Bool}
    (ht : eval (.Call (.Attribute o mn apos) [] [] pos) X.env = (do
      let ov ← eval o X.env
      standAt apos.atName
      let (f, first) ← holding [ov] (getMethod ov mn pl)
      callWith pos f first (backTo pos (starEach [] X.env)) (backToKw pos (keywordEach [] X.env))) := by rfl) : DO X W (.Call (.Attribute o mn apos) [] [] pos) (semM c mn sem ma evNil) := by
  obtain ⟨to, po, ho⟩ := ho
  refine ⟨_, pe_meth0S po T.cls hm G hr hb .nil (fun σ => passAt tk σ) ht, fun F H σ τ Q R h => ?_⟩
  refine ho F H σ τ _ R (dvk h fun x σ1 v F1 H1 R1 r1 h2 => ?_)
  cases x with
  | ins c' ns vs =>
    dsimp only at h2
    split at h2
    · rename_i hc
      obtain ⟨hc, hn⟩ := hc
      subst hc
      obtain ⟨a, C', dx, xs, rfl, hmg, hF, hl, r⟩ := id r1
      rw [T.mg] at hmg
      cases hmg
      refine ⟨a, dx, _, rfl, R1.same _ _ hF, getV_no hn, ?_⟩
      exact spD_d (ds := [.ins c' ns vs]) R1 (by simp only [RepL]; exact ⟨_, _, rfl, r1, rfl⟩) h2
    · exact False.elim h2
  | _ => exact False.elim h2
/-! ### a property, read -/
def semP (c : Str) (f : List Sl → Res Sl) (ma : M D) : M Sl := ma.bind fun x => match x with
  | .ins c' ns vs => if c' = c then fun σ => (match f [.d x] with
    | .ok r _ => .ok r σ
    | _ => .bad) else M.bad
  | _ => M.bad
theorem do_prop {p g : Addr} (T : CF X c C) (hp : PropOf X.K C f p g) (G : FnOk X.prog X.w X.K X.mg X.base (L2.CX X.prog X.w) k g fd ps (spD X.K X.mg sem)) (hr : Room (k + 1) X.A) (hb : Binds X.K fd ps []) (ho : DV X W o ma)
    (hab : attributeBase o f X.env (eval o X.env) = eval o X.env := by rfl) : DO X W (.Attribute o f pos) (semP c sem ma) := by
  obtain ⟨to, po, ho⟩ := ho
  refine ⟨_, pe_prop (E := E0) po T.cls hp G hr hb .nil passL hab, fun F H σ τ Q R h => ?_⟩
  refine ho F H σ τ _ R (dvk h fun x σ1 v F1 H1 R1 r1 h2 => ?_)
  cases x with
  | ins c' ns vs =>
    dsimp only at h2
    split at h2
    · rename_i hc
      subst hc
      obtain ⟨a, C', dx, xs, rfl, hmg, hF, hl, r⟩ := id r1
      rw [T.mg] at hmg
      cases hmg
      refine ⟨a, dx, _, rfl, R1.same _ _ hF, ?_⟩
      refine spD_d (W := fun _ _ _ _ => False) (ds := [.ins c' ns vs]) R1 (by simp only [RepL]; exact ⟨_, _, rfl, r1, rfl⟩) ?_
      simp only [List.map_cons, List.map_nil]
      cases e1 : sem [.d (.ins c' ns vs)] with
      | bad => rw [e1] at h2; exact h2
      | ex x σ1 => rw [e1] at h2; exact False.elim h2
      | ok r σ2 => rw [e1] at h2; exact h2
    · exact False.elim h2
  | _ => exact False.elim h2
/-! ### C(..) -/
theorem run_makeS {CX : CXT} {k : Nat} {g : Addr} {fd : FuncData} {ps : List Str} {sp : Sp} {dvs : List V} {ds : List Value} {E : XK} {pins : List (Addr × Obj)} {σ : St} {H : Hp} {s : Shared} {Q : VK} {us : List Value} {vs : List V} (Mk : L2.Mk X.K C g) (F : FnOk X.prog X.w X.K X.mg X.base CX k g fd ps sp) (hr : Room (k + 1) X.A) (hb : Binds X.K fd ps ds) (hd : Vals dvs ds)
    (hx : PassesAt CX X σ E) (I : Inv X pins σ H s) (r : Vals vs us)
    (h : ∀ x dx, H x = none → H dx = none → dx ≠ x → sp (.ref x :: (vs ++ dvs)) (upd (upd H dx (.own x)) x (.ins C dx [])) (fun v H2 => v = .non ∧ Q (.ref x) H2) E) :
    wpAny (model X.prog X.w) X.A (call (.ref C) us) (EP X pins σ Q) X.xe s := by
  have hq := h (s.heap.objs.size + 1) s.heap.objs.size (I.hok.fresh (Nat.le_succ _)) (I.hok.fresh (Nat.le_refl _)) (Nat.ne_of_lt (Nat.lt_succ_self _))
  have I2 := Inv.made (C := C) I
  have r2 : Vals (V.ref (s.heap.objs.size + 1) :: (vs ++ dvs)) (Value.ref (s.heap.objs.size + 1) :: (us ++ ds)) := .cons rfl (r.append hd)
  have hl : (Value.ref (s.heap.objs.size + 1) :: us ++ ds).length = ps.length := by
    have e := r2.length
    rw [F.len _ _ _ _ hq] at e
    exact e.symm
  refine wpAny_call (make_map (f := g) I.kIn Mk.makes Mk.init (beq_iff_eq.mp Mk.fn) (codeAny_mono (F.run _ X.stack _ _ ⟨Value.ref (s.heap.objs.size + 1) :: us, []⟩ (Value.ref (s.heap.objs.size + 1) :: (us ++ ds)) _ _ E (hr.make C us [])
    (I2.env0.make C us []) (hb _ (Value.ref (s.heap.objs.size + 1) :: us) I2.kIn hl) r2 hq) fun r s' hq' => ?_))
  cases r with
  | error e => exact hx pins _ _ e s' I2 hq'
  | ok fl =>
    cases fl with
    | ret u =>
      obtain ⟨v, H', I3, rv, ev, q3⟩ := I2.after hq'
      subst ev
      exact ⟨rv, ⟨V.ref (s.heap.objs.size + 1), H', I3, rfl, q3⟩⟩
    | next => exact False.elim hq'
    | brk => exact False.elim hq'
    | cont => exact False.elim hq'
/-- a new instance, by its __init__ -/
def semK (c : Str) (f : List Sl → Res Sl) (ml : M (List D)) : M Sl := ml.bind fun ds => fun σ => match f (.o (.ins c [] []) :: ds.map .d) with
  | .ok (.d .non) (.o p :: _) => .ok (.o p) σ
  | .ex e _ => .ex e σ
  | _ => .bad
end
theorem spD_new {K : PySem.W.Frag} {mg : Str → Option Value} {W : WX} {σ : List Sl} {τ : List (Option V)} {F H : Hp} {Q : VK} {c : Str} {C x dx : Addr} {f : List Sl → Res Sl} {ds : List D} {vs : List V} (hC : mg c = some (.ref C)) (R : Rl K mg F H σ τ) (r : RepL K mg F ds vs) (nx : H x = none) (nd : H dx = none) (ne : dx ≠ x)
    (h : OkE K mg W σ τ F H Q (match f (.o (.ins c [] []) :: ds.map .d) with
      | .ok (.d .non) (.o p :: _) => .ok (.o p) σ
      | .ex e _ => .ex e σ
      | _ => .bad)) : spD K mg f (.ref x :: vs) (upd (upd H dx (.own x)) x (.ins C dx [])) (fun v H2 => v = .non ∧ Q (.ref x) H2) (fun c d H' => W c d τ H') := by
  have fx : F x = none := Same.none R.same nx
  have s0 : Same H (upd (upd H dx (.own x)) x (.ins C dx [])) := fun b o e => by
    rw [upd_ne (ne_of_none e nx), upd_ne (ne_of_none e nd)]
    exact e
  have x0 : Ext F H F (upd (upd H dx (.own x)) x (.ins C dx [])) := ⟨Same.refl _, s0, R.same.trans s0, fun _ q => .inl q⟩
  have RD := Rl.ofD (x0.sm) r
  have R0 : Rl K mg F (upd (upd H dx (.own x)) x (.ins C dx [])) (.o (.ins c [] []) :: ds.map .d) ((V.ref x :: vs).map some) := by
    refine ⟨by simp only [List.length_cons, List.length_map, r.len], x0.sm, fun i d e => ?_, fun i o e => ?_, fun i k o o' a e1 e2 t1 t2 => ?_⟩
    · cases i with
      | zero => simp at e
      | succ i =>
        obtain ⟨v, h1, h2⟩ := RD.val i d (by simpa using e)
        exact ⟨v, by simpa using h1, h2⟩
    · cases i with
      | zero =>
        simp only [List.getElem?_cons_zero, Option.some.injEq, Sl.o.injEq] at e
        subst e
        exact ⟨x, rfl, ⟨C, dx, [], hC, upd_same, rfl, by simp [RepL]⟩, fx⟩
      | succ i =>
        obtain ⟨v, h1, _⟩ := RD.own i o (by simpa using e)
        exact absurd ⟨i, o, by simpa using e, h1⟩ (noOwnD (ds := ds) (τ := vs.map some) (a := v))
    · cases i with
      | zero =>
        cases k with
        | zero => rfl
        | succ k =>
          obtain ⟨v, h1, _⟩ := RD.own k o' (by simpa using e2)
          exact absurd ⟨k, o', by simpa using e2, h1⟩ (noOwnD (ds := ds) (τ := vs.map some) (a := v))
      | succ i =>
        obtain ⟨v, h1, _⟩ := RD.own i o (by simpa using e1)
        exact absurd ⟨i, o, by simpa using e1, h1⟩ (noOwnD (ds := ds) (τ := vs.map some) (a := v))
  have o0 : ∀ a, Own (.o (.ins c [] []) :: ds.map .d) ((V.ref x :: vs).map some) a → a = x := fun a ⟨i, o, e, t⟩ => by
    cases i with
    | zero => simpa using t.symm
    | succ i => exact absurd ⟨i, o, by simpa using e, by simpa using t⟩ (noOwnD (ds := ds) (τ := vs.map some) (a := a))
  refine ⟨F, .o (.ins c [] []) :: ds.map .d, R0, ?_⟩
  -- what the caller keeps
  have ext : ∀ {A' : Addr → Prop} {F' H' : Hp}, Tr (Own (.o (.ins c [] []) :: ds.map .d) ((V.ref x :: vs).map some)) F (upd (upd H dx (.own x)) x (.ins C dx [])) A' F' H' → Same F' H' → Ext F H F' H' := fun {A' F' H'} t s => by
    have old : ∀ {b : Addr} {P : Prop}, (upd (upd H dx (.own x)) x (.ins C dx [])) b = none → H b = none := fun {b P} q => Same.none s0 q
    refine ⟨t.fz, fun b o e => t.keep b o (s0 b o e) fun z => ?_, s, fun b e => ?_⟩
    · rw [o0 b z, nx] at e
      cases e
    · rcases t.new b e with z | z | z
      · exact .inl z
      · exact .inr (old (P := True) z)
      · rw [o0 b z]
        exact .inr nx
  cases e : f (.o (.ins c [] []) :: ds.map .d) with
  | bad => rw [e] at h; exact h
  | ex y ps' =>
    rw [e] at h
    intro cls dd F' H' R' t er
    have y := ext t R'.same
    exact h cls dd F' H' (R.ext y) y.tr er
  | ok r ps' =>
    rw [e] at h
    cases r with
    | un => exact False.elim h
    | o _ => exact False.elim h
    | d x0 =>
      cases x0 with
      | non =>
        cases ps' with
        | nil => exact False.elim h
        | cons q ps' =>
          cases q with
          | un => exact False.elim h
          | d _ => exact False.elim h
          | o p =>
              intro v F' H' R' rp nd' t
              refine ⟨rp, ?_⟩
              have y := ext t R'.same
              obtain ⟨a, h1, h2, h3⟩ := R'.own 0 p rfl
              simp only [List.map_cons, List.getElem?_cons_zero, Option.some.injEq] at h1
              cases h1
              refine h (.ref x) F' H' (R.ext y) ⟨x, rfl, h2, h3⟩ (fun a ⟨_, z⟩ q => ?_) ⟨y.fz, fun b o e _ => y.hp b o e, fun b e => (y.new b e).elim .inl fun z => .inr (.inl z), fun b q => ?_, fun b q => ?_⟩
              · cases z
                obtain ⟨⟨u, hu⟩, _⟩ := R.own_there q
                rw [nx] at hu
                cases hu
              · cases e2 : H b with
                | none => exact absurd e2 q
                | some o => rw [y.hp b o e2]; simp
              · rcases q with q | ⟨_, z⟩
                · exact .inl q
                · cases z; exact .inr nx
      | _ => exact False.elim h
section
variable {X : Cx} {W : WX} {e : Expr} {es : List Expr} {ml : M (List D)} {c : Str} {C g : Addr} {k : Nat} {fd : FuncData} {ps : List Str} {sem : List Sl → Res Sl} {p pos : Pos}
theorem do_make (hC : X.mg c = some (.ref C)) (Mk : L2.Mk X.K C g) (G : FnOk X.prog X.w X.K X.mg X.base (L2.CX X.prog X.w) k g fd ps (spD X.K X.mg sem)) (hr : Room (k + 1) X.A) (hg : Gl X c) (hb : Binds X.K fd ps []) (tk : Takes X W) (ha : DA X W (e :: es) ml)
    (hdb : (c == ("__debug__" : Str)) = false := by decide +kernel) (he : starEach (e :: es) X.env = (false, eval e X.env) :: starEach es X.env := by rfl) (hpl : (backTo pos (starEach es X.env)).any (·.1) = false := by rfl) : DO X W (.Call (.Name c p) (e :: es) [] pos) (semK c sem ml) := by
  obtain ⟨t, q, ha⟩ := ha
  refine ⟨fun σ H Q => t σ H fun vs H1 => ∀ x dx, H1 x = none → H1 dx = none → dx ≠ x → spD X.K X.mg sem (.ref x :: (vs ++ [])) (upd (upd H1 dx (.own x)) x (.ins C dx [])) (fun v H2 => v = .non ∧ Q (.ref x) H2) (WE W σ), ⟨fun pins s σ H Q I h => ?_⟩, fun F H σ τ Q R h => ?_⟩
  · refine wpAny_Call_Name_kw (ld_glob I hg hC ?_ hdb)
    refine PySem.W.callWith_K (h₀ := X.base) I.ok.mod.kin Mk.kp (thn (q.run pos pins s σ H _ I h) fun us s1 ⟨vs, H1, I1, r, q⟩ => ⟨I1.kIn, ?_⟩) he hpl
    exact run_makeS Mk G hr hb .nil (passAt tk σ) I1 r q
  · refine ha F H σ τ _ R (dak h fun ds σ1 vs F1 H1 R1 r1 h x dx nx nd ne => ?_)
    rw [List.append_nil]
    exact spD_new hC R1 r1 nx nd ne h
end
end DL
namespace DL
open PySem PySem.Spec PyProof.Rows L2
/-! ### targets -/
/-- slots outside ts are as they were -/
def Out (ts : List Nat) (τ τ' : List (Option V)) : Prop := τ'.length = τ.length ∧ ∀ i, i ∉ ts → τ'[i]? = τ[i]?
theorem Out.refl {ts : List Nat} {τ : List (Option V)} : Out ts τ τ := ⟨rfl, fun _ _ => rfl⟩
theorem Out.trans {ts : List Nat} {τ τ1 τ2 : List (Option V)} (a : Out ts τ τ1) (b : Out ts τ1 τ2) : Out ts τ τ2 := ⟨b.1.trans a.1, fun i h => (b.2 i h).trans (a.2 i h)⟩
/-- a target: the item's data goes into slots ts -/
def DG (X : Cx) (ts : List Nat) (tg : Expr) (s : D → List Sl → Option (List Sl)) : Prop := ∃ g, PG X tg g ∧ ∀ F H σ τ (d : D) (v : V) Q, Rl X.K X.mg F H σ τ → Rep X.K X.mg F d v →
  (match s d σ with
    | some σ' => ∀ τ', Rl X.K X.mg F H σ' τ' → Out ts τ τ' → (∀ a, Own σ' τ' a → Own σ τ a) → Q τ' H
    | none => False) → g v τ H Q
def DGs (X : Cx) (ts : List Nat) (tgs : List Expr) (s : List D → List Sl → Option (List Sl)) : Prop := ∃ g, PGs X tgs g ∧ ∀ F H σ τ (ds : List D) (vs : List V) Q, Rl X.K X.mg F H σ τ → RepL X.K X.mg F ds vs →
  (match s ds σ with
    | some σ' => ∀ τ', Rl X.K X.mg F H σ' τ' → Out ts τ τ' → (∀ a, Own σ' τ' a → Own σ τ a) → Q τ' H
    | none => False) → g vs τ H Q
def sgName (i : Nat) (d : D) (σ : List Sl) : Option (List Sl) := some (σ.set i (.d d))
def sgNil (ds : List D) (σ : List Sl) : Option (List Sl) := match ds with
  | [] => some σ
  | _ => none
def sgCons (s : D → List Sl → Option (List Sl)) (r : List D → List Sl → Option (List Sl)) (ds : List D) (σ : List Sl) : Option (List Sl) := match ds with
  | d :: ds => (s d σ).bind fun σ' => r ds σ'
  | [] => none
def sgTup (n : Nat) (s : List D → List Sl → Option (List Sl)) (d : D) (σ : List Sl) : Option (List Sl) := match d with
  | .tup ds => if Nat.beq ds.length n = true then s ds σ else none
  | _ => none
section
variable {X : Cx} {ts us : List Nat} {pos : Pos}
theorem dg_name (i : Nat) {x : Str} (hN : X.N.Nodup) (hi : X.N[i]? = some x) (hx : Loc X.env.scope x) (hf : X.fn x = true ∨ X.env.scope.names.lookup x = some .local := by first | exact .inl rfl | exact .inr rfl | assumption) : DG X [i] (.Name x pos) (sgName i) := by
  refine ⟨_, pg_name hN hi hx hf, fun F H σ τ d v Q R r h => ?_⟩
  obtain ⟨R2, o2⟩ := R.put i (r := .d d) (v := v) r (fun _ ⟨⟨_, z⟩, _⟩ => nomatch z)
  refine h _ R2 ⟨by rw [List.length_set], fun j hj => get_set_ne (fun z => hj (by rw [z]; exact List.mem_singleton.mpr rfl))⟩ fun a ha => (o2 a ha).elim id fun ⟨⟨_, z⟩, _⟩ => nomatch z
theorem dgs_nil : DGs X [] [] sgNil := by
  refine ⟨_, pgs_nil, fun F H σ τ ds vs Q R r h => ?_⟩
  unfold sgNil at h
  cases ds with
  | nil =>
    simp only [RepL] at r
    exact ⟨r, h τ R Out.refl fun _ q => q⟩
  | cons _ _ => exact False.elim h
theorem dgs_cons {e : Expr} {es : List Expr} {s : D → List Sl → Option (List Sl)} {r : List D → List Sl → Option (List Sl)} (h1 : DG X ts e s) (h2 : DGs X us es r)
    (hs : (assignEach (e :: es) X.env).map (·.2) = assign e X.env :: (assignEach es X.env).map (·.2) := by rfl) : DGs X (ts ++ us) (e :: es) (sgCons s r) := by
  obtain ⟨g, pg, h1⟩ := h1
  obtain ⟨u, pu, h2⟩ := h2
  refine ⟨_, pgs_cons pg pu hs, fun F H σ τ ds vs Q R rr h => ?_⟩
  unfold sgCons at h
  cases ds with
  | nil => exact False.elim h
  | cons d ds =>
    simp only [RepL] at rr
    obtain ⟨v, ws, rfl, r1, r2⟩ := rr
    refine ⟨v, ws, rfl, h1 F H σ τ d v _ R r1 ?_⟩
    dsimp only at h
    cases e1 : s d σ with
    | none => rw [e1] at h; exact False.elim h
    | some σ1 =>
      rw [e1] at h
      intro τ1 R1 o1 w1
      refine h2 F H σ1 τ1 ds ws _ R1 r2 ?_
      dsimp only [Option.bind] at h
      cases e2 : r ds σ1 with
      | none => rw [e2] at h; exact False.elim h
      | some σ2 =>
        rw [e2] at h
        exact fun τ2 R2 o2 w2 => h τ2 R2 ⟨o2.1.trans o1.1, fun i hi => (o2.2 i fun z => hi (List.mem_append_right _ z)).trans (o1.2 i fun z => hi (List.mem_append_left _ z))⟩ fun a ha => w1 a (w2 a ha)
theorem dg_tup {es : List Expr} {k : Nat} {s : List D → List Sl → Option (List Sl)} (n : Nat) (hc : X.calm = true) (h : DGs X ts es s)
    (hn : (assignEach es X.env).length = n := by rfl) (hst : (assignEach es X.env).findIdx? (·.1) = none := by rfl) : DG X ts (.Tuple es k pos) (sgTup n s) := by
  obtain ⟨g, pg, h⟩ := h
  refine ⟨_, pg_tup hc pg hn hst, fun F H σ τ d v Q R r q => ?_⟩
  unfold sgTup at q
  cases d with
  | tup ds =>
    dsimp only at q
    obtain ⟨a, xs, rfl, ha, z, rr⟩ := r
    by_cases hl : Nat.beq ds.length n = true
    · rw [if_pos hl] at q
      exact ⟨a, xs, rfl, .of (R.same _ _ ha), by rw [← rr.len]; exact Nat.eq_of_beq_eq_true hl, h F H σ τ ds xs Q R rr q⟩
    · rw [if_neg hl] at q
      exact False.elim q
  | _ => exact False.elim q
/-- targets = value -/
def evAsg (s : D → List Sl → Option (List Sl)) (m : M D) : M Fl := m.bind fun d => fun σ => match s d σ with
  | some σ' => .ok .nx σ'
  | none => .bad
theorem out_lk {L ts : List Nat} {τ τ' : List (Option V)} (o : Out ts τ τ') (h : (ts.any fun i => L.contains i) = false) : LK L τ τ' := fun i hi => o.2 i fun z => by
  have q : (ts.any fun i => L.contains i) = true := List.any_eq_true.mpr ⟨i, z, List.contains_iff_mem.mpr hi⟩
  rw [h] at q
  cases q
theorem ds_asg {W : WX} {L : List Nat} {tg e : Expr} {s : D → List Sl → Option (List Sl)} {ma : M D} (he : DV X W e ma) (hg : DG X ts tg s) (hl : (ts.any fun i => L.contains i) = false)
    (hs : swapsWithSole [tg] e pos.line X.env = pure false := by rfl) (hw : swappedStores [tg] e X.env = pure none := by rfl) (h1 : (assignEach [tg] X.env).map (·.2) = [assign tg X.env] := by rfl) : DS X W L (.Assign [tg] e pos) (evAsg s ma) := by
  obtain ⟨t, p, he⟩ := he
  obtain ⟨g, pg, hg⟩ := hg
  refine ⟨_, ps_asg p pg hs hw h1, fun F H σ τ E R h => he F H σ τ _ R ?_⟩
  unfold evAsg M.bind at h
  unfold asS
  cases e1 : ma σ with
  | bad => rw [e1] at h; exact h
  | ex x σ1 => rw [e1] at h; exact fun cls dd F' H' R t er => h cls dd τ F' H' R LK.refl t er
  | ok d σ1 =>
    rw [e1] at h
    intro v F1 H1 R1 r1 _ t1
    refine hg F1 H1 σ1 τ d v _ R1 r1 ?_
    dsimp only at h
    cases e2 : s d σ1 with
    | none => rw [e2] at h; exact h
    | some σ2 =>
      rw [e2] at h
      exact fun τ' R' o w => h τ' F1 H1 R' (out_lk o hl) (t1.noR.weak w)
/-- a, b = x, y of plain local names -/
def evPar (i j : Nat) (m : M (List D)) : M Fl := m.bind fun ds => fun σ => match ds with
  | [x, y] => .ok .nx ((σ.set i (.d x)).set j (.d y))
  | _ => .bad
theorem ds_par {W : WX} {L : List Nat} (i j : Nat) {x y : Str} {a b : Expr} {ml : M (List D)} {px py pt : Pos} {kt k2 pt2} (hc : X.calm = true) (hN : X.N.Nodup) (hi : X.N[i]? = some x) (hj : X.N[j]? = some y) (hij : i ≠ j)
    (hx : X.env.scope.names.lookup x = some .local) (hy : X.env.scope.names.lookup y = some .local) (ha : DA X W [a, b] ml) (hl : ([i, j].any fun i => L.contains i) = false)
    (hw : swappedStores [.Tuple [.Name x px, .Name y py] kt pt] (.Tuple [a, b] k2 pt2) X.env = pure (some [x, y]))
    (hs : swapsWithSole [.Tuple [.Name x px, .Name y py] kt pt] (.Tuple [a, b] k2 pt2) pos.line X.env = pure false := by rfl) :
    DS X W L (.Assign [.Tuple [.Name x px, .Name y py] kt pt] (.Tuple [a, b] k2 pt2) pos) (evPar i j ml) := by
  obtain ⟨t, p, ha⟩ := ha
  refine ⟨_, ps_par hc hN hi hj hij hx hy p hw hs, fun F H σ τ E R h => ha F H σ τ _ R ?_⟩
  unfold evPar M.bind at h
  cases e1 : ml σ with
  | bad => rw [e1] at h; exact h
  | ex x σ1 => rw [e1] at h; exact fun cls dd F' H' R t er => h cls dd τ F' H' R LK.refl t er
  | ok ds σ1 =>
    rw [e1] at h
    intro vs F1 H1 R1 r1 t1
    match ds, h, r1 with
    | [d, d'], h, r1 =>
      simp only [RepL] at r1
      obtain ⟨v, _, rfl, q1, w, _, rfl, r2, rfl⟩ := r1
      obtain ⟨R2, o2⟩ := R1.put i (r := .d d) (v := v) q1 (fun _ ⟨⟨_, z⟩, _⟩ => nomatch z)
      obtain ⟨R3, o3⟩ := R2.put j (r := .d d') (v := w) r2 (fun _ ⟨⟨_, z⟩, _⟩ => nomatch z)
      have ow : ∀ a, Own ((σ1.set i (.d d)).set j (.d d')) ((τ.set i (some v)).set j (some w)) a → Own σ1 τ a := fun a ha => (o3 a ha).elim (fun q => (o2 a q).elim id fun ⟨⟨_, z⟩, _⟩ => nomatch z) fun ⟨⟨_, z⟩, _⟩ => nomatch z
      refine ⟨v, w, rfl, h _ F1 H1 R3 (out_lk (ts := [i, j]) ⟨by rw [List.length_set, List.length_set], fun k hk => ?_⟩ hl) (t1.weak ow)⟩
      rw [get_set_ne (fun z => hk (by rw [z]; simp)), get_set_ne (fun z => hk (by rw [z]; simp))]
    | [], h, _ => exact False.elim h
    | [_], h, _ => exact False.elim h
    | _ :: _ :: _ :: _, h, _ => exact False.elim h
end
/-! ### what is walked -/
/-- a walk that gives the data ds, from F on -/
def Wk (K : PySem.W.Frag) (mg : Str → Option Value) (F : Hp) (J : It) (ds : List D) : Prop := ∃ (G : Hp → Prop) (Y : Nat → Hp → V → Hp → Prop), Walk J ds.length G Y ∧ (∀ H, Same F H → G H) ∧
  ∀ i H x H' F1, i < ds.length → Y i H x H' → Same F F1 → Same F1 H → ∃ d F2, ds[i]? = some d ∧ Ext F1 H F2 H' ∧ Rep K mg F2 d x
def OkI (K : PySem.W.Frag) (mg : Str → Option Value) (W : WX) (σ : List Sl) (τ : List (Option V)) (F H : Hp) (Q : It → Hp → Prop) : Res (List D) → Prop
  | .ok ds σ' => ∀ J F' H', Rl K mg F' H' σ' τ → Wk K mg F' J ds → Tr (Own σ τ) F H (Own σ' τ) F' H' → Q J H'
  | .ex e σ' => ∀ cls dd F' H', Rl K mg F' H' σ' τ → Tr (Own σ τ) F H (Own σ' τ) F' H' → ExRep K mg F' H' e cls dd → W cls dd τ H'
  | .bad => False
def DI (X : Cx) (W : WX) (tg it : Expr) (m : M (List D)) : Prop := ∃ wi, PI X tg it wi ∧ ∀ F H σ τ Q, Rl X.K X.mg F H σ τ → OkI X.K X.mg W σ τ F H Q (m σ) → wi τ H Q
def forL (s : D → List Sl → Option (List Sl)) (body : M Fl) : List D → M Fl
  | [] => fun σ => .ok .nx σ
  | d :: ds => fun σ => match s d σ with
    | none => .bad
    | some σ1 => match body σ1 with
      | .ok .nx σ2 => forL s body ds σ2
      | .ok .ct σ2 => forL s body ds σ2
      | .ok .bk σ2 => .ok .nx σ2
      | .ok (.rt r) σ2 => .ok (.rt r) σ2
      | .ex e σ2 => .ex e σ2
      | .bad => .bad
def evFor (s : D → List Sl → Option (List Sl)) (m : M (List D)) (body : M Fl) : M Fl := m.bind fun ds => forL s body ds
theorem ds_for {X : Cx} {W : WX} {L ts : List Nat} {tg it : Expr} {body : List Stmt} {pos : Pos} {s : D → List Sl → Option (List Sl)} {m : M (List D)} {mb : M Fl} (hp : PassesOwn (model X.prog X.w) X.A X.env X.xe) (hc : X.calm = true) (hi : DI X W tg it m) (hg : DG X ts tg s) (hb : DSs X W L body mb)
    (hl : (ts.any fun i => L.contains i) = false) (hs : ∀ x, foldedSetIterable it X.env x = pure x := by intro _; rfl) : DS X W L (.For tg it body [] pos) (evFor s m mb) := by
  obtain ⟨wi, pi, hi⟩ := hi
  obtain ⟨g, pg, hg⟩ := hg
  obtain ⟨tb, pb, hb⟩ := hb
  refine ⟨_, ps_for hp hc pi pg pb hs, fun F H σ τ E R h => hi F H σ τ _ R ?_⟩
  unfold evFor M.bind at h
  cases e1 : m σ with
  | bad => rw [e1] at h; exact h
  | ex x σ1 => rw [e1] at h; exact fun cls dd F' H' R t er => h cls dd τ F' H' R LK.refl t er
  | ok ds σ1 =>
    rw [e1] at h
    intro J F1 H1 R1 wk t1
    have h := OkS.later LK.refl t1 h
    obtain ⟨G, Y, walk, hG, hY⟩ := wk
    refine for_it walk (fun i τ H => ∃ F' σ', Same F1 F' ∧ Rl X.K X.mg F' H σ' τ ∧ OkS X.K X.mg W L σ' τ F' H E (forL s mb (ds.drop i) σ')) ⟨F1, σ1, Same.refl _, R1, h⟩ (fun i τ H _ ⟨F', σ', fz, R', _⟩ => hG H (fz.trans R'.same)) ?_ ?_
    · rintro i x τ2 H2 H3 hi ⟨F2, σ2, fz, R2, h2⟩ y
      obtain ⟨d, F3, ed, ex, rx⟩ := hY i H2 x H3 F2 hi y fz R2.same
      have R3 := R2.ext ex
      have h3 := OkS.later LK.refl ex.tr h2
      have eq : ds.drop i = d :: ds.drop (i + 1) := by
        have hlt := (List.getElem?_eq_some_iff.mp ed).1
        rw [List.drop_eq_getElem_cons hlt]
        congr 1
        exact (List.getElem?_eq_some_iff.mp ed).2
      rw [eq] at h3
      unfold forL at h3
      refine hg F3 H3 σ2 τ2 d x _ R3 rx ?_
      cases e2 : s d σ2 with
      | none => rw [e2] at h3; exact h3
      | some σ3 =>
        rw [e2] at h3
        intro τ3 R4 o4 w4
        have t4 : Tr (Own σ2 τ2) F3 H3 (Own σ3 τ3) F3 H3 := Tr.refl.weak w4
        have h4 := OkS.later (out_lk o4 hl) t4 h3
        refine hb F3 H3 σ3 τ3 _ R4 ?_
        dsimp only at h4
        cases e3 : mb σ3 with
        | bad => rw [e3] at h4; exact h4
        | ex x σ4 => rw [e3] at h4; exact h4
        | ok f σ4 =>
          rw [e3] at h4
          cases f with
          | nx => exact fun τ' F' H' R' l t => ⟨F', σ4, (fz.trans ex.fz).trans t.fz, R', OkS.later l t h4⟩
          | ct => exact fun τ' F' H' R' l t => ⟨F', σ4, (fz.trans ex.fz).trans t.fz, R', OkS.later l t h4⟩
          | bk => exact h4
          | rt r => exact h4
    · rintro τ2 H2 ⟨F2, σ2, fz, R2, h2⟩
      rw [List.drop_length] at h2
      exact h2 τ2 F2 H2 R2 LK.refl Tr.refl
/-! the walks -/
@[irreducible] def rng (lo : Int) (n : Nat) : List D := (List.range n).map fun i : Nat => .int (lo + i)
def evR1 (m : M (List D)) : M (List D) := m.bind fun ds => fun σ => match ds with
  | [.int j] => if j < 1000000 ∧ -1000000 < j then .ok (rng 0 j.toNat) σ else .bad
  | _ => .bad
def evR2 (m : M (List D)) : M (List D) := m.bind fun ds => fun σ => match ds with
  | [.int i, .int j] => if (-1000000 < i ∧ i < 1000000) ∧ (-1000000 < j ∧ j < 1000000) then .ok (rng i (j - i).toNat) σ else .bad
  | _ => .bad
section
variable {K : PySem.W.Frag} {mg : Str → Option Value} {F : Hp}
theorem rng_len {lo : Int} {n : Nat} : (rng lo n).length = n := by unfold rng; rw [List.length_map, List.length_range]
theorem wk_rng {lo : Int} {n : Nat} : Wk K mg F (Itr lo n) (rng lo n) := by
  refine ⟨fun _ => True, YFn fun i => .int (lo + i), by rw [rng_len]; exact walk_range, fun _ _ => trivial, fun i H x H' F1 hi y s1 s2 => ?_⟩
  obtain ⟨rfl, rfl⟩ := y
  rw [rng_len] at hi
  exact ⟨.int (lo + i), F1, by unfold rng; rw [List.getElem?_map, List.getElem?_range hi]; rfl, Ext.refl s2, rfl⟩
theorem wk_of {a : Addr} {ds : List D} {xs : List V} {J : It} {G : Hp → Prop} (w : Walk J xs.length G (YAt xs)) (g : ∀ H, Same F H → G H) (r : RepL K mg F ds xs) : Wk K mg F J ds := by
  refine ⟨G, YAt xs, by rw [r.len]; exact w, g, fun i H x H' F1 hi y s1 s2 => ?_⟩
  obtain ⟨rfl, ex⟩ := y
  obtain ⟨d, e1, e2⟩ := r.get' ex
  exact ⟨d, F1, e1, Ext.refl s2, Rep.same s1 e2⟩
end
section
variable {X : Cx} {W : WX} {tg e : Expr} {ma : M D} {ml : M (List D)} {p pos : Pos}
theorem dak' {K : PySem.W.Frag} {mg : Str → Option Value} {σ : List Sl} {τ : List (Option V)} {F H : Hp} {Q : It → Hp → Prop} {Q1 : List V → Hp → Prop} {f : List D → M (List D)} (h : OkI K mg W σ τ F H Q (M.bind ml f σ))
    (k : ∀ x σ1 v F1 H1, Rl K mg F1 H1 σ1 τ → RepL K mg F1 x v → Tr (Own σ τ) F H (Own σ1 τ) F1 H1 → OkI K mg W σ τ F H Q (f x σ1) → Q1 v H1) : OkA K mg W σ τ F H Q1 (ml σ) := by
  unfold M.bind at h
  cases e : ml σ with
  | ok x σ1 => rw [e] at h; exact fun v F1 H1 R1 r1 t1 => k x σ1 v F1 H1 R1 r1 t1 h
  | ex x σ1 => rw [e] at h; exact h
  | bad => rw [e] at h; exact h
theorem di_range1 {a : Expr} (hg : Gl X "range") (hm : X.mg "range" = none) (ha : DA X W [a] ml) (hs : starEach [a] X.env = [(false, eval a X.env)] := by rfl) : DI X W tg (.Call (.Name "range" p) [a] [] pos) (evR1 ml) := by
  obtain ⟨t, q, ha⟩ := ha
  refine ⟨_, pi_range1 hg hm q hs, fun F H σ τ Q R h => ha F H σ τ _ R (dak' h fun ds σ1 vs F1 H1 R1 r1 t1 h => ?_)⟩
  match ds, h, r1 with
  | [.int j], h, r1 =>
    simp only [RepL] at r1
    obtain ⟨v, _, rfl, q1, rfl⟩ := r1
    dsimp only at h
    split at h
    · exact ⟨j, by cases q1; rfl, by omega, by omega, h _ F1 H1 R1 wk_rng t1⟩
    · exact False.elim h
theorem di_range2 {a b : Expr} (hg : Gl X "range") (hm : X.mg "range" = none) (ha : DA X W [a, b] ml) (hs : starEach [a, b] X.env = [(false, eval a X.env), (false, eval b X.env)] := by rfl) (hs2 : starEach [b] X.env = [(false, eval b X.env)] := by rfl) : DI X W tg (.Call (.Name "range" p) [a, b] [] pos) (evR2 ml) := by
  obtain ⟨t, q, ha⟩ := ha
  refine ⟨_, pi_range2 hg hm q hs hs2, fun F H σ τ Q R h => ha F H σ τ _ R (dak' h fun ds σ1 vs F1 H1 R1 r1 t1 h => ?_)⟩
  match ds, h, r1 with
  | [.int i, .int j], h, r1 =>
    simp only [RepL] at r1
    obtain ⟨v, _, rfl, q1, w, _, rfl, q2, rfl⟩ := r1
    dsimp only at h
    split at h
    · exact ⟨i, j, by cases q1; cases q2; rfl, by omega, h _ F1 H1 R1 wk_rng t1⟩
    · exact False.elim h
/-- a list, a tuple, as data -/
def evIt (m : M D) : M (List D) := m.bind fun d => fun σ => match d with
  | .lst ds => .ok ds σ
  | _ => .bad
def evItT (m : M D) : M (List D) := m.bind fun d => fun σ => match d with
  | .tup ds => .ok ds σ
  | _ => .bad
theorem di_list (ha : DV X W e ma) : DI X W tg e (evIt ma) := by
  obtain ⟨t, q, ha⟩ := ha
  refine ⟨_, pi_list q, fun F H σ τ Q R h => ha F H σ τ _ R ?_⟩
  unfold evIt M.bind at h
  unfold asS
  cases e1 : ma σ with
  | bad => rw [e1] at h; exact h
  | ex x σ1 => rw [e1] at h; exact h
  | ok d σ1 =>
    rw [e1] at h
    intro v F1 H1 R1 r1 _ t1
    cases d with
    | lst ds =>
      obtain ⟨a, xs, rfl, ha, z, rr⟩ := r1
      exact ⟨a, rfl, ⟨xs, .of (R1.same _ _ ha)⟩, h _ F1 H1 R1 (wk_of (a := a) walk_list (fun H s => .of (s _ _ ha)) rr) t1.noR⟩
    | _ => exact False.elim h
theorem di_tup (ha : DV X W e ma) : DI X W tg e (evItT ma) := by
  obtain ⟨t, q, ha⟩ := ha
  refine ⟨_, pi_tup q, fun F H σ τ Q R h => ha F H σ τ _ R ?_⟩
  unfold evItT M.bind at h
  unfold asS
  cases e1 : ma σ with
  | bad => rw [e1] at h; exact h
  | ex x σ1 => rw [e1] at h; exact h
  | ok d σ1 =>
    rw [e1] at h
    intro v F1 H1 R1 r1 _ t1
    cases d with
    | tup ds =>
      obtain ⟨a, xs, rfl, ha, z, rr⟩ := r1
      exact ⟨a, rfl, ⟨xs, .of (R1.same _ _ ha)⟩, h _ F1 H1 R1 (wk_of (a := a) walk_tup (fun H s => .of (s _ _ ha)) rr) t1.noR⟩
    | _ => exact False.elim h
end
/-! ### while, by fuel -/
def whileL (c : M Bool) (body : M Fl) : Nat → M Fl
  | 0 => fun _ => .bad
  | n + 1 => fun σ => match c σ with
    | .ok false σ1 => .ok .nx σ1
    | .ok true σ1 => (match body σ1 with
      | .ok .nx σ2 => whileL c body n σ2
      | .ok .ct σ2 => whileL c body n σ2
      | .ok .bk σ2 => .ok .nx σ2
      | .ok (.rt r) σ2 => .ok (.rt r) σ2
      | .ex e σ2 => .ex e σ2
      | .bad => .bad)
    | .ex e σ1 => .ex e σ1
    | .bad => .bad
theorem ds_while {X : Cx} {W : WX} {L : List Nat} {c : Expr} {body : List Stmt} {pos : Pos} {mc : M Bool} {mb : M Fl} (n : Nat) (hp : PassesOwn (model X.prog X.w) X.A X.env X.xe) (hc : DT X W c mc) (hb : DSs X W L body mb) : DS X W L (.While c body [] pos) (whileL mc mb n) := by
  obtain ⟨tc, pc, hc⟩ := hc
  obtain ⟨tb, pb, hb⟩ := hb
  refine ⟨_, ps_while hp pc pb, fun F H σ τ E R h => ?_⟩
  refine ⟨fun m τ H => ∃ F' σ', Rl X.K X.mg F' H σ' τ ∧ OkS X.K X.mg W L σ' τ F' H E (whileL mc mb m σ'), ⟨n, F, σ, R, h⟩, ?_⟩
  rintro m τ2 H2 ⟨F2, σ2, R2, h2⟩
  refine hc F2 H2 σ2 τ2 _ R2 ?_
  cases m with
  | zero => exact False.elim h2
  | succ m =>
    unfold whileL at h2
    cases e1 : mc σ2 with
    | bad => rw [e1] at h2; exact h2
    | ex x σ1 => rw [e1] at h2; exact fun cls dd F' H' R t er => h2 cls dd τ2 F' H' R LK.refl t er
    | ok b σ3 =>
      rw [e1] at h2
      cases b with
      | false => exact fun F3 H3 R3 t3 => iteF (h2 τ2 F3 H3 R3 LK.refl t3)
      | true =>
        intro F3 H3 R3 t3
        refine iteT ⟨fun τ' H' => ∃ F' σ', Rl X.K X.mg F' H' σ' τ' ∧ OkS X.K X.mg W L σ' τ' F' H' E (whileL mc mb m σ'), fun σ' H' q => ⟨m, Nat.lt_succ_self m, q⟩, ?_⟩
        have h3 := OkS.later LK.refl t3 h2
        refine hb F3 H3 σ3 τ2 _ R3 ?_
        dsimp only at h3
        cases e3 : mb σ3 with
        | bad => rw [e3] at h3; exact h3
        | ex x σ4 => rw [e3] at h3; exact h3
        | ok f σ4 =>
          rw [e3] at h3
          cases f with
          | nx => exact fun τ' F' H' R' l t => ⟨F', σ4, R', OkS.later l t h3⟩
          | ct => exact fun τ' F' H' R' l t => ⟨F', σ4, R', OkS.later l t h3⟩
          | bk => exact h3
          | rt r => exact h3
end DL
namespace DL
open PySem PySem.Spec PyProof.Rows L2
/-! ### one reading a semantics -/
def tO (K : PySem.W.Frag) (mg : Str → Option Value) (W : WX) (m : M Sl) : TE := fun τ H Q => ∃ F σ, Rl K mg F H σ τ ∧ OkE K mg W σ τ F H Q (m σ)
theorem DO.pe {X : Cx} {W : WX} {e : Expr} {m : M Sl} (h : DO X W e m) : PE X e (tO X.K X.mg W m) := by
  obtain ⟨t, p, h⟩ := h
  exact ⟨fun pins s τ H Q I ⟨F, σ, R, q⟩ => p.run pins s τ H Q I (h F H σ τ Q R q)⟩
def tB_ (K : PySem.W.Frag) (mg : Str → Option Value) (W : WX) (m : M Bool) : TT := fun τ H Q => ∃ F σ, Rl K mg F H σ τ ∧ OkT K mg W σ τ F H Q (m σ)
theorem DT.pt {X : Cx} {W : WX} {e : Expr} {m : M Bool} (h : DT X W e m) : PT X e (tB_ X.K X.mg W m) := by
  obtain ⟨t, p, h⟩ := h
  exact ⟨fun pins s τ H Q I ⟨F, σ, R, q⟩ => p.run pins s τ H Q I (h F H σ τ Q R q)⟩
def gD (K : PySem.W.Frag) (mg : Str → Option Value) (ts : List Nat) (s : D → List Sl → Option (List Sl)) : TG := fun v τ H Q => ∃ F σ d, Rl K mg F H σ τ ∧ Rep K mg F d v ∧
  (match s d σ with
    | some σ' => ∀ τ', Rl K mg F H σ' τ' → Out ts τ τ' → (∀ a, Own σ' τ' a → Own σ τ a) → Q τ' H
    | none => False)
theorem DG.pg {X : Cx} {ts : List Nat} {e : Expr} {s : D → List Sl → Option (List Sl)} (h : DG X ts e s) : PG X e (gD X.K X.mg ts s) := by
  obtain ⟨g, p, h⟩ := h
  exact ⟨fun pins st τ H v u Q I r ⟨F, σ, d, R, rd, q⟩ => p.run pins st τ H v u Q I r (h F H σ τ d v Q R rd q)⟩
/-- a comprehension's tests -/
def DTs (X : Cx) (ifs : List Expr) (m : M Bool) : Prop := PTs X ifs (tB_ X.K X.mg (fun _ _ _ _ => False) m)
def tYesM : M Bool := fun σ => .ok true σ
theorem dts_nil {X : Cx} : DTs X [] tYesM := ⟨fun pins s τ H Q I ⟨F, σ, R, q⟩ => pts_nil.run pins s τ H Q I (q F H R Tr.refl)⟩
theorem dts_one {X : Cx} {c : Expr} {m : M Bool} (h : DT X (fun _ _ _ _ => False) c m) : DTs X [c] m := pts_one h.pt
/-! ### list comprehensions -/
def wipeS (σ : List Sl) (vs : List Nat) : List Sl := fin vs 0 σ []
def lcL (vs : List Nat) (s : D → List Sl → Option (List Sl)) (tt : M Bool) (te : M D) : List D → List D → List Sl → Option (List D × List Sl)
  | [], acc, σ => some (acc, σ)
  | d :: ds, acc, σ => match s d (wipeS σ vs) with
    | none => none
    | some σ1 => match tt σ1 with
      | .ok false σ2 => lcL vs s tt te ds acc σ2
      | .ok true σ2 => (match te σ2 with
        | .ok y σ3 => if acc.length < szMax then lcL vs s tt te ds (acc ++ [y]) σ3 else none
        | _ => none)
      | _ => none
def noOwn (σ : List Sl) (vs : List Nat) : Bool := vs.all fun v => noO (σ.getD v .un)
def evLc (vs : List Nat) (s : D → List Sl → Option (List Sl)) (m : M (List D)) (tt : M Bool) (te : M D) : M Sl := m.bind fun ds => fun σ => if noOwn σ vs = true then (match lcL vs s tt te ds [] σ with
  | some (acc, σ') => .ok (.o (.lst acc)) (fin vs 0 σ' σ)
  | none => .bad) else .bad
section
variable {K : PySem.W.Frag} {mg : Str → Option Value} {F H F' H' : Hp} {σ σ' : List Sl} {τ τ' : List (Option V)} {vs : List Nat}
theorem fin_out {L : List Nat} : ∀ {i j : Nat} {ps σ : List Sl}, L.contains (i + j) = false → (fin L i ps σ)[j]? = ps[j]?
  | _, _, [], _, _ => by simp [fin]
  | i, j, p :: ps, [], h => by
    unfold fin
    cases j with
    | zero => rw [show L.contains i = false from h]; rfl
    | succ j => simpa using fin_out (i := i + 1) (j := j) (ps := ps) (σ := []) (by rw [show i + 1 + j = i + (j + 1) by omega]; exact h)
  | i, j, p :: ps, q :: σ, h => by
    unfold fin
    cases j with
    | zero => rw [show L.contains i = false from h]; rfl
    | succ j => simpa using fin_out (i := i + 1) (j := j) (ps := ps) (σ := σ) (by rw [show i + 1 + j = i + (j + 1) by omega]; exact h)
theorem mem_c {i : Nat} (h : vs.contains i = false) : i ∉ vs := fun z => by
  rw [List.contains_iff_mem.mpr z] at h; cases h
theorem wipeS_get {j : Nat} {s : Sl} (ne : s ≠ .un) (h : (wipeS σ vs)[j]? = some s) : vs.contains j = false ∧ σ[j]? = some s := by
  rcases fin_get ne h with ⟨h1, h2⟩ | ⟨h1, h2⟩
  · simp at h2
  · exact ⟨by simpa using h1, h2⟩
theorem wipeS_out {j : Nat} (h : vs.contains j = false) : (wipeS σ vs)[j]? = σ[j]? := fin_out (by simpa using h)
theorem wipe_in {i : Nat} : ∀ {vs : List Nat}, i ∈ vs → i < τ.length → (wipe τ vs)[i]? = some none
  | [], h, _ => by cases h
  | v :: vs, h, hl => by
    unfold wipe
    by_cases e : v = i
    · subst e
      rw [List.getElem?_set_self (by rw [wipe_length]; exact hl)]
    · rw [List.getElem?_set_ne e]
      exact wipe_in ((List.mem_cons.mp h).resolve_left fun z => e z.symm) hl
theorem wipe_eq (o : Out vs (wipe τ vs) τ') : wipe τ' vs = wipe τ vs := by
  refine List.ext_getElem? fun i => ?_
  have hl : τ'.length = τ.length := by rw [o.1, wipe_length]
  by_cases hi : i ∈ vs
  · by_cases hlt : i < τ.length
    · rw [wipe_in hi hlt, wipe_in hi (by rw [hl]; exact hlt)]
    · rw [List.getElem?_eq_none (by rw [wipe_length]; omega), List.getElem?_eq_none (by rw [wipe_length]; omega)]
  · rw [wipe_out hi, o.2 i hi]
theorem Out.sub {ts : List Nat} (o : Out ts τ τ') (h : ∀ i ∈ ts, i ∈ vs) : Out vs τ τ' := ⟨o.1, fun i hi => o.2 i fun z => hi (h i z)⟩
theorem Rl.wipe (R : Rl K mg F H σ τ) (vs : List Nat) : Rl K mg F H (wipeS σ vs) (L2.wipe τ vs) ∧ ∀ a, Own (wipeS σ vs) (L2.wipe τ vs) a → Own σ τ a := by
  refine ⟨⟨by rw [wipe_length]; unfold wipeS; rw [fin_length]; exact R.len, R.same, fun i d e => ?_, fun i o e => ?_, fun i j o o' a e1 e2 t1 t2 => ?_⟩, fun a ⟨i, o, e, t⟩ => ?_⟩
  · obtain ⟨h1, h2⟩ := wipeS_get (by simp) e
    rw [wipe_out (mem_c h1)]
    exact R.val i d h2
  · obtain ⟨h1, h2⟩ := wipeS_get (by simp) e
    rw [wipe_out (mem_c h1)]
    exact R.own i o h2
  · obtain ⟨h1, h2⟩ := wipeS_get (by simp) e1
    obtain ⟨h3, h4⟩ := wipeS_get (by simp) e2
    rw [wipe_out (mem_c h1)] at t1
    rw [wipe_out (mem_c h3)] at t2
    exact R.inj i j o o' a h2 h4 t1 t2
  · obtain ⟨h1, h2⟩ := wipeS_get (by simp) e
    rw [wipe_out (mem_c h1)] at t
    exact ⟨i, o, h2, t⟩
/-- an object that no slot owns and F does not hold is written -/
theorem Rl.free {D : Addr} {u : HO} (R : Rl K mg F H σ τ) (n : F D = none) (no : ¬ Own σ τ D) : Rl K mg F (upd H D u) σ τ := by
  refine ⟨R.len, fun b o e => ?_, R.val, fun i o e => ?_, R.inj⟩
  · rw [upd_ne (fun z => by rw [z, n] at e; cases e)]
    exact R.same b o e
  · obtain ⟨a, h1, h2, h3⟩ := R.own i o e
    refine ⟨a, h1, h2.same (Same.refl _) fun w hw => ?_, h3⟩
    rw [upd_ne (fun z => no (by rw [← z]; exact ⟨i, o, e, h1⟩))]
    exact hw
/-- behind the comprehension: the slots as they were -/
theorem Rl.unwipe {σ1 : List Sl} {F1 H1 : Hp} (R1 : Rl K mg F1 H1 σ1 τ) (no : noOwn σ1 vs = true) (fz : Same F1 F) (hl : σ.length = σ1.length) (R : Rl K mg F H (wipeS σ vs) (L2.wipe τ vs)) :
    Rl K mg F H (fin vs 0 σ σ1) τ ∧ ∀ a, Own (fin vs 0 σ σ1) τ a → Own (wipeS σ vs) (L2.wipe τ vs) a := by
  have no' : ∀ {i : Nat} {o : O}, vs.contains i = true → σ1[i]? = some (.o o) → False := fun {i o} hc e => by
    have q := List.all_eq_true.mp no i (List.contains_iff_mem.mp hc)
    rw [List.getD_eq_getElem?_getD, e] at q
    cases q
  have ow : ∀ {i : Nat} {o : O}, (fin vs 0 σ σ1)[i]? = some (.o o) → vs.contains i = false ∧ (wipeS σ vs)[i]? = some (.o o) := fun {i o} e => by
    rcases fin_get (by simp) e with ⟨h1, h2⟩ | ⟨h1, h2⟩
    · exact (no' (by simpa using h1) h2).elim
    · have h1 : vs.contains i = false := by simpa using h1
      exact ⟨h1, by rw [wipeS_out h1]; exact h2⟩
  refine ⟨⟨by rw [fin_length, hl]; exact R1.len, R.same, fun i d e => ?_, fun i o e => ?_, fun i j o o' a e1 e2 t1 t2 => ?_⟩, fun a ⟨i, o, e, t⟩ => ?_⟩
  · rcases fin_get (by simp) e with ⟨h1, h2⟩ | ⟨h1, h2⟩
    · obtain ⟨v, q1, q2⟩ := R1.val i d h2
      exact ⟨v, q1, Rep.same fz q2⟩
    · have h1 : vs.contains i = false := by simpa using h1
      obtain ⟨v, q1, q2⟩ := R.val i d (by rw [wipeS_out h1]; exact h2)
      rw [wipe_out (mem_c h1)] at q1
      exact ⟨v, q1, q2⟩
  · obtain ⟨h1, h2⟩ := ow e
    obtain ⟨a, q1, q2⟩ := R.own i o h2
    rw [wipe_out (mem_c h1)] at q1
    exact ⟨a, q1, q2⟩
  · obtain ⟨h1, h2⟩ := ow e1
    obtain ⟨h3, h4⟩ := ow e2
    exact R.inj i j o o' a h2 h4 (by rw [wipe_out (mem_c h1)]; exact t1) (by rw [wipe_out (mem_c h3)]; exact t2)
  · obtain ⟨h1, h2⟩ := ow e
    exact ⟨i, o, h2, by rw [wipe_out (mem_c h1)]; exact t⟩
end
/-- what a comprehension's reading asks, for its semantics -/
theorem lc_read1 {K : PySem.W.Frag} {mg : Str → Option Value} {W : WX} {vs ts : List Nat} {s : D → List Sl → Option (List Sl)} {m : M (List D)} {tt : M Bool} {te : M D} {wi : TI} (hts : ∀ i ∈ ts, i ∈ vs)
    {F H : Hp} {σ : List Sl} {τ : List (Option V)} (hi : ∀ Q, OkI K mg W σ τ F H Q (m σ) → wi τ H Q) {Q : VK} (R : Rl K mg F H σ τ) (h : OkE K mg W σ τ F H Q (evLc vs s m tt te σ)) :
    tLc wi (gD K mg ts s) (tB_ K mg (fun _ _ _ _ => False) tt) (tO K mg (fun _ _ _ _ => False) (asS te)) vs τ H Q := by
  refine hi _ ?_
  unfold evLc M.bind at h
  cases e1 : m σ with
  | bad => rw [e1] at h; exact h
  | ex x σ1 => rw [e1] at h; exact h
  | ok ds σ1 =>
    rw [e1] at h
    intro J F1 H1 R1 wk t1 D nD
    have h := OkE.later t1 h
    by_cases no : noOwn σ1 vs = true
    case neg => dsimp only at h; rw [if_neg no] at h; exact False.elim h
    dsimp only at h
    rw [if_pos no] at h
    cases e2 : lcL vs s tt te ds [] σ1 with
    | none => rw [e2] at h; exact False.elim h
    | some res =>
      obtain ⟨accF, σF⟩ := res
      rw [e2] at h
      dsimp only at h
      obtain ⟨G, Y, walk, hG, hY⟩ := wk
      have fD : F1 D = none := Same.none R1.same nD
      have nO : ¬ Own σ1 τ D := fun q => by
        obtain ⟨⟨u, hu⟩, _⟩ := R1.own_there q
        rw [nD] at hu; cases hu
      obtain ⟨Rw, ow⟩ := R1.wipe vs
      have nOw : ¬ Own (wipeS σ1 vs) (wipe τ vs) D := fun q => nO (ow D q)
      refine lc_it walk (fun i H => ∃ F' σ' acc accV, Same F1 F' ∧ σ'.length = σ1.length ∧ Rl K mg F' H (wipeS σ' vs) (wipe τ vs) ∧ H D = some (.lst accV) ∧ RepL K mg F' acc accV ∧ accV.length ≤ szMax ∧ F' D = none ∧ ¬ Own (wipeS σ' vs) (wipe τ vs) D ∧
        Tr (Own σ1 τ) F1 H1 (fun a => Own (wipeS σ' vs) (wipe τ vs) a ∨ a = D) F' H ∧ lcL vs s tt te (ds.drop i) acc σ' = some (accF, σF)) ?_ (fun i H _ ⟨F', σ', acc, accV, fz, _, R', _⟩ => hG H (fz.trans R'.same)) ?_ ?_
      · refine ⟨F1, σ1, [], [], Same.refl _, rfl, Rw.free fD nOw, upd_same, by simp [RepL], Nat.zero_le _, fD, nOw, ?_, e2⟩
        refine ⟨Same.refl _, fun b o e n => ?_, fun b q => .inl q, fun b q => ?_, fun b q => ?_⟩
        · rw [upd_ne (ne_of_none e nD)]; exact e
        · by_cases z : b = D
          · rw [z, upd_same]; simp
          · rw [upd_ne z]; exact q
        · rcases q with q | q
          · exact .inl (ow b q)
          · rw [q]; exact .inr nD
      · rintro i x H2 H3 hi ⟨F2, σ2, acc, accV, fz, hl, R2, hD, ra, hz, fD2, nO2, tr, eL⟩ y
        obtain ⟨d, F3, ed, ex, rx⟩ := hY i H2 x H3 F2 hi y fz R2.same
        have R3 := R2.ext ex
        have eq : ds.drop i = d :: ds.drop (i + 1) := by
          have hlt := (List.getElem?_eq_some_iff.mp ed).1
          rw [List.drop_eq_getElem_cons hlt]
          congr 1
          exact (List.getElem?_eq_some_iff.mp ed).2
        rw [eq] at eL
        unfold lcL at eL
        cases q1 : s d (wipeS σ2 vs) with
        | none => rw [q1] at eL; cases eL
        | some σ3 =>
          rw [q1] at eL
          dsimp only at eL
          refine ⟨F3, wipeS σ2 vs, d, R3, rx, ?_⟩
          rw [q1]
          intro τ3 R4 o4 w4
          have l3 : σ3.length = σ1.length := by
            have a1 := R4.len
            have a2 := o4.1
            rw [wipe_length] at a2
            rw [a1, a2, ← R1.len]
          refine ⟨wipe_eq (o4.sub hts), ?_⟩
          have we := wipe_eq (o4.sub hts)
          have tb : Tr (Own (wipeS σ2 vs) (wipe τ vs)) F2 H2 (Own σ3 τ3) F3 H3 := ex.tr.trans (Tr.refl.weak w4)
          refine ⟨F3, σ3, R4, ?_⟩
          -- from the state behind the element on
          have fin_ : ∀ {F5 H5 σ5}, Rl K mg F5 H5 σ5 τ3 → Tr (Own (wipeS σ2 vs) (wipe τ vs)) F2 H2 (Own σ5 τ3) F5 H5 → H5 D = some (.lst accV) ∧ F5 D = none ∧ ¬ Own σ5 τ3 D := fun {F5 H5 σ5} R5 t5 => by
            refine ⟨t5.keep D _ hD nO2, ?_, fun z => ?_⟩
            · cases q : F5 D with
              | none => rfl
              | some u =>
                rcases t5.new D (by rw [q]; simp) with z | z | z
                · exact absurd fD2 z
                · rw [hD] at z; cases z
                · exact absurd z nO2
            · rcases t5.sub D z with z | z
              · exact nO2 z
              · rw [hD] at z; cases z
          have step : ∀ {F5 H5 H6 σ5}, Rl K mg F5 H5 σ5 τ3 → Tr (Own (wipeS σ2 vs) (wipe τ vs)) F2 H2 (Own σ5 τ3) F5 H5 → (∀ b, b ≠ D → H6 b = H5 b) → H6 D ≠ none → Tr (Own σ1 τ) F1 H1 (fun a => Own (wipeS σ5 vs) (wipe τ vs) a ∨ a = D) F5 H6 := fun {F5 H5 H6 σ5} R5 t5 h6 hd => by
            refine tr.trans ⟨t5.fz, fun b o e n => ?_, fun b q => (t5.new b q).elim .inl fun z => z.elim (fun z => .inr (.inl z)) fun z => .inr (.inr (.inl z)), fun b q => ?_, fun b q => ?_⟩
            · rw [h6 b fun z => n (.inr z)]
              exact t5.keep b o e fun z => n (.inl z)
            · by_cases z : b = D
              · rw [z]; exact hd
              · rw [h6 b z]; exact t5.dom b q
            · rcases q with q | q
              · rw [← we] at q
                rcases t5.sub b ((R5.wipe vs).2 b q) with z | z
                · exact .inl (.inl z)
                · exact .inr z
              · exact .inl (.inr q)
          cases q2 : tt σ3 with
          | bad => rw [q2] at eL; cases eL
          | ex _ _ => rw [q2] at eL; cases eL
          | ok b σ4 =>
            rw [q2] at eL
            intro F4 H4 R5 t4
            have t24 := tb.trans t4
            have l4 : σ4.length = σ1.length := by
              have a1 := R5.len
              rw [a1, ← R4.len, l3]
            cases b with
            | false =>
              refine iteF ?_
              obtain ⟨d1, d2, d3⟩ := fin_ R5 t24
              refine ⟨F4, σ4, acc, accV, (fz.trans ex.fz).trans t4.fz, l4, by rw [← we]; exact (R5.wipe vs).1, d1, RepL.same t24.fz ra, hz, d2, fun z => d3 ((R5.wipe vs).2 D (by rw [we]; exact z)), step R5 t24 (fun _ _ => rfl) (by rw [d1]; simp), eL⟩
            | true =>
              refine iteT ⟨F4, σ4, R5, ?_⟩
              unfold asS
              dsimp only at eL
              cases q3 : te σ4 with
              | bad => rw [q3] at eL; cases eL
              | ex _ _ => rw [q3] at eL; cases eL
              | ok y σ5 =>
                rw [q3] at eL
                dsimp only at eL
                split at eL
                · rename_i hsz
                  intro v F5 H5 R6 ry _ t5
                  have t25 := t24.trans t5.noR
                  obtain ⟨d1, d2, d3⟩ := fin_ R6 t25
                  have l5 : σ5.length = σ1.length := by
                    have a1 := R6.len
                    rw [a1, ← R4.len, l3]
                  have la : accV.length = acc.length := ra.len.symm
                  refine ⟨accV, d1, Nat.lt_of_lt_of_le (by rw [la]; exact hsz) (sz_ok (Nat.le_refl _)), F5, σ5, acc ++ [y], accV ++ [v], (fz.trans ex.fz).trans (t4.fz.trans t5.fz), l5, ?_, upd_same, RepL.append (RepL.same t25.fz ra) (by simp only [RepL]; exact ⟨v, [], rfl, ry, rfl⟩), ?_, d2, fun z => d3 ((R6.wipe vs).2 D (by rw [we]; exact z)), step R6 t25 (fun b hb => upd_ne hb) (by rw [upd_same]; simp), eL⟩
                  · rw [← we]
                    exact (R6.wipe vs).1.free d2 fun z => d3 ((R6.wipe vs).2 D z)
                  · rw [List.length_append, List.length_singleton, la]; exact hsz
                · cases eL
      · rintro H2 ⟨F2, σ2, acc, accV, fz, hl, R2, hD, ra, hz, fD2, nO2, tr, eL⟩
        rw [List.drop_length] at eL
        unfold lcL at eL
        cases eL
        obtain ⟨R3, o3⟩ := R1.unwipe no fz hl R2
        refine h (.ref D) F2 H2 R3 ⟨D, rfl, ⟨accV, hD, sz_ok hz, ra⟩, fD2⟩ (fun a ⟨_, z⟩ q => ?_) (tr.weak fun a q => ?_)
        · cases z; exact nO2 (o3 _ q)
        · rcases q with q | ⟨_, z⟩
          · exact .inl (o3 a q)
          · cases z; exact .inr rfl
theorem lc_read {K : PySem.W.Frag} {mg : Str → Option Value} {W : WX} {vs ts : List Nat} {s : D → List Sl → Option (List Sl)} {m : M (List D)} {tt : M Bool} {te : M D} {wi : TI} (hts : ∀ i ∈ ts, i ∈ vs)
    (hi : ∀ F H σ τ Q, Rl K mg F H σ τ → OkI K mg W σ τ F H Q (m σ) → wi τ H Q) {F H : Hp} {σ : List Sl} {τ : List (Option V)} {Q : VK} (R : Rl K mg F H σ τ) (h : OkE K mg W σ τ F H Q (evLc vs s m tt te σ)) :
    tLc wi (gD K mg ts s) (tB_ K mg (fun _ _ _ _ => False) tt) (tO K mg (fun _ _ _ _ => False) (asS te)) vs τ H Q := lc_read1 hts (fun Q => hi F H σ τ Q R) R h
section
variable {X : Cx} {W : WX} {L vs ts : List Nat} {tg it elt : Expr} {ifs : List Expr} {scope : Scope} {own : List (Str × Nat)} {pos : Pos} {s : D → List Sl → Option (List Sl)} {m : M (List D)} {tt : M Bool} {te : M D}
theorem do_lc (own : List (Str × Nat)) (hc : X.calm = true) (hN : X.N.Nodup) (ok : BlkOk X.N X.env.scope scope own) (hts : ∀ i ∈ ts, i ∈ own.map (·.2)) (hi : DI X W tg it m)
    (hg : ∀ (s' : Shared) (H : Hp) (C : Addr) (cl : List (Str × Addr)) (fp : List Addr), DG (X.blk s' H scope (compEnvC scope cl C X.env) fp) ts tg s) (ht : ∀ (s : Shared) (H : Hp) (C : Addr) (cl : List (Str × Addr)) (fp : List Addr), DTs (X.blk s H scope (compEnvC scope cl C X.env) fp) ifs tt)
    (he : ∀ (s : Shared) (H : Hp) (C : Addr) (cl : List (Str × Addr)) (fp : List Addr), DV (X.blk s H scope (compEnvC scope cl C X.env) fp) (fun _ _ _ _ => False) elt te) (hs : ∀ x, foldedSetIterable it X.env x = pure x := by intro _; rfl) :
    DO X W (.ListComp elt [⟨tg, it, ifs, 0⟩] scope pos) (evLc (own.map (·.2)) s m tt te) := by
  obtain ⟨wi, pi, hi⟩ := hi
  exact ⟨_, pe_lc (g := gD X.K X.mg ts s) (tt := tB_ X.K X.mg (fun _ _ _ _ => False) tt) (te := tO X.K X.mg (fun _ _ _ _ => False) (asS te)) hc hN pi ok (fun s' H C cl fp => (hg s' H C cl fp).pg) (fun s' H C cl fp => ht s' H C cl fp) (fun s' H C cl fp => DO.pe (he s' H C cl fp)) hs, fun F H σ τ Q R h => lc_read hts hi R h⟩
theorem ds_setLc (i : Nat) (own : List (Str × Nat)) {y : Str} {py spos : Pos} (hc : X.calm = true) (hN : X.N.Nodup) (hy : X.N[i]? = some y) (hyl : X.env.scope.names.lookup y = some .local) (hl : L.contains i = false)
    (hsw : swapsWith (.ListComp elt [⟨tg, it, ifs, 0⟩] scope pos) (some (.Name y py)) spos.line X.env = pure true) (ok : BlkOk X.N X.env.scope scope own) (hts : ∀ i ∈ ts, i ∈ own.map (·.2)) (hi : DI X W tg it m)
    (hg : ∀ (s' : Shared) (H : Hp) (C : Addr) (cl : List (Str × Addr)) (fp : List Addr), DG (X.blk s' H scope (compEnvC scope cl C X.env) fp) ts tg s) (ht : ∀ (s : Shared) (H : Hp) (C : Addr) (cl : List (Str × Addr)) (fp : List Addr), DTs (X.blk s H scope (compEnvC scope cl C X.env) fp) ifs tt)
    (he : ∀ (s : Shared) (H : Hp) (C : Addr) (cl : List (Str × Addr)) (fp : List Addr), DV (X.blk s H scope (compEnvC scope cl C X.env) fp) (fun _ _ _ _ => False) elt te) (hs : ∀ x, foldedSetIterable it X.env x = pure x := by intro _; rfl) :
    DS X W L (.Assign [.Name y py] (.ListComp elt [⟨tg, it, ifs, 0⟩] scope pos) spos) (evSet i (evLc (own.map (·.2)) s m tt te)) := by
  obtain ⟨wi, pi, hi⟩ := hi
  refine ⟨_, ps_setLc (g := gD X.K X.mg ts s) (tt := tB_ X.K X.mg (fun _ _ _ _ => False) tt) (te := tO X.K X.mg (fun _ _ _ _ => False) (asS te)) hc hN hy hyl hsw pi ok (fun s' H C cl fp => (hg s' H C cl fp).pg) (fun s' H C cl fp => ht s' H C cl fp) (fun s' H C cl fp => DO.pe (he s' H C cl fp)) hs, fun F H σ τ E R h => ?_⟩
  refine lc_read hts hi R (dsk h fun r σ1 v F1 H1 R1 rp nd t1 h => ?_)
  obtain ⟨R2, o2⟩ := R1.put i rp nd
  refine h (τ.set i (some v)) F1 H1 R2 (fun j hj => ?_) (t1.weak o2)
  refine get_set_ne fun z => ?_
  subst z
  have : L.contains j = true := List.contains_iff_mem.mpr hj
  rw [hl] at this; cases this
end
end DL
namespace DL
open PySem PySem.Spec PyProof.Rows L2
/-! ### peeks: data, or a slot's own object -/
def RepP (K : PySem.W.Frag) (mg : Str → Option Value) (F H : Hp) (d : D) (v : V) : Prop := Rep K mg F d v ∨ ∃ o a, d = O.frz o ∧ v = .ref a ∧ OAt K mg F H o a
section
variable {K : PySem.W.Frag} {mg : Str → Option Value} {F H : Hp}
theorem RepP.lst {ds : List D} {v : V} (s : Same F H) (h : RepP K mg F H (.lst ds) v) : ∃ a xs, v = .ref a ∧ H a = some (.lst xs) ∧ xs.length ≤ sizeLine ∧ RepL K mg F ds xs := by
  rcases h with ⟨a, xs, h1, h2, h3, h4⟩ | ⟨o, a, h1, h2, h3⟩
  · exact ⟨a, xs, h1, s _ _ h2, h3, h4⟩
  · cases o with
    | lst ys =>
      cases h1
      obtain ⟨xs, q1, q2, q3⟩ := h3
      exact ⟨a, xs, h2, q1, q2, q3⟩
    | dk ks vs => cases h1
    | dt ks vs => cases h1
    | ins c ns vs => cases h1
theorem RepP.tup {ds : List D} {v : V} (s : Same F H) (h : RepP K mg F H (.tup ds) v) : ∃ a xs, v = .ref a ∧ H a = some (.tup xs) ∧ xs.length ≤ sizeLine ∧ RepL K mg F ds xs := by
  rcases h with ⟨a, xs, h1, h2, h3, h4⟩ | ⟨o, a, h1, h2, h3⟩
  · exact ⟨a, xs, h1, s _ _ h2, h3, h4⟩
  · cases o <;> cases h1
theorem RepP.scr {ns : List Int} {v : V} (s : Same F H) (h : RepP K mg F H (.scr ns) v) : ∃ a, v = .ref a ∧ SqL K H a (ns.map V.int) := by
  rcases h with ⟨a, h1, h2⟩ | ⟨o, a, h1, h2, h3⟩
  · exact ⟨a, h1, s.seq h2⟩
  · cases o <;> cases h1
theorem RepP.str {z : Str} {v : V} (h : RepP K mg F H (.str z) v) : v = .str z := by
  rcases h with h | ⟨o, a, h1, h2, h3⟩
  · exact h
  · cases o <;> cases h1
end
def VOp2P (K : PySem.W.Frag) (mg : Str → Option Value) (r : R2) (f : D → D → Option D) : Prop :=
  ∀ (F H : Hp) (x y : D) (u v : V) (d : D) (Q : VK), Same F H → RepP K mg F H x u → Rep K mg F y v → f x y = some d → (∀ w F' H', Ext F H F' H' → Rep K mg F' d w → Q w H') → r u v H Q
def VCall1P (K : PySem.W.Frag) (mg : Str → Option Value) (r : List V → Hp → VK → Prop) (f : D → Option D) : Prop :=
  ∀ (F H : Hp) (x : D) (u : V) (d : D) (Q : VK), Same F H → RepP K mg F H x u → f x = some d → (∀ w F' H', Ext F H F' H' → Rep K mg F' d w → Q w H') → r [u] H Q
theorem VOp2P.op {K : PySem.W.Frag} {mg : Str → Option Value} {r : R2} {f : D → D → Option D} (h : VOp2P K mg r f) : VOp2 K mg r f := fun F H x y u v d Q s rx ry e k => h F H x y u v d Q s (.inl rx) ry e k
def f1 (f : D → Option D) : List D → Option D
  | [x] => f x
  | _ => none
theorem VCall1P.call {K : PySem.W.Frag} {mg : Str → Option Value} {r : List V → Hp → VK → Prop} {f : D → Option D} (h : VCall1P K mg r f) : VCall K mg r (f1 f) := by
  intro F H xs us d Q s r e k
  unfold f1 at e
  split at e
  · rename_i x
    simp only [RepL] at r
    obtain ⟨u, r1, rfl, h1, rfl⟩ := r
    exact h F H x u d Q s (.inl h1) e k
  · cases e
def pkAt (f : D → Option D) (j : Nat) : M D := fun σ => match σ[j]? with
  | some (.d x) => lift (f x) σ
  | some (.o o) => lift (f o.frz) σ
  | _ => .bad
theorem pkAt_ok {K : PySem.W.Frag} {mg : Str → Option Value} {W : WX} {F H : Hp} {σ : List Sl} {τ : List (Option V)} {Q : VK} {f : D → Option D} {j : Nat} {v0 : V} (R : Rl K mg F H σ τ) (et : τ[j]? = some (some v0)) (h : OkE K mg W σ τ F H Q (asS (pkAt f j) σ)) :
    ∃ x d, RepP K mg F H x v0 ∧ f x = some d ∧ OkE K mg W σ τ F H Q (.ok (.d d) σ) := by
  unfold asS pkAt at h
  cases e : σ[j]? with
  | none => rw [e] at h; exact False.elim h
  | some s =>
    rw [e] at h
    cases s with
    | un => exact False.elim h
    | d x =>
      obtain ⟨v, h1, r1⟩ := R.val j x e
      rw [et] at h1
      cases h1
      obtain ⟨d, ed, h2⟩ := okl (o := f x) (v := v0) h
      exact ⟨x, d, .inl r1, ed, h2⟩
    | o o =>
      obtain ⟨a, h1, at_, fn⟩ := R.own j o e
      rw [et] at h1
      cases h1
      obtain ⟨d, ed, h2⟩ := okl (o := f o.frz) (v := .ref a) h
      exact ⟨_, d, .inr ⟨o, a, rfl, rfl, at_⟩, ed, h2⟩
def evIxP (f : D → D → Option D) (j : Nat) (mb : M D) : M D := fun σ => if isSet σ j = true then (mb.bind fun y => pkAt (fun x => f x y) j) σ else .bad
def evLenP (f : D → Option D) (j : Nat) : M D := pkAt f j
section
variable {X : Cx} {W : WX} {e b : Expr} {es : List Expr} {ma mb : M D} {ml : M (List D)} {pos : Pos}
theorem dv_ixP (j : Nat) {x : Str} {px : Pos} {r : R2} {f : D → D → Option D} (ho : IxR X r) (hv : VOp2P X.K X.mg r f) (hN : X.N[j]? = some x) (hvi : Vis X.env.scope x) (hb : DV X W b mb) (hd : (x == ("__debug__" : Str)) = false := by decide +kernel)
    (hcd : (x == ("__classdict__" : Str)) = false := by decide +kernel) (hs : PlainIx b := by intro _ _; rfl) : DV X W (.Subscript (.Name x px) b pos) (evIxP f j mb) := by
  obtain ⟨tb, pb, hb⟩ := hb
  refine ⟨_, pe_ix ho (pe_var hN hvi hd hcd) pb hs, fun F H σ τ Q R h => ?_⟩
  unfold asS evIxP at h
  by_cases hs : isSet σ j = true
  case neg => rw [if_neg hs] at h; exact False.elim h
  rw [if_pos hs] at h
  obtain ⟨v0, et⟩ := R.isSet hs
  refine ⟨v0, et, ?_⟩
  have h : OkE X.K X.mg W σ τ F H Q (asS (mb.bind fun y => pkAt (fun x => f x y) j) σ) := h
  rw [asS_bind] at h
  refine hb F H σ τ _ R (dvk h fun y σ1 v F1 H1 R1 r1 h => ?_)
  obtain ⟨x, d, rx, ed, h2⟩ := pkAt_ok R1 et h
  exact hv F1 H1 x y v0 v d Q R1.same rx r1 ed fun z F' H' ex rz => okd h2 R1 ex rz
theorem dv_callB1P (j : Nat) {id : String} {r : List V → Hp → VK → Prop} {f : D → Option D} {x y : Str} {p py pos : Pos} (hc : CallR X (.builtin id) r) (hv : VCall1P X.K X.mg r f) (hg : Gl X x) (hm : X.mg x = none) (hb : bootBuiltins x = some (.builtin id)) (hN : X.N[j]? = some y) (hvi : Vis X.env.scope y)
    (hd : (y == ("__debug__" : Str)) = false := by decide +kernel) (hcd : (y == ("__classdict__" : Str)) = false := by decide +kernel) (hn : x ≠ "__name__" := by decide +kernel) (hdb : (x == ("__debug__" : Str)) = false := by decide +kernel)
    (he : starEach (.Name y py :: []) X.env = (false, eval (.Name y py) X.env) :: starEach [] X.env := by rfl) (hpl : (backTo pos (starEach [] X.env)).any (·.1) = false := by rfl) : DV X W (.Call (.Name x p) (.Name y py :: []) [] pos) (evLenP f j) := by
  refine ⟨_, pe_callB hc hg hm hb (pa_cons (pe_var hN hvi hd hcd) pa_nil he) hn hdb he hpl, fun F H σ τ Q R h => ?_⟩
  have hs : isSet σ j = true := by
    unfold isSet
    unfold asS evLenP pkAt at h
    cases e : σ[j]? with
    | none => rw [e] at h; exact False.elim h
    | some s =>
      rw [e] at h
      cases s with
      | un => exact False.elim h
      | d x => rfl
      | o o => rfl
  obtain ⟨v0, et⟩ := R.isSet hs
  obtain ⟨x, d, rx, ed, h2⟩ := pkAt_ok R et h
  exact ⟨v0, et, hv F H x v0 d Q R.same rx ed fun z F' H' ex rz => okd h2 R ex rz⟩
end
/-! ### len, x[i] -/
def dLen : D → Option D
  | .lst xs => some (.int xs.length)
  | .tup xs => some (.int xs.length)
  | .scr ns => some (.int ns.length)
  | .str z => if z.length ≤ szMax then some (.int z.length) else none
  | _ => none
def rLenA (K : PySem.W.Frag) : List V → Hp → VK → Prop := fun xs H Q => (∃ p ys, xs = [.ref p] ∧ (SqL K H p ys ∨ SqT K H p ys) ∧ Q (.int ys.length) H) ∨ ∃ z, xs = [.str z] ∧ z.length ≤ sizeLine ∧ Q (.int z.length) H
theorem CallR.or {X : Cx} {f : Value} {r r' : List V → Hp → VK → Prop} (h : CallR X f r) (h' : CallR X f r') : CallR X f (fun vs H Q => r vs H Q ∨ r' vs H Q) :=
  fun pins s σ H xs us Q I rv h1 => h1.elim (h pins s σ H xs us Q I rv) (h' pins s σ H xs us Q I rv)
theorem c_len {X : Cx} : CallR X (.builtin "len") (rLenA X.K) := CallR.or call_len_seq call_len_str
section
variable {K : PySem.W.Frag} {mg : Str → Option Value}
theorem v_len : VCall1P K mg (rLenA K) dLen := by
  intro F H x u d Q s rx e k
  unfold dLen at e
  split at e
  · cases e
    obtain ⟨a, xs, rfl, h1, h2, h3⟩ := rx.lst s
    refine .inl ⟨a, xs, rfl, .inl (.inl (.inl h1)), ?_⟩
    rw [← h3.len]
    exact k _ F H (Ext.refl s) rfl
  · cases e
    obtain ⟨a, xs, rfl, h1, h2, h3⟩ := rx.tup s
    refine .inl ⟨a, xs, rfl, .inr (.inl (.inl h1)), ?_⟩
    rw [← h3.len]
    exact k _ F H (Ext.refl s) rfl
  · cases e
    obtain ⟨a, rfl, h1⟩ := rx.scr s
    refine .inl ⟨a, _, rfl, .inl h1, ?_⟩
    rw [List.length_map]
    exact k _ F H (Ext.refl s) rfl
  · split at e
    · rename_i hz
      cases e
      cases rx.str
      exact .inr ⟨_, rfl, sz_ok hz, k _ F H (Ext.refl s) rfl⟩
    · cases e
  · cases e
def dIx : D → D → Option D
  | .lst xs, .int i => atI xs i
  | .tup xs, .int i => atI xs i
  | .scr ns, .int i => (atI ns i).map .int
  | .str z, .int i => if z.length ≤ szMax then (atI z.cps.toList i).map fun c => .str ⟨#[c]⟩ else none
  | _, _ => none
theorem RepL.atI {F : Hp} {ds : List D} {xs : List V} {i : Int} {d : D} (r : RepL K mg F ds xs) (h : L2.atI ds i = some d) : ∃ x, L2.atI xs i = some x ∧ Rep K mg F d x := by
  unfold L2.atI at h ⊢
  rw [r.len] at h
  cases e : ixN xs.length i with
  | none => rw [e] at h; cases h
  | some j => rw [e] at h; exact r.get h
def rIxA (K : PySem.W.Frag) : R2 := fun x y H Q => (rIxL K x y H Q ∨ rIxT K x y H Q) ∨ rIxS x y H Q
theorem IxR.or {X : Cx} {r r' : R2} (h : IxR X r) (h' : IxR X r') : IxR X (fun x y H Q => r x y H Q ∨ r' x y H Q) :=
  fun value slice pins s σ H x y v u Q I rx ry h1 hs => h1.elim (fun q => h value slice pins s σ H x y v u Q I rx ry q hs) (fun q => h' value slice pins s σ H x y v u Q I rx ry q hs)
theorem x_ix {X : Cx} : IxR X (rIxA X.K) := IxR.or (IxR.or ix_list ix_tup) ix_str
theorem v_ix : VOp2P K mg (rIxA K) dIx := by
  intro F H x y u v d Q s rx ry e k
  unfold dIx at e
  split at e
  · obtain ⟨a, xs, rfl, h1, h2, h3⟩ := rx.lst s
    cases ry
    obtain ⟨w, e1, rw_⟩ := h3.atI e
    exact .inl (.inl ⟨a, xs, _, w, rfl, rfl, .inl (.inl h1), e1, k _ F H (Ext.refl s) rw_⟩)
  · obtain ⟨a, xs, rfl, h1, h2, h3⟩ := rx.tup s
    cases ry
    obtain ⟨w, e1, rw_⟩ := h3.atI e
    exact .inl (.inr ⟨a, xs, _, w, rfl, rfl, .inl (.inl h1), e1, k _ F H (Ext.refl s) rw_⟩)
  · obtain ⟨a, rfl, h1⟩ := rx.scr s
    cases ry
    rename_i ns i
    cases q : atI ns i with
    | none => rw [q] at e; cases e
    | some n =>
      rw [q] at e
      cases e
      refine .inl (.inl ⟨a, _, _, .int n, rfl, rfl, h1, ?_, k _ F H (Ext.refl s) rfl⟩)
      unfold L2.atI at q ⊢
      rw [List.length_map]
      cases q2 : ixN ns.length i with
      | none => rw [q2] at q; cases q
      | some j =>
        rw [q2] at q
        have q : ns[j]? = some n := q
        show (ns.map V.int)[j]? = some (.int n)
        rw [List.getElem?_map, q]; rfl
  · split at e
    · rename_i z i hz
      cases rx.str
      cases ry
      cases q : atI z.cps.toList i with
      | none => rw [q] at e; cases e
      | some c =>
        rw [q] at e
        cases e
        exact .inr ⟨z, i, c, rfl, rfl, sz_ok hz, q, k _ F H (Ext.refl s) rfl⟩
    · cases e
  · cases e
/-! ### slices -/
def cutD (xs : List D) (lo hi : Option Int) : List D := (xs.drop (HT.sIx xs.length 0 lo)).take (HT.sIx xs.length xs.length hi - HT.sIx xs.length 0 lo)
theorem RepL.cut {F : Hp} {ds : List D} {xs : List V} (r : RepL K mg F ds xs) (lo hi : Option Int) : RepL K mg F (cutD ds lo hi) (cutV xs lo hi) := by
  unfold cutD cutV
  rw [r.len]
  exact RepL.take _ (RepL.drop _ r)
def dCut : D → Option Int → Option Int → Option D
  | .lst xs, lo, hi => some (.lst (cutD xs lo hi))
  | .tup xs, lo, hi => some (.tup (cutD xs lo hi))
  | .str z, lo, hi => if z.length ≤ szMax then some (.str (cutS z lo hi)) else none
  | _, _, _ => none
def rSlAll (K : PySem.W.Frag) : V → Option Int → Option Int → Hp → VK → Prop := fun x lo hi H Q => (rSlL K x lo hi H Q ∨ rSlA K x lo hi H Q) ∨ rSlS x lo hi H Q
theorem SlR.or {X : Cx} {r r' : V → Option Int → Option Int → Hp → VK → Prop} (h : SlR X r) (h' : SlR X r') : SlR X (fun x lo hi H Q => r x lo hi H Q ∨ r' x lo hi H Q) :=
  fun pins s σ H x v vl vu lo hi sl Q I rx hs pl pu h1 => h1.elim (h pins s σ H x v vl vu lo hi sl Q I rx hs pl pu) (h' pins s σ H x v vl vu lo hi sl Q I rx hs pl pu)
theorem s_cut {X : Cx} : SlR X (rSlAll X.K) := SlR.or (SlR.or sl_list sl_tupA) sl_str
theorem v_cut : VSl K mg (rSlAll K) dCut := by
  intro F H x u lo hi d Q s rx e k
  unfold dCut at e
  split at e
  · cases e
    obtain ⟨a, xs, rfl, h1, h2, h3⟩ := rx
    refine .inl (.inl ⟨a, xs, rfl, .inl (.inl (s _ _ h1)), fun p hp => ?_⟩)
    obtain ⟨x, r⟩ := new_lst (mg := mg) s hp (Nat.le_trans (cutV_length xs lo hi) h2) (h3.cut lo hi)
    exact k _ _ _ x r
  · cases e
    obtain ⟨a, xs, rfl, h1, h2, h3⟩ := rx
    refine .inl (.inr ⟨a, xs, rfl, .inl (.inl (s _ _ h1)), fun q => ?_, fun q p hp => ?_⟩)
    · refine k _ F H (Ext.refl s) ⟨a, xs, rfl, h1, h2, ?_⟩
      have e : cutV xs lo hi = xs := by unfold cutV; rw [q.1, q.2, Nat.sub_zero, List.drop_zero, List.take_length]
      have r := h3.cut lo hi
      rw [e] at r
      exact r
    · obtain ⟨x, r⟩ := new_tup (mg := mg) s hp (Nat.le_trans (cutV_length xs lo hi) h2) (h3.cut lo hi)
      exact k _ _ _ x r
  · split at e
    · rename_i hz
      cases e
      cases rx
      exact .inr ⟨_, rfl, sz_ok hz, k _ F H (Ext.refl s) rfl⟩
    · cases e
  · cases e
theorem RepL.rev {F : Hp} : ∀ {ds : List D} {xs : List V}, RepL K mg F ds xs → RepL K mg F ds.reverse xs.reverse
  | [], xs, h => by simp only [RepL] at h; subst h; simp [RepL]
  | d :: ds, xs, h => by
    simp only [RepL] at h
    obtain ⟨x, r, rfl, h1, h2⟩ := h
    rw [List.reverse_cons, List.reverse_cons]
    exact (RepL.rev h2).append (by simp only [RepL]; exact ⟨x, [], rfl, h1, rfl⟩)
end
def dRev : D → Option D
  | .lst xs => some (.lst xs.reverse)
  | _ => none
theorem dv_revL {X : Cx} {W : WX} {e : Expr} {ma : M D} {k : Nat} {p1 p2 p3 pos : Pos} (ha : DV X W e ma) : DV X W (.Subscript e (.Slice none none (some (.UnaryOp .USub (.Constant (.int 1) k p1) p2)) p3) pos) (ev1 dRev ma) := by
  obtain ⟨ta, pa, ha⟩ := ha
  refine ⟨_, pe_revL pa, fun F H σ τ Q R h => ?_⟩
  unfold ev1 at h
  rw [asS_bind] at h
  refine ha F H σ τ _ R (dvk h fun x σ1 v F1 H1 R1 r1 h => ?_)
  obtain ⟨d, ed, h2⟩ := okl (v := v) h
  unfold dRev at ed
  split at ed
  · cases ed
    obtain ⟨a, xs, rfl, h3, h4, h5⟩ := r1
    refine ⟨a, xs, rfl, .inl (.inl (R1.same _ _ h3)), fun p hp => ?_⟩
    obtain ⟨x, r⟩ := new_lst (mg := X.mg) R1.same hp (by rw [List.length_reverse]; exact h4) h5.rev
    exact okd h2 R1 x r
  · cases ed
/-! ### tuple(x), list(x) -/
section
variable {K : PySem.W.Frag} {mg : Str → Option Value}
def dTupOf : D → Option D
  | .lst xs => some (.tup xs)
  | .tup xs => some (.tup xs)
  | _ => none
def dLstOf : D → Option D
  | .lst xs => some (.lst xs)
  | .tup xs => some (.lst xs)
  | _ => none
theorem v_tupOf : VCall1P K mg (fun xs H Q => ∃ p ys, xs = [.ref p] ∧ ((SqL K H p ys ∧ ∀ l, H l = none → Q (.ref l) (upd H l (.tup ys))) ∨ (SqT K H p ys ∧ Q (.ref p) H))) dTupOf := by
  intro F H x u d Q s rx e k
  unfold dTupOf at e
  split at e
  · cases e
    obtain ⟨a, xs, rfl, h1, h2, h3⟩ := rx.lst s
    refine ⟨a, xs, rfl, .inl ⟨.inl (.inl h1), fun l hl => ?_⟩⟩
    obtain ⟨x, r⟩ := new_tup (mg := mg) s hl h2 h3
    exact k _ _ _ x r
  · cases e
    rcases rx with rx | ⟨o, a, q, _⟩
    · have rx' := rx
      obtain ⟨a, xs, rfl, h1, h2, h3⟩ := rx
      exact ⟨a, xs, rfl, .inr ⟨.inl (.inl (s _ _ h1)), k _ F H (Ext.refl s) rx'⟩⟩
    · cases o <;> cases q
  · cases e
theorem v_lstOf : VCall1P K mg (fun xs H Q => ∃ p ys, xs = [.ref p] ∧ (SqL K H p ys ∨ SqT K H p ys) ∧ ∀ l, H l = none → Q (.ref l) (upd H l (.lst ys))) dLstOf := by
  intro F H x u d Q s rx e k
  unfold dLstOf at e
  split at e
  · cases e
    obtain ⟨a, xs, rfl, h1, h2, h3⟩ := rx.lst s
    refine ⟨a, xs, rfl, .inl (.inl (.inl h1)), fun l hl => ?_⟩
    obtain ⟨x, r⟩ := new_lst (mg := mg) s hl h2 h3
    exact k _ _ _ x r
  · cases e
    obtain ⟨a, xs, rfl, h1, h2, h3⟩ := rx.tup s
    refine ⟨a, xs, rfl, .inr (.inl (.inl h1)), fun l hl => ?_⟩
    obtain ⟨x, r⟩ := new_lst (mg := mg) s hl h2 h3
    exact k _ _ _ x r
  · cases e
/-! ### min, max, sum, all -/
def dMax2 : List D → Option D
  | [.int i, .int j] => some (.int (if j > i then j else i))
  | _ => none
def dMin2 : List D → Option D
  | [.int i, .int j] => some (.int (if j < i then j else i))
  | _ => none
theorem repl2 {F : Hp} {x y : D} {us : List V} (h : RepL K mg F [x, y] us) : ∃ u v, us = [u, v] ∧ Rep K mg F x u ∧ Rep K mg F y v := by
  simp only [RepL] at h
  obtain ⟨u, r, rfl, h1, v, r2, rfl, h2, rfl⟩ := h
  exact ⟨u, v, rfl, h1, h2⟩
theorem v_max2 : VCall K mg (fun xs H Q => ∃ i j, xs = [V.int i, V.int j] ∧ Q (V.int (if j > i then j else i)) H) dMax2 := by
  intro F H xs us d Q s r e k
  unfold dMax2 at e
  split at e
  · cases e
    obtain ⟨u, v, rfl, h1, h2⟩ := repl2 r
    cases h1; cases h2
    exact ⟨_, _, rfl, k _ F H (Ext.refl s) rfl⟩
  · cases e
theorem v_min2 : VCall K mg (fun xs H Q => ∃ i j, xs = [V.int i, V.int j] ∧ Q (V.int (if j < i then j else i)) H) dMin2 := by
  intro F H xs us d Q s r e k
  unfold dMin2 at e
  split at e
  · cases e
    obtain ⟨u, v, rfl, h1, h2⟩ := repl2 r
    cases h1; cases h2
    exact ⟨_, _, rfl, k _ F H (Ext.refl s) rfl⟩
  · cases e
def intsOf : List D → Option (List Int)
  | [] => some []
  | .int i :: r => (intsOf r).map (i :: ·)
  | _ :: _ => none
def blsOf : List D → Option (List Bool)
  | [] => some []
  | .bl i :: r => (blsOf r).map (i :: ·)
  | _ :: _ => none
theorem intsOf_rep {F : Hp} : ∀ {ds : List D} {xs : List V} {ns : List Int}, RepL K mg F ds xs → intsOf ds = some ns → xs = ns.map V.int
  | [], xs, ns, h, e => by simp only [RepL] at h; subst h; cases e; rfl
  | .int i :: ds, xs, ns, h, e => by
    simp only [RepL] at h
    obtain ⟨x, r, rfl, h1, h2⟩ := h
    unfold intsOf at e
    cases q : intsOf ds with
    | none => rw [q] at e; cases e
    | some m =>
      rw [q] at e
      cases e
      have h1 : x = .int i := by simpa only [Rep] using h1
      rw [h1, intsOf_rep h2 q]; rfl
  | .non :: _, _, _, _, e => by cases e
  | .bl _ :: _, _, _, _, e => by cases e
  | .str _ :: _, _, _, _, e => by cases e
  | .tup _ :: _, _, _, _, e => by cases e
  | .lst _ :: _, _, _, _, e => by cases e
  | .dk _ _ :: _, _, _, _, e => by cases e
  | .dt _ _ :: _, _, _, _, e => by cases e
  | .ins _ _ _ :: _, _, _, _, e => by cases e
  | .scr _ :: _, _, _, _, e => by cases e
theorem blsOf_rep {F : Hp} : ∀ {ds : List D} {xs : List V} {ns : List Bool}, RepL K mg F ds xs → blsOf ds = some ns → xs = ns.map V.bl
  | [], xs, ns, h, e => by simp only [RepL] at h; subst h; cases e; rfl
  | .bl i :: ds, xs, ns, h, e => by
    simp only [RepL] at h
    obtain ⟨x, r, rfl, h1, h2⟩ := h
    unfold blsOf at e
    cases q : blsOf ds with
    | none => rw [q] at e; cases e
    | some m =>
      rw [q] at e
      cases e
      have h1 : x = .bl i := by simpa only [Rep] using h1
      rw [h1, blsOf_rep h2 q]; rfl
  | .non :: _, _, _, _, e => by cases e
  | .int _ :: _, _, _, _, e => by cases e
  | .str _ :: _, _, _, _, e => by cases e
  | .tup _ :: _, _, _, _, e => by cases e
  | .lst _ :: _, _, _, _, e => by cases e
  | .dk _ _ :: _, _, _, _, e => by cases e
  | .dt _ _ :: _, _, _, _, e => by cases e
  | .ins _ _ _ :: _, _, _, _, e => by cases e
  | .scr _ :: _, _, _, _, e => by cases e
def topOf : List Int → Int
  | [] => 0
  | [i] => i
  | i :: r => max i (topOf r)
def lowOf : List Int → Int
  | [] => 0
  | [i] => i
  | i :: r => min i (lowOf r)
theorem topOf_ok : ∀ {ns : List Int}, ns ≠ [] → topOf ns ∈ ns ∧ ∀ y ∈ ns, y ≤ topOf ns
  | [], h => absurd rfl h
  | [i], _ => by simp [topOf]
  | i :: j :: r, _ => by
    obtain ⟨h1, h2⟩ := topOf_ok (ns := j :: r) (by simp)
    show max i (topOf (j :: r)) ∈ _ ∧ _
    refine ⟨?_, fun y hy => ?_⟩
    · rcases Int.le_total i (topOf (j :: r)) with q | q
      · rw [Int.max_eq_right q]; exact List.mem_cons_of_mem _ h1
      · rw [Int.max_eq_left q]; exact List.mem_cons_self ..
    · show y ≤ max i (topOf (j :: r))
      rcases List.mem_cons.mp hy with rfl | hy
      · omega
      · have := h2 y hy; omega
theorem lowOf_ok : ∀ {ns : List Int}, ns ≠ [] → lowOf ns ∈ ns ∧ ∀ y ∈ ns, lowOf ns ≤ y
  | [], h => absurd rfl h
  | [i], _ => by simp [lowOf]
  | i :: j :: r, _ => by
    obtain ⟨h1, h2⟩ := lowOf_ok (ns := j :: r) (by simp)
    show min i (lowOf (j :: r)) ∈ _ ∧ _
    refine ⟨?_, fun y hy => ?_⟩
    · rcases Int.le_total i (lowOf (j :: r)) with q | q
      · rw [Int.min_eq_left q]; exact List.mem_cons_self ..
      · rw [Int.min_eq_right q]; exact List.mem_cons_of_mem _ h1
    · show min i (lowOf (j :: r)) ≤ y
      rcases List.mem_cons.mp hy with rfl | hy
      · omega
      · have := h2 y hy; omega
def onInts (f : List Int → Option D) : D → Option D
  | .lst xs => (intsOf xs).bind f
  | _ => none
theorem onInts_rep {F H : Hp} {f : List Int → Option D} {x : D} {u : V} {d : D} (s : Same F H) (rx : RepP K mg F H x u) (e : onInts f x = some d) : ∃ a ns, u = .ref a ∧ SqL K H a (ns.map V.int) ∧ f ns = some d := by
  unfold onInts at e
  split at e
  · rename_i xs
    obtain ⟨a, vs, rfl, h1, h2, h3⟩ := rx.lst s
    cases q : intsOf xs with
    | none => rw [q] at e; cases e
    | some ns =>
      rw [q] at e
      refine ⟨a, ns, rfl, ?_, e⟩
      rw [intsOf_rep h3 q] at h1
      exact .inl (.inl h1)
  · cases e
def dSum : D → Option D := onInts fun ns => some (.int ns.sum)
def dMaxL : D → Option D := onInts fun ns => if ns.isEmpty = false then some (.int (topOf ns)) else none
def dMinL : D → Option D := onInts fun ns => if ns.isEmpty = false then some (.int (lowOf ns)) else none
theorem v_sum : VCall1P K mg (rSum K) dSum := by
  intro F H x u d Q s rx e k
  obtain ⟨a, ns, rfl, h1, e⟩ := onInts_rep s rx e
  cases e
  exact ⟨a, ns, rfl, h1, k _ F H (Ext.refl s) rfl⟩
theorem ne_of_isEmpty {ns : List Int} (h : ns.isEmpty = false) : ns ≠ [] := fun z => by rw [z] at h; cases h
theorem v_maxL : VCall1P K mg (rMax K) dMaxL := by
  intro F H x u d Q s rx e k
  obtain ⟨a, ns, rfl, h1, e⟩ := onInts_rep s rx e
  split at e
  · rename_i hn
    cases e
    have hn := ne_of_isEmpty hn
    refine ⟨a, ns, rfl, h1, List.length_pos_iff.mpr hn, fun m hm hy => ?_⟩
    have e : m = topOf ns := Int.le_antisymm ((topOf_ok hn).2 m hm) (hy _ (topOf_ok hn).1)
    rw [e]
    exact k _ F H (Ext.refl s) rfl
  · cases e
theorem v_minL : VCall1P K mg (rMin K) dMinL := by
  intro F H x u d Q s rx e k
  obtain ⟨a, ns, rfl, h1, e⟩ := onInts_rep s rx e
  split at e
  · rename_i hn
    cases e
    have hn := ne_of_isEmpty hn
    refine ⟨a, ns, rfl, h1, List.length_pos_iff.mpr hn, fun m hm hy => ?_⟩
    have e : m = lowOf ns := Int.le_antisymm (hy _ (lowOf_ok hn).1) ((lowOf_ok hn).2 m hm)
    rw [e]
    exact k _ F H (Ext.refl s) rfl
  · cases e
def dAll : D → Option D
  | .lst xs => (blsOf xs).map fun bs => .bl (bs.all id)
  | _ => none
theorem v_all : VCall1P K mg (rAll K) dAll := by
  intro F H x u d Q s rx e k
  unfold dAll at e
  split at e
  · rename_i xs
    obtain ⟨a, vs, rfl, h1, h2, h3⟩ := rx.lst s
    cases q : blsOf xs with
    | none => rw [q] at e; cases e
    | some bs =>
      rw [q] at e
      cases e
      rw [blsOf_rep h3 q] at h1
      exact ⟨a, bs, rfl, .inl (.inl h1), k _ F H (Ext.refl s) rfl⟩
  · cases e
/-- a call of one thing or of two -/
def rMaxA (K : PySem.W.Frag) : List V → Hp → VK → Prop := fun xs H Q => (∃ i j, xs = [V.int i, V.int j] ∧ Q (V.int (if j > i then j else i)) H) ∨ rMax K xs H Q
def rMinA (K : PySem.W.Frag) : List V → Hp → VK → Prop := fun xs H Q => (∃ i j, xs = [V.int i, V.int j] ∧ Q (V.int (if j < i then j else i)) H) ∨ rMin K xs H Q
end
end DL
namespace DL
open PySem PySem.Spec PyProof.Rows L2
/-! ### defs that may ask for repr: no guard stands above -/
structure FnOkG (P : Program) (w : World) (K : PySem.W.Frag) (mg : Str → Option Value) (base : Heap) (CX : CXT) (k : Nat) (f : Addr) (fd : FuncData) (ps : List Str) (sp : Sp) : Prop where
  len : ∀ vs H Q E, sp vs H Q E → vs.length = ps.length
  run : ∀ (A : Around) (outer : List Env) (s : Shared) (H : Hp) (args : Args) (us : List Value) (vs : List V) (Q : VK) (E : XK), Room k A → A.guards = some [] → Env0 P w K mg base A outer s H → BindsTo s fd args (ps.zip us) → Vals vs us → sp vs H Q E →
    codeAny (model P w) A (.call (.ref f) args) (CR CX outer P w H s Q E) s
theorem FnOk.toG {P : Program} {w : World} {K : PySem.W.Frag} {mg : Str → Option Value} {base : Heap} {CX : CXT} {k : Nat} {f : Addr} {fd : FuncData} {ps : List Str} {sp : Sp} (F : FnOk P w K mg base CX k f fd ps sp) : FnOkG P w K mg base CX k f fd ps sp :=
  ⟨F.len, fun A outer s H args us vs Q E hr _ => F.run A outer s H args us vs Q E hr⟩
theorem FnOkG.mono {P : Program} {w : World} {K : PySem.W.Frag} {mg : Str → Option Value} {base : Heap} {CX : CXT} {j k : Nat} {f : Addr} {fd : FuncData} {ps : List Str} {sp : Sp} (F : FnOkG P w K mg base CX j f fd ps sp) (h : j ≤ k) : FnOkG P w K mg base CX k f fd ps sp :=
  ⟨F.len, fun A outer s H args us vs Q E hr => F.run A outer s H args us vs Q E (hr.mono h)⟩
theorem fn_ofG {CX : CXT} {P : Program} {w : World} {K : PySem.W.Frag} {mg : Str → Option Value} {base : Heap} {k : Nat} {f : Addr} {name qual : Str} {params : Arguments} {body : List Stmt} {scope : Scope} {dV kV doc pm cdv ct oc : Value} {an od : Option Addr}
    {osl : Array (Option Value)} {N ps : List Str} {sp : Sp} (lk : K.lookup f = some ⟨oc, od, .func (PySem.W.fnOf name qual params body scope dV kV doc pm an cdv ct), osl⟩) (hcd : PySem.W.codeIn K cdv qual = true) (S : FnScope N ps scope)
    (len : ∀ vs H Q E, sp vs H Q E → vs.length = ps.length)
    (hbody : ∀ (A : Around) (outer : List Env) (s : Shared) (H : Hp) (vs : List V) (Q : VK) (E : XK), Room k (A.deeper (envOfC qual scope s.heap.objs.size f cdv)) → (A.deeper (envOfC qual scope s.heap.objs.size f cdv)).guards = some [] → sp vs H Q E →
      ∃ t, PSs (cxOf CX P w K mg base N qual scope f cdv A outer s H E) body t ∧ t { nx := fun _ H' => Q .non H', rt := Q } (start N vs) H) :
    FnOkG P w K mg base CX (k + 1) f (PySem.W.fnOf name qual params body scope dV kV doc pm an cdv ct) ps sp := by
  refine ⟨len, fun A outer s H args us vs Q E hr hG e0 hb r hsp => ?_⟩
  have hl := len _ _ _ _ hsp
  have KX : K.In s.heap := e0.mod.kin.keeps fun b o e => (e0.bs b o e).1
  have lim : s.heap.NoLimit := e0.mod.nolimit.keeps fun b o e => (e0.bs b o e).1
  have hkind : ∀ y ∈ ps.zip us, scope.names.lookup y.1 = some .local ∨ (scope.names.lookup y.1 = some .cell ∧ ((cellsFrom (s.heap.objs.size + 1) scope.names []).lookup y.1).isSome = true) := fun ⟨n, v⟩ hy => by
    rcases S.par n (List.of_mem_zip hy).1 with q | q
    · exact .inl q
    · exact .inr ⟨q, PySem.W.cellsFrom_some _ _ _ (.inl q)⟩
  refine codeAny_call_function hr.depth (KX _ _ lk) rfl S.co S.gen rfl (PySem.W.codeRec_of KX hcd) (hb _ _ _ _ ?_)
  refine wpAny_newFunctionEnv_cells S.kind hkind fun env he s1 x => ?_
  subst he
  refine ⟨lim.keeps x.toInCall.keep, codeAny_func ?_⟩
  obtain ⟨t, ht, hq⟩ := hbody A outer s H vs Q E (hr.deeper _) hG hsp
  have I : Inv (cxOf CX P w K mg base N qual scope f cdv A outer s H E) [] (start N vs) H s1 := inv_start S hr.hd e0 hl r x
  refine wpAny_mono (ht.run [] s1 (start N vs) H _ I hq) (fun fl s' hs => ?_) fun e s' hs => hs
  have fin : ∀ {σ' : L2.St} {H' : Hp} {v : V} {u : Value}, Inv (cxOf CX P w K mg base N qual scope f cdv A outer s H E) [] σ' H' s' → RelV v u → Q v H' → CE outer P w H s Q u s' :=
    fun {σ' H' v u} J rv q => ⟨v, H', J.os, J.bare, J.base, J.hok, rv, q⟩
  cases fl with
  | ret u =>
    obtain ⟨v, σ', H', J, rv, q⟩ := hs
    exact fin J rv q
  | next =>
    obtain ⟨σ', H', J, q⟩ := hs
    exact fin (v := V.non) (u := Value.none) J rfl q
  | brk =>
    obtain ⟨_, _, _, q⟩ := hs
    exact False.elim q
  | cont =>
    obtain ⟨_, _, _, q⟩ := hs
    exact False.elim q
section
variable {P : Program} {w : World} {K : PySem.W.Frag} {mg : Str → Option Value} {base : Heap}
theorem fn_okG {x qual : Str} {params : Arguments} {body : List Stmt} {scope : Scope} {dvs : List V} {kws : List (Str × V)} {f : Addr} {fd : FuncData} {N ps : List Str} {k : Nat} (F : FunD K x qual params body scope dvs kws f fd) (S : FnScope N ps scope) (L : List Nat) (m : M Fl)
    (hb : ∀ (cdv : Value) (A : Around) (outer : List Env) (s : Shared) (H : Hp) (E : XK), Room k (A.deeper (envOfC qual scope s.heap.objs.size f cdv)) → (A.deeper (envOfC qual scope s.heap.objs.size f cdv)).guards = some [] →
      DSs (cxOf (L2.CX P w) P w K mg base N qual scope f cdv A outer s H E) (fun cls d _ H => E cls d H) L body m) : FnOkG P w K mg base (L2.CX P w) (k + 1) f fd ps (spD K mg (semOf ps.length N.length L m)) := by
  obtain ⟨oc, od, dV, kV, doc, pm, an, cdv, ct, osl, rfl, lk, hcd, _, _⟩ := F.ex
  refine fn_ofG lk hcd S (fun vs H Q E h => ?_) fun A outer s H vs Q E hr hG h => ?_
  · obtain ⟨F0, ps0, R, q⟩ := h
    have hl0 : ps0.length = vs.length := by rw [R.len, List.length_map]
    unfold semOf at q
    by_cases ok : (Nat.beq ps0.length ps.length && okPs L 0 ps0) = true
    · rw [← hl0]
      exact Nat.eq_of_beq_eq_true (Bool.and_eq_true_iff.mp ok).1
    · rw [if_neg ok] at q
      exact False.elim q
  obtain ⟨t, p, ht⟩ := hb cdv A outer s H E hr hG
  refine ⟨t, p, ?_⟩
  obtain ⟨F0, ps0, R, q⟩ := h
  have hl0 : ps0.length = vs.length := by rw [R.len, List.length_map]
  obtain ⟨R1, o1⟩ := R.open_ N.length
  have st : start N vs = vs.map some ++ List.replicate (N.length - vs.length) none := rfl
  rw [st]
  refine ht F0 H _ _ _ R1 ?_
  show OkS K mg _ L _ _ F0 H _ _
  unfold semOf at q
  by_cases ok : (Nat.beq ps0.length ps.length && okPs L 0 ps0) = true
  · rw [if_pos ok] at q
    have ok := (Bool.and_eq_true_iff.mp ok).2
    have tr : ∀ {A A' : Addr → Prop} {F' H' : Hp}, Tr (Own (ps0 ++ List.replicate (N.length - ps0.length) .un) (vs.map some ++ List.replicate (N.length - vs.length) none)) F0 H A F' H' → (∀ a, A' a → A a) → Tr (Own ps0 (vs.map some)) F0 H A' F' H' := fun {A A' F' H'} t h =>
      ⟨t.fz, fun b o e n => t.keep b o e fun z => n ((o1 b).mp z), fun b e => (t.new b e).elim .inl fun z => z.elim (fun z => .inr (.inl z)) fun z => .inr (.inr ((o1 b).mp z)), t.dom, fun b e => (t.sub b (h b e)).elim (fun z => .inl ((o1 b).mp z)) .inr⟩
    cases e : m (ps0 ++ List.replicate (N.length - ps0.length) .un) with
    | bad => rw [e] at q; exact q
    | ex x σ' =>
      rw [e] at q
      intro cls dd τ' F' H' R' l t er
      obtain ⟨R2, o2⟩ := R.close t.fz ok R' l
      exact q cls dd F' H' R2 (tr t o2) er
    | ok f σ' =>
      rw [e] at q
      cases f with
      | bk => exact False.elim q
      | ct => exact False.elim q
      | nx =>
        intro τ' F' H' R' l t
        obtain ⟨R2, o2⟩ := R.close t.fz ok R' l
        exact q .non F' H' R2 rfl (fun _ ⟨⟨_, z⟩, _⟩ => nomatch z) (tr t o2).orR
      | rt r =>
        intro v τ' F' H' R' l rp nd t
        obtain ⟨R2, o2⟩ := R.close t.fz ok R' l
        exact q v F' H' R2 rp (fun a ha hb => nd a ha (o2 a hb)) (tr t fun a ha => ha.elim (fun z => .inl (o2 a z)) .inr)
  · rw [if_neg ok] at q
    exact False.elim q
end
section
variable {X : Cx} {W : WX} {e : Expr} {es : List Expr} {ml : M (List D)} {x : Str} {p pos : Pos} {k : Nat} {f : Addr} {fd : FuncData} {ps : List Str} {sem : List Sl → Res Sl} {CX : CXT} {sp : Sp} {dvs : List V} {ds : List Value} {t : TA} {E : L2.St → XK}
theorem run_fnG {pins : List (Addr × Obj)} {σ : L2.St} {H : Hp} {s : Shared} {Q : VK} {us : List Value} {vs : List V} (F : FnOkG X.prog X.w X.K X.mg X.base CX k f fd ps sp) (hr : Room k X.A) (hG : X.A.guards = some []) (hb : Binds X.K fd ps ds) (hd : Vals dvs ds) (hx : PassesAt CX X σ (E σ))
    (I : Inv X pins σ H s) (r : Vals vs us) (h : sp (vs ++ dvs) H Q (E σ)) : wpAny (model X.prog X.w) X.A (call (.ref f) us) (EP X pins σ Q) X.xe s := by
  have r2 : Vals (vs ++ dvs) (us ++ ds) := r.append hd
  have hl : (us ++ ds).length = ps.length := by rw [← r2.length]; exact F.len _ _ _ _ h
  refine wpAny_call (codeAny_mono (F.run X.A X.stack s H ⟨us, []⟩ (us ++ ds) (vs ++ dvs) Q (E σ) hr hG I.env0 (hb s us I.kIn hl) r2 h) fun r s' hq => ?_)
  cases r with
  | error e => exact hx pins H s e s' I hq
  | ok fl =>
    cases fl with
    | ret u => exact I.after hq
    | next => exact False.elim hq
    | brk => exact False.elim hq
    | cont => exact False.elim hq
theorem pe_callG (F : FnOkG X.prog X.w X.K X.mg X.base CX k f fd ps sp) (hr : Room k X.A) (hG : X.A.guards = some []) (hg : Gl X x) (hm : X.mg x = some (.ref f)) (hk : PySem.W.keepIn X.K (.ref f) = true) (hb : Binds X.K fd ps ds) (hd : Vals dvs ds) (hx : ∀ σ, PassesAt CX X σ (E σ))
    (ha : PA X (e :: es) t) (hdb : (x == ("__debug__" : Str)) = false := by decide) (he : starEach (e :: es) X.env = (false, eval e X.env) :: starEach es X.env := by rfl) (hpl : (backTo pos (starEach es X.env)).any (·.1) = false := by rfl) :
    PE X (.Call (.Name x p) (e :: es) [] pos) (tCallSD sp dvs E t) := by
  refine ⟨fun pins s σ H Q I h => ?_⟩
  refine wpAny_Call_Name_kw (ld_glob I hg hm ?_ hdb)
  refine PySem.W.callWith_K (h₀ := X.base) I.ok.mod.kin hk (thn (ha.run pos pins s σ H _ I h) fun us s1 ⟨vs, H1, I1, r, q⟩ => ⟨I1.kIn, ?_⟩) he hpl
  exact run_fnG F hr hG hb hd (hx σ) I1 r q
theorem do_callG (G : FnOkG X.prog X.w X.K X.mg X.base (L2.CX X.prog X.w) k f fd ps (spD X.K X.mg sem)) (hr : Room k X.A) (hG : X.A.guards = some []) (hg : Gl X x) (hm : X.mg x = some (.ref f)) (hk : PySem.W.keepIn X.K (.ref f) = true) (hb : Binds X.K fd ps []) (tk : Takes X W)
    (ha : DA X W (e :: es) ml) (hdb : (x == ("__debug__" : Str)) = false := by decide +kernel) (he : starEach (e :: es) X.env = (false, eval e X.env) :: starEach es X.env := by rfl) (hpl : (backTo pos (starEach es X.env)).any (·.1) = false := by rfl) :
    DO X W (.Call (.Name x p) (e :: es) [] pos) (semC sem ml) := by
  obtain ⟨t, q, ha⟩ := ha
  refine ⟨_, pe_callG G hr hG hg hm hk hb .nil (fun σ => passAt tk σ) q hdb he hpl, fun F H σ τ Q R h => ?_⟩
  refine ha F H σ τ _ R (dak h fun ds σ1 vs F1 H1 R1 r1 h => ?_)
  rw [List.append_nil]
  exact spD_d R1 r1 h
theorem do_callG0 (G : FnOkG X.prog X.w X.K X.mg X.base (L2.CX X.prog X.w) k f fd ps (spD X.K X.mg sem)) (hr : Room k X.A) (hG : X.A.guards = some []) (hg : Gl X x) (hm : X.mg x = some (.ref f)) (hk : PySem.W.keepIn X.K (.ref f) = true) (hb : Binds X.K fd ps []) (tk : Takes X W)
    (hdb : (x == ("__debug__" : Str)) = false := by decide +kernel) : DO X W (.Call (.Name x p) [] [] pos) (semC sem evNil) := by
  refine ⟨fun σ H Q => spD X.K X.mg sem ([] ++ []) H Q (WE W σ), ⟨fun pins s σ H Q I h => ?_⟩, fun F H σ τ Q R h => ?_⟩
  · refine wpAny_Call_Name_kw (ld_glob I hg hm ?_ hdb)
    exact PySem.W.callWith_K0 I.kIn hk (run_fnG (us := []) (E := WE W) G hr hG hb .nil (passAt tk σ) I .nil h)
  · exact spD_d (ds := []) R (by simp [RepL]) h
theorem do_callIOG (j : Nat) {y : Str} {py : Pos} (G : FnOkG X.prog X.w X.K X.mg X.base (L2.CX X.prog X.w) k f fd ps (spD X.K X.mg sem)) (hr : Room k X.A) (hG : X.A.guards = some []) (hg : Gl X x) (hm : X.mg x = some (.ref f)) (hk : PySem.W.keepIn X.K (.ref f) = true) (hb : Binds X.K fd ps []) (tk : Takes X W)
    (hN : X.N[j]? = some y) (hv : Vis X.env.scope y) (ha : DA X W es ml) (hdy : (y == ("__debug__" : Str)) = false := by decide +kernel) (hcy : (y == ("__classdict__" : Str)) = false := by decide +kernel)
    (hdb : (x == ("__debug__" : Str)) = false := by decide +kernel) (he : starEach (.Name y py :: es) X.env = (false, eval (.Name y py) X.env) :: starEach es X.env := by rfl) (hpl : (backTo pos (starEach es X.env)).any (·.1) = false := by rfl) :
    DO X W (.Call (.Name x p) (.Name y py :: es) [] pos) (semIO sem j ml) := by
  obtain ⟨t, q, ha⟩ := ha
  refine ⟨_, pe_callG G hr hG hg hm hk hb .nil (fun σ => passAt tk σ) (pa_cons (pe_var hN hv hdy hcy) q he) hdb he hpl, fun F H σ τ Q R h => ?_⟩
  unfold semIO at h
  by_cases hs : isSet σ j = true
  case neg => rw [if_neg hs] at h; exact False.elim h
  rw [if_pos hs] at h
  have core : ∀ v0, τ[j]? = some (some v0) → t τ H (fun xs H2 => spD X.K X.mg sem ((v0 :: xs) ++ []) H2 Q (WE W τ)) := fun v0 et => by
    refine ha F H σ τ _ R (dak h fun ds σ1 vs F1 H1 R1 r1 h => ?_)
    rw [List.append_nil]
    unfold semIO1 at h
    cases e : σ1[j]? with
    | none => rw [e] at h; exact False.elim h
    | some s =>
      rw [e] at h
      cases s with
      | un => exact False.elim h
      | o o => exact spD_io R1 r1 e et h
      | d x =>
        obtain ⟨v, h1, h2⟩ := R1.val j x e
        rw [et] at h1
        cases h1
        exact spD_d (ds := x :: ds) R1 (by simp only [RepL]; exact ⟨v0, vs, rfl, h2, r1⟩) h
  obtain ⟨v0, et⟩ := R.isSet hs
  exact ⟨v0, et, core v0 et⟩
end
/-! ### the end: the law's call -/
theorem law_callG {P : Program} {w : World} {K : PySem.W.Frag} {mg mb : Str → Option Value} {CX : CXT} {k : Nat} {fa a : Addr} {fd : FuncData} {x : Str} {sp : Sp} {s₁ : Shared} {vs : List Value} {ns : List Int}
    (KX : K.In s₁.heap) (hns : s₁.heap.Ns mainGlobals mg) (hb : s₁.heap.Ns builtinsNs mb) (hbb : ∀ x : Str, x ≠ "__name__" → mb x = bootBuiltins x) (hlim : s₁.heap.NoLimit) (hg : s₁.gens = #[])
    (ha : s₁.heap.get? a = some { cls := .type "list", data := .seq vs.toArray }) (hi : IntsAre vs ns) (hl : ns.length ≤ sizeLine) (hr : Room k callerA)
    (F : ∀ base : Heap, K.In base → base.Ns mainGlobals mg → FnOkG P w K mg base CX k fa fd [x] sp) (hbind : ∀ (s : Shared) (u : Value), BindsTo s fd ⟨[u], []⟩ [(x, u)])
    (hsp : ∀ H : Hp, Only H → SqL K H a (ns.map V.int) → sp [.ref a] H (fun v _ => v = .bl true) fun _ _ _ => False)
    (hCX : ∀ H e s', CX [] H s₁ (fun _ _ _ => False) e s' → False) :
    codeAny (model P w) callerA (.call (.ref fa) ⟨[.ref a], []⟩) (fun r s' => r = .ok (.ret (.bool true)) ∧ OldK s₁.heap s'.heap ∧ s'.os = s₁.os ∧ AllBare s'.gens) s₁ := by
  have rv := vals_ints hi
  have lenV := hi.length
  have core : ∀ H : Hp, Only H → SqL K H a (ns.map V.int) → HOk P w H s₁.heap → (∀ b, H b ≠ none → b = a) → (H a ≠ none → K.lookup a = none) →
      codeAny (model P w) callerA (.call (.ref fa) ⟨[.ref a], []⟩) (fun r s' => r = .ok (.ret (.bool true)) ∧ OldK s₁.heap s'.heap ∧ s'.os = s₁.os ∧ AllBare s'.gens) s₁ := by
    intro H hO hS hok hA hK
    have base_of : ∀ {b : Addr} {o : Obj}, s₁.heap.get? b = some o → H b = none → (hidT s₁.heap H).get? b = some o := fun e n => hidT_get e n
    have noA : ∀ {b : Addr} {o : Obj} {es : Array DictEntry} {ep : Nat}, s₁.heap.get? b = some o → o.data = .dict es ep → H b = none := fun {b o es ep} e d => by
      cases q : H b with
      | none => rfl
      | some u =>
        have e' : b = a := hA b (by rw [q]; simp)
        subst e'
        rw [ha] at e; cases e
        have d' : Data.seq vs.toArray _ = Data.dict es ep := d
        cases d'
    have nsK : ∀ {b : Addr} {m : Str → Option Value}, s₁.heap.Ns b m → (hidT s₁.heap H).Ns b m := fun {b m} ⟨o, es, ep, e, d, r⟩ => ⟨o, es, ep, base_of e (noA e d), d, r⟩
    have hKb : K.In (hidT s₁.heap H) := fun b o e => base_of (KX b o e) (by
      cases q : H b with
      | none => rfl
      | some u =>
        have e' : b = a := hA b (by rw [q]; simp)
        subst e'
        rw [hK (by rw [q]; simp)] at e; cases e)
    have hM : Mod K mg (hidT s₁.heap H) := ⟨hKb, nsK hns, ⟨mb, nsK hb, hbb⟩, let ⟨mc, h1, h2⟩ := hlim; ⟨mc, nsK h1, h2⟩⟩
    have e0 : Env0 P w K mg (hidT s₁.heap H) callerA [] s₁ H := ⟨rfl, hM, fun b o e => of_hidT e, Nat.le_of_eq (hidT_size _ _), trivial, fun b hb => absurd (show b ∈ ([] : List Addr) from hb) (by simp), hok, .of_eq hg⟩
    refine codeAny_mono ((F _ hKb (nsK hns)).run callerA [] s₁ H ⟨[.ref a], []⟩ [.ref a] [.ref a] _ _ hr rfl e0 (hbind s₁ (.ref a)) (.cons rfl .nil) (hsp H hO hS)) fun r s' h => ?_
    cases r with
    | error e => exact (hCX H e s' h).elim
    | ok fl =>
      cases fl with
      | next => exact False.elim h
      | brk => exact False.elim h
      | cont => exact False.elim h
      | ret u =>
        obtain ⟨v, H', os, bare, un, hok', r', q⟩ := h
        have q' : v = .bl true := q
        subst q'
        obtain rfl : u = Value.bool true := r'
        refine ⟨rfl, OldK.of_keep fun b o e => ?_, os, bare⟩
        cases q : H b with
        | none => exact un.keep b o e q (by intro z; exact absurd (show b ∈ ([] : List Addr) from z) (by simp)) (by simp)
        | some u =>
          rcases hO b with z | ⟨ob, xs, z⟩
          · rw [q] at z; cases z
          · have z2 := un.frzs b ob _ z
            obtain ⟨e1, _⟩ := hok b _ z
            obtain ⟨e2, _⟩ := hok' b _ z2
            rw [e] at e1; cases e1
            exact e2
  cases hk : K.lookup a with
  | some o =>
    have e := KX a o hk
    rw [ha] at e
    cases e
    refine core (fun _ => none) (fun _ => .inl rfl) (.inr ⟨_, vs.toArray, _, hk, rfl, rfl, rfl, by rw [List.size_toArray, lenV]; exact hl, by simpa using rv⟩) (fun b u z => by have z' : (none : Option HO) = some u := z; cases z') (fun b z => absurd rfl z) fun z => absurd rfl z
  | none =>
    refine core (fun b => if b = a then some (.frz { cls := .type "list", data := .seq vs.toArray } (.lst (ns.map V.int))) else none) (fun b => ?_) (.inl (.inr ⟨{ cls := .type "list", data := .seq vs.toArray }, if_pos rfl⟩)) (fun b u z => ?_) (fun b z => ?_) fun _ => hk
    · by_cases hb : b = a
      · exact .inr ⟨_, _, if_pos hb⟩
      · exact .inl (if_neg hb)
    · by_cases hb : b = a
      · have z' := (if_pos hb).symm.trans z
        cases z'
        subst hb
        exact ⟨ha, by rw [List.length_map]; exact hl, vs, _, rv, ha⟩
      · have z' := (if_neg hb).symm.trans z
        cases z'
    · by_cases hb : b = a
      · exact hb
      · exact absurd (if_neg hb) z
theorem walk_ofG {l : PySem.W.OpenLaw} {n k : Nat} {q : Program} {loose : List Str} {XP : (Str → Option Value) → Heap → Prop} {YP : World → Heap → Prop} {d : DefRec} {CX : World → CXT} {x : Str}
    (hn : l.most = some n) (hn2 : n ≤ sizeLine) (hdf : d.params.defaults = []) (hr : Room k callerA)
    (F : ∀ (w : World) (mg : Str → Option Value) (fa : Addr) (h : Heap), YP w h → h.Ns mainGlobals mg → mg d.name = some (.ref fa) →
      ∃ (K : PySem.W.Frag) (fd : FuncData) (sp : Sp), K.In h ∧ (∀ (s : Shared) (u : Value), BindsTo s fd ⟨[u], []⟩ [(x, u)]) ∧
        (∀ (H : Hp) (a : Addr) (ns : List Int), ns.length ≤ n → Only H → SqL K H a (ns.map V.int) → sp [.ref a] H (fun v _ => v = .bl true) fun _ _ _ => False) ∧
        ∀ base : Heap, K.In base → base.Ns mainGlobals mg → FnOkG l.prog w K mg base (CX w) k fa fd [x] sp)
    (hCX : ∀ (w : World) (H : Hp) (s : Shared) (e : Value) (s' : Shared), CX w [] H s (fun _ _ _ => False) e s' → False) :
    PySem.W.WalkO q loose XP YP l.row.toRowW d [] (fun f vs => PySem.call f vs) := by
  refine Att.attach_call hn hdf fun w s₀ s₁ mg mb fa o pm cd doc a vs ns G Y ho hd hcd hmg hobj hints hlen hg => ?_
  obtain ⟨K, fd, sp, KX, hb, hsp, hF⟩ := F w mg fa _ Y G.T.g hmg
  exact law_callG KX G.T.g G.T.b G.T.builtins G.T.nolimit hg hobj hints (Nat.le_trans hlen hn2) hr hF hb (fun H hO hS => hsp H a ns hlen hO hS) fun H e s' => hCX w H s₁ e s'
/-- the law's semantics answers True: its promise at the script -/
theorem law_sp {K : PySem.W.Frag} {mg : Str → Option Value} {sem : List Sl → Res Sl} {H : Hp} {a : Addr} {ns : List Int} {σ : List Sl} (hO : Only H) (hS : SqL K H a (ns.map V.int)) (h : sem [.d (.scr ns)] = .ok (.d (.bl true)) σ) :
    spD K mg sem [.ref a] H (fun v _ => v = .bl true) fun _ _ _ => False := by
  have R : Rl K mg H H [.d (.scr ns)] ([V.ref a].map some) := by
    refine ⟨rfl, Same.refl _, fun i x e => ?_, fun i o e => ?_, fun i j o o' b e => ?_⟩
    · cases i with
      | zero => cases e; exact ⟨.ref a, rfl, a, rfl, hS⟩
      | succ i => cases e
    · cases i with
      | zero => cases e
      | succ i => cases e
    · cases i with
      | zero => cases e
      | succ i => cases e
  refine ⟨H, _, R, ?_⟩
  rw [h]
  intro v F' H' _ r _ _
  exact r
/-! ### repr -/
def dRepr (d : D) : Option D := if plain d && PyData.showable (toPy d) && !PyData.hasDict (toPy d) && Nat.ble (PyData.depth (toPy d)) 50 && Nat.ble (PyData.shown (toPy d)).length szMax then some (.str (PyData.shown (toPy d))) else none
def rRepr (K : PySem.W.Frag) : List V → Hp → VK → Prop := fun xs H Q => ∃ v d, xs = [v] ∧ Dp K H v d ∧ PyData.showable d = true ∧ PyData.hasDict d = false ∧ PyData.depth d ≤ 50 ∧ (PyData.shown d).length ≤ sizeLine ∧ Q (.str (PyData.shown d)) H
theorem call_reprD {X : Cx} {k : Nat} (hr : Room k X.A) (hG : X.A.guards = some []) : CallR X (.builtin "repr") (rRepr X.K) := by
  intro pins s σ H xs us Q I r h
  obtain ⟨v, d, rfl, hd, hs, hn, hdp, hz, q⟩ := h
  obtain ⟨u, rfl, ru⟩ := r.one
  obtain ⟨as, r1⟩ := Dp.reads I d v u hd ru
  have fin : ∀ tk u', EP X pins σ Q (.str (PyData.shown d) u') { s with toks := tk } := fun tk u' => ⟨.str (PyData.shown d), H, I.tok tk, ⟨u', rfl⟩, q⟩
  have un := hr.units
  have ref : ∀ a, u = .ref a → wpAny (model X.prog X.w) X.A (call (.builtin "repr") [u]) (EP X pins σ Q) X.xe s := fun a e => by
    subst e
    exact repr_of_reads' r1 hs (PyData.noDict_hsm hn) hG (by omega) (fun _ _ e => e) (fun h' t tk hk => ⟨.str (PyData.shown d), H, I.kept hk, ⟨t, rfl⟩, q⟩) hz
  cases r1 with
  | none => exact P.repr_of_none (fin _ _)
  | bool b => exact P.repr_of_bool (fin _ _)
  | int i t => exact P.repr_of_int (of_decide_eq_true hs) (fin _ _)
  | str x t => exact P.repr_of_str (fin _ _) hz
  | list _ _ _ _ => exact ref _ rfl
  | tuple _ _ _ _ => exact ref _ rfl
  | dict _ _ _ _ _ => cases hn
theorem v_repr {K : PySem.W.Frag} {mg : Str → Option Value} : VCall K mg (rRepr K) (f1 dRepr) := by
  intro F H xs us d Q s r e k
  unfold f1 at e
  split at e
  · rename_i x
    simp only [RepL] at r
    obtain ⟨u, r1, rfl, h1, rfl⟩ := r
    unfold dRepr at e
    split at e
    · rename_i hc
      cases e
      simp only [Bool.and_eq_true, Bool.not_eq_true'] at hc
      obtain ⟨⟨⟨⟨c1, c2⟩, c3⟩, c4⟩, c5⟩ := hc
      exact ⟨u, toPy x, rfl, Dp.same s _ _ (Rep.dp c1 h1), c2, c3, Nat.le_of_ble_eq_true c4, sz_ok (Nat.le_of_ble_eq_true c5), k _ F H (Ext.refl s) rfl⟩
    · cases e
  · cases e
end DL
namespace DL
open PySem PySem.Spec PyProof.Rows L2
/-! ### a slot's own list grows, shrinks -/
def isLstO (σ : List Sl) (j : Nat) : Bool := match σ[j]? with
  | some (.o (.lst _)) => true
  | some (.d (.lst _)) => true
  | _ => false
theorem Rl.isLst {K : PySem.W.Frag} {mg : Str → Option Value} {F H : Hp} {σ : List Sl} {τ : List (Option V)} (R : Rl K mg F H σ τ) {j : Nat} (h : isLstO σ j = true) : ∃ a xs, τ[j]? = some (some (.ref a)) ∧ H a = some (.lst xs) := by
  unfold isLstO at h
  split at h
  · rename_i ds e
    obtain ⟨a, h1, h2, _⟩ := R.own j _ e
    obtain ⟨xs, h3, _⟩ := h2
    exact ⟨a, xs, h1, h3⟩
  · rename_i ds e
    obtain ⟨v, h1, h2⟩ := R.val j _ e
    obtain ⟨a, xs, rfl, h3, _⟩ := h2
    exact ⟨a, xs, h1, R.same _ _ h3⟩
  · cases h
def appD (ds : List D) (xs : List D) : Option (List D) := match xs with
  | [y] => if ds.length + 1 ≤ szMax then some (ds ++ [y]) else none
  | _ => none
def extD (ds : List D) (xs : List D) : Option (List D) := match xs with
  | [.lst ys] => if ds.length + ys.length ≤ szMax then some (ds ++ ys) else none
  | _ => none
def evMut (f : List D → List D → Option (List D)) (j : Nat) (ml : M (List D)) : M D := fun σ => if isLstO σ j = true then (ml.bind fun xs => fun σ => match σ[j]? with
  | some (.o (.lst ds)) => (match f ds xs with
    | some r => .ok .non (σ.set j (.o (.lst r)))
    | none => .bad)
  | _ => .bad) σ else .bad
/-- what such a method does -/
def VMut (K : PySem.W.Frag) (mg : Str → Option Value) (r : V → List V → Hp → VK → Prop) (f : List D → List D → Option (List D)) : Prop :=
  ∀ (F H : Hp) (ds xs z : List D) (a : Addr) (us vs : List V) (Q : VK), Same F H → F a = none → H a = some (.lst vs) → vs.length ≤ sizeLine → RepL K mg F ds vs → RepL K mg F xs us → f ds xs = some z →
    (∀ ws, ws.length ≤ sizeLine → RepL K mg F z ws → Q .non (upd H a (.lst ws))) → r (.ref a) us H Q
theorem v_append {K : PySem.W.Frag} {mg : Str → Option Value} : VMut K mg rAppend appD := by
  intro F H ds xs z a us vs Q s fa ha hz r rx e k
  unfold appD at e
  split at e
  · split at e
    · rename_i y hl
      cases e
      simp only [RepL] at rx
      obtain ⟨u, r1, rfl, h1, rfl⟩ := rx
      have l := r.len
      have z1 := sz_ok hl
      refine ⟨a, vs, u, rfl, rfl, ha, by omega, k _ ?_ ?_⟩
      · rw [List.length_append, List.length_cons, List.length_nil]; omega
      · exact r.append (by simp only [RepL]; exact ⟨u, [], rfl, h1, rfl⟩)
    · cases e
  · cases e
theorem v_extend {K : PySem.W.Frag} {mg : Str → Option Value} : VMut K mg rExtend extD := by
  intro F H ds xs z a us vs Q s fa ha hz r rx e k
  unfold extD at e
  split at e
  · split at e
    · rename_i ys hl
      cases e
      simp only [RepL] at rx
      obtain ⟨u, r1, rfl, h1, rfl⟩ := rx
      obtain ⟨b, zs, rfl, h2, h3, h4⟩ := h1
      have l := r.len
      have l2 := h4.len
      have z1 := sz_ok hl
      refine ⟨a, b, vs, zs, rfl, rfl, ha, s _ _ h2, by omega, k _ ?_ (r.append h4)⟩
      rw [List.length_append]; omega
    · cases e
  · cases e
section
variable {X : Cx} {W : WX} {e o : Expr} {es : List Expr} {ml : M (List D)} {ma mb : M D} {L : List Nat}
theorem do_mut (j : Nat) {x name : Str} {px apos cpos : Pos} {id : String} {r : V → List V → Hp → VK → Prop} {f : List D → List D → Option (List D)} (slot : Slot "list" name id) (hty : typeOf (.builtin id) = pure (.type "method_descriptor")) (hm : MtR X id r) (hv : VMut X.K X.mg r f)
    (hN : X.N[j]? = some x) (hvi : Vis X.env.scope x) (ha : DA X W (e :: es) ml) (hd : (x == ("__debug__" : Str)) = false := by decide +kernel) (hcd : (x == ("__classdict__" : Str)) = false := by decide +kernel)
    (hbase : attributeBase (.Name x px) name X.env (eval (.Name x px) X.env) = eval (.Name x px) X.env := by rfl)
    (hfew : ((backTo cpos (starEach (e :: es) X.env)).all (fun x => !x.1) && (backToKw cpos (keywordEach [] X.env)).all (fun x => x.1.isSome)
      && decide ((e :: es).length + ([] : List Keyword).length + (if ([] : List Keyword).isEmpty then 0 else 1) < 30)) = true := by rfl)
    (hline : (apos.endLine == cpos.line) = true := by rfl) (hs : starEach (e :: es) X.env = (false, eval e X.env) :: starEach es X.env := by rfl) (hplain : (backTo cpos (starEach es X.env)).any (·.1) = false := by rfl) :
    DV X W (.Call (.Attribute (.Name x px) name apos) (e :: es) [] cpos) (evMut f j ml) := by
  obtain ⟨t, p, h0⟩ := ha
  refine ⟨_, pe_bm PySem.F.plainAttrs_list slot hty hm (pe_var hN hvi hd hcd) p hbase hfew hline hs hplain, fun F H σ τ Q R h => ?_⟩
  unfold asS evMut at h
  by_cases hs : isLstO σ j = true
  case neg => rw [if_neg hs] at h; exact False.elim h
  rw [if_pos hs] at h
  obtain ⟨a, vs0, et, hx⟩ := R.isLst hs
  refine ⟨_, et, .inl ⟨rfl, vs0, .inl (.inl hx)⟩, ?_⟩
  have h : OkE X.K X.mg W σ τ F H Q (asS (ml.bind fun xs => fun σ => match σ[j]? with
    | some (.o (.lst ds)) => (match f ds xs with
      | some r => .ok .non (σ.set j (.o (.lst r)))
      | none => .bad)
    | _ => .bad) σ) := h
  rw [asS_bindL] at h
  refine h0 F H σ τ _ R (dak h fun xs σ1 us F1 H1 R1 r1 h => ?_)
  unfold asS at h
  dsimp only at h
  cases ej : σ1[j]? with
  | none => rw [ej] at h; exact False.elim h
  | some sl =>
    rw [ej] at h
    cases sl with
    | un => exact False.elim h
    | d x => exact False.elim h
    | o oo =>
      cases oo with
      | dk ks vs => exact False.elim h
      | dt ks vs => exact False.elim h
      | ins c ns vs => exact False.elim h
      | lst ds =>
        dsimp only at h
        cases ef : f ds xs with
        | none => rw [ef] at h; exact False.elim h
        | some z =>
          rw [ef] at h
          obtain ⟨a', h1, at_, fn⟩ := R1.own j _ ej
          rw [et] at h1
          cases h1
          obtain ⟨vs, h2, h3, h4⟩ := at_
          refine hv F1 H1 ds xs z a us vs _ R1.same fn h2 h3 h4 r1 ef fun ws hw rw_ => ?_
          obtain ⟨R2, t2⟩ := R1.write (o' := .lst z) (u := .lst ws) ej et fn ⟨ws, upd_same, hw, rw_⟩
          exact h .non F1 _ R2 rfl (fun _ ⟨⟨_, z⟩, _⟩ => nomatch z) t2.orR
/-- x.pop() -/
def evPop (j : Nat) : M D := fun σ => match σ[j]? with
  | some (.o (.lst ds)) => (match ds[ds.length - 1]? with
    | some d => .ok d (σ.set j (.o (.lst ds.dropLast)))
    | none => .bad)
  | _ => .bad
theorem RepL.dropLast {K : PySem.W.Frag} {mg : Str → Option Value} {F : Hp} {ds : List D} {xs : List V} (r : RepL K mg F ds xs) : RepL K mg F ds.dropLast xs.dropLast := by
  rw [List.dropLast_eq_take, List.dropLast_eq_take, r.len]
  exact RepL.take _ r
theorem do_pop (j : Nat) {x : Str} {px apos cpos : Pos} (slot : Slot "list" "pop" "list.pop") (hty : typeOf (.builtin "list.pop") = pure (.type "method_descriptor"))
    (hN : X.N[j]? = some x) (hvi : Vis X.env.scope x) (hd : (x == ("__debug__" : Str)) = false := by decide +kernel) (hcd : (x == ("__classdict__" : Str)) = false := by decide +kernel)
    (hbase : attributeBase (.Name x px) "pop" X.env (eval (.Name x px) X.env) = eval (.Name x px) X.env := by rfl) (hline : (apos.endLine == cpos.line) = true := by rfl) :
    DV X W (.Call (.Attribute (.Name x px) "pop" apos) [] [] cpos) (evPop j) := by
  refine ⟨_, pe_bm0 PySem.F.plainAttrs_list slot hty mt_pop (pe_var hN hvi hd hcd) hbase hline, fun F H σ τ Q R h => ?_⟩
  unfold asS evPop at h
  cases ej : σ[j]? with
  | none => rw [ej] at h; exact False.elim h
  | some sl =>
    rw [ej] at h
    cases sl with
    | un => exact False.elim h
    | d x => exact False.elim h
    | o oo =>
      cases oo with
      | dk ks vs => exact False.elim h
      | dt ks vs => exact False.elim h
      | ins c ns vs => exact False.elim h
      | lst ds =>
        dsimp only at h
        cases ef : ds[ds.length - 1]? with
        | none => rw [ef] at h; exact False.elim h
        | some d =>
          rw [ef] at h
          obtain ⟨a, h1, at_, fn⟩ := R.own j _ ej
          obtain ⟨vs, h2, h3, h4⟩ := at_
          obtain ⟨v, h5, h6⟩ := h4.get ef
          refine ⟨_, h1, .inl ⟨rfl, vs, .inl (.inl h2)⟩, a, vs, v, rfl, rfl, h2, by rw [← h4.len]; exact h5, ?_⟩
          obtain ⟨R2, t2⟩ := R.write (o' := .lst ds.dropLast) (u := .lst vs.dropLast) ej h1 fn ⟨_, upd_same, by rw [List.length_dropLast]; omega, h4.dropLast⟩
          exact h v F _ R2 h6 (fun _ ⟨⟨_, z⟩, _⟩ => nomatch z) t2.orR
/-- x[i] = e, x a slot's own thing -/
def VSet (K : PySem.W.Frag) (mg : Str → Option Value) (r : V → V → V → Hp → (Hp → Prop) → Prop) (f : O → D → D → Option O) : Prop :=
  ∀ (F H : Hp) (o z : O) (i y : D) (a : Addr) (iv v : V) (Q : Hp → Prop), Same F H → F a = none → OAt K mg F H o a → Rep K mg F i iv → Rep K mg F y v → f o i y = some z → (∀ u, OAt K mg F (upd H a u) z a → Q (upd H a u)) → r (.ref a) iv v H Q
def setIx : O → D → D → Option O
  | .lst xs, .int i, y => (ixN xs.length i).map fun j => .lst (xs.set j y)
  | _, _, _ => none
theorem v_setIx {K : PySem.W.Frag} {mg : Str → Option Value} : VSet K mg rSetL setIx := by
  intro F H o z i y a iv v Q s fa at_ ri ry e k
  unfold setIx at e
  split at e
  · rename_i xs i
    cases ej : ixN xs.length i with
    | none => rw [ej] at e; cases e
    | some j =>
      rw [ej] at e
      cases e
      obtain ⟨vs, h2, h3, h4⟩ := at_
      cases ri
      refine ⟨a, vs, i, j, rfl, rfl, h2, by rw [← h4.len]; exact ej, k _ ⟨_, upd_same, by rw [List.length_set]; exact h3, RepL.set ry j h4⟩⟩
  · cases e
def evSetIx (f : O → D → D → Option O) (j : Nat) (me mi : M D) : M Fl := me.bind fun y => fun σ => if isSet σ j = true then (mi.bind fun i => fun σ => match σ[j]? with
  | some (.o o) => (match f o i y with
    | some z => .ok .nx (σ.set j (.o z))
    | none => .bad)
  | _ => .bad) σ else .bad
theorem ds_setIx (j : Nat) {x : Str} {px pi pos : Pos} {ie : Expr} {me mi : M D} {r : V → V → V → Hp → (Hp → Prop) → Prop} {f : O → D → D → Option O} (hset : PSet X r) (hv : VSet X.K X.mg r f) (hN : X.N[j]? = some x) (hvi : Vis X.env.scope x) (he : DV X W e me) (hi : DV X W ie mi)
    (hd : (x == ("__debug__" : Str)) = false := by decide +kernel) (hcd : (x == ("__classdict__" : Str)) = false := by decide +kernel)
    (ha : ∀ v, assign (.Subscript (.Name x px) ie pi) X.env v = (do
      let ov ← holding [v] (eval (.Name x px) X.env)
      let iv ← holding [v, ov] (eval ie X.env)
      standAt pi
      holding [v, ov, iv] (setItem ov iv v)
      release [v, ov, iv] []) := by intro _; rfl)
    (hs : swapsWithSole [.Subscript (.Name x px) ie pi] e pos.line X.env = pure false := by rfl) (hw : swappedStores [.Subscript (.Name x px) ie pi] e X.env = pure none := by rfl)
    (h1 : (assignEach [.Subscript (.Name x px) ie pi] X.env).map (·.2) = [assign (.Subscript (.Name x px) ie pi) X.env] := by rfl) : DS X W L (.Assign [.Subscript (.Name x px) ie pi] e pos) (evSetIx f j me mi) := by
  obtain ⟨t, p, he⟩ := he
  obtain ⟨ti, pi', hi⟩ := hi
  refine ⟨_, ps_asg p (pg_sub (pe_var hN hvi hd hcd) pi' hset ha) hs hw h1, fun F H σ τ E R h => he F H σ τ _ R ?_⟩
  unfold evSetIx M.bind at h
  unfold asS
  cases e1 : me σ with
  | bad => rw [e1] at h; exact h
  | ex x σ1 => rw [e1] at h; exact fun cls dd F' H' R t er => h cls dd τ F' H' R LK.refl t er
  | ok y σ1 =>
    rw [e1] at h
    intro v F1 H1 R1 r1 _ t1
    have h := OkS.later LK.refl t1.noR h
    dsimp only at h
    by_cases hj : isSet σ1 j = true
    case neg => rw [if_neg hj] at h; exact False.elim h
    rw [if_pos hj] at h
    obtain ⟨v0, et⟩ := R1.isSet hj
    refine ⟨v0, et, hi F1 H1 σ1 τ _ R1 ?_⟩
    unfold asS
    cases e2 : mi σ1 with
    | bad => rw [e2] at h; exact h
    | ex x σ2 => rw [e2] at h; exact fun cls dd F' H' R t er => h cls dd τ F' H' R LK.refl t er
    | ok i σ2 =>
      rw [e2] at h
      intro iv F2 H2 R2 r2 _ t2
      have h := OkS.later LK.refl t2.noR h
      dsimp only at h
      cases ej : σ2[j]? with
      | none => rw [ej] at h; exact False.elim h
      | some sl =>
        rw [ej] at h
        cases sl with
        | un => exact False.elim h
        | d x => exact False.elim h
        | o o =>
          dsimp only at h
          cases ef : f o i y with
          | none => rw [ef] at h; exact False.elim h
          | some z =>
            rw [ef] at h
            obtain ⟨a, h5, at_, fn⟩ := R2.own j _ ej
            rw [et] at h5
            cases h5
            refine hv F2 H2 o z i y a iv v _ R2.same fn at_ r2 (Rep.same t2.fz r1) ef fun u at2 => ?_
            obtain ⟨R3, t3⟩ := R2.write (o' := z) (u := u) ej et fn at2
            exact h τ F2 _ R3 LK.refl t3
/-! ### methods of built-in types, on data -/
def VMeth (K : PySem.W.Frag) (mg : Str → Option Value) (T : String) (r : V → List V → Hp → VK → Prop) (g : D → Bool) (f : D → List D → Option D) : Prop :=
  (∀ (F H : Hp) (x : D) (u : V), Same F H → Rep K mg F x u → g x = true → tyV K T u H) ∧
  ∀ (F H : Hp) (x : D) (u : V) (xs : List D) (us : List V) (d : D) (Q : VK), Same F H → Rep K mg F x u → RepL K mg F xs us → f x xs = some d → (∀ w F' H', Ext F H F' H' → Rep K mg F' d w → Q w H') → r u us H Q
def evBm (g : D → Bool) (f : D → List D → Option D) (ma : M D) (ml : M (List D)) : M D := ma.bind fun x => if g x = true then ml.bind fun xs => lift (f x xs) else M.bad
theorem dv_bm {T id : String} {name : Str} {apos cpos : Pos} {r : V → List V → Hp → VK → Prop} {g : D → Bool} {f : D → List D → Option D} (pa : PlainAttrs T) (slot : Slot T name id) (hty : typeOf (.builtin id) = pure (.type "method_descriptor")) (hm : MtR X id r) (hv : VMeth X.K X.mg T r g f)
    (ho : DV X W o ma) (ha : DA X W (e :: es) ml) (hbase : attributeBase o name X.env (eval o X.env) = eval o X.env := by rfl)
    (hfew : ((backTo cpos (starEach (e :: es) X.env)).all (fun x => !x.1) && (backToKw cpos (keywordEach [] X.env)).all (fun x => x.1.isSome)
      && decide ((e :: es).length + ([] : List Keyword).length + (if ([] : List Keyword).isEmpty then 0 else 1) < 30)) = true := by rfl)
    (hline : (apos.endLine == cpos.line) = true := by rfl) (hs : starEach (e :: es) X.env = (false, eval e X.env) :: starEach es X.env := by rfl) (hplain : (backTo cpos (starEach es X.env)).any (·.1) = false := by rfl) :
    DV X W (.Call (.Attribute o name apos) (e :: es) [] cpos) (evBm g f ma ml) := by
  obtain ⟨to, po, ho⟩ := ho
  obtain ⟨t, p, h0⟩ := ha
  refine ⟨_, pe_bm pa slot hty hm po p hbase hfew hline hs hplain, fun F H σ τ Q R h => ?_⟩
  unfold evBm at h
  rw [asS_bind] at h
  refine ho F H σ τ _ R (dvk h fun x σ1 u F1 H1 R1 r1 h => ?_)
  by_cases hg : g x = true
  case neg => rw [if_neg hg] at h; exact False.elim h
  rw [if_pos hg] at h
  refine ⟨hv.1 F1 H1 x u R1.same r1 hg, ?_⟩
  rw [asS_bindL] at h
  refine h0 F1 H1 σ1 τ _ R1 ?_
  unfold M.bind at h
  cases e2 : ml σ1 with
  | bad => rw [e2] at h; exact h
  | ex x σ2 => rw [e2] at h; exact h
  | ok xs σ2 =>
    rw [e2] at h
    intro us F2 H2 R2 r2 t2
    obtain ⟨d, ed, h⟩ := okl (v := .non) (OkE.later t2 h)
    exact hv.2 F2 H2 x u xs us d _ R2.same (Rep.same t2.fz r1) r2 ed fun z F' H' ex rz => okd h R2 ex rz
theorem dv_bm0 {T id : String} {name : Str} {apos cpos : Pos} {r : V → List V → Hp → VK → Prop} {g : D → Bool} {f : D → List D → Option D} (pa : PlainAttrs T) (slot : Slot T name id) (hty : typeOf (.builtin id) = pure (.type "method_descriptor")) (hm : MtR X id r) (hv : VMeth X.K X.mg T r g f)
    (ho : DV X W o ma) (hbase : attributeBase o name X.env (eval o X.env) = eval o X.env := by rfl) (hline : (apos.endLine == cpos.line) = true := by rfl) :
    DV X W (.Call (.Attribute o name apos) [] [] cpos) (evBm g f ma evNil) := by
  obtain ⟨to, po, ho⟩ := ho
  refine ⟨_, pe_bm0 pa slot hty hm po hbase hline, fun F H σ τ Q R h => ?_⟩
  unfold evBm at h
  rw [asS_bind] at h
  refine ho F H σ τ _ R (dvk h fun x σ1 u F1 H1 R1 r1 h => ?_)
  by_cases hg : g x = true
  case neg => rw [if_neg hg] at h; exact False.elim h
  rw [if_pos hg] at h
  refine ⟨hv.1 F1 H1 x u R1.same r1 hg, ?_⟩
  have h : OkE X.K X.mg W σ1 τ F1 H1 Q (asS (lift (f x [])) σ1) := h
  obtain ⟨d, ed, h⟩ := okl (v := .non) h
  exact hv.2 F1 H1 x u [] [] d _ R1.same r1 (by simp [RepL]) ed fun z F' H' ex rz => okd h R1 ex rz
end
/-! ### isinstance -/
def tyName : D → Option String
  | .non => some "NoneType"
  | .bl _ => some "bool"
  | .int _ => some "int"
  | .str _ => some "str"
  | .tup _ => some "tuple"
  | .lst _ => some "list"
  | .dk _ _ => none
  | .dt _ _ => none
  | .scr _ => none
  | .ins _ _ _ => none
def dIsi (tb : List (String × Bool)) (tc : List (Str × Bool)) : D → Option D
  | .ins c _ _ => (tc.lookup c).map .bl
  | d => ((tyName d).bind fun n => tb.lookup n).map .bl
/-- what the written part says of the class u: of the built-in types in tb, of the own classes in tc -/
structure IsF (K : PySem.W.Frag) (mg : Str → Option Value) (u : Value) (tb : List (String × Bool)) (tc : List (Str × Bool)) : Prop where
  b : ∀ n r, tb.lookup n = some r → PySem.W.kitOne K (.type n) u = some r
  c : ∀ n r C, tc.lookup n = some r → mg n = some (.ref C) → PySem.W.kitOne K (.ref C) u = some r ∧ Cls K C ∧ PySem.W.findIn K (.ref C) "__class__" = some (some (.builtin "object.__class__")) ∧
    PySem.W.specialIn K (.builtin "object.__class__") "__get__" = some (some (.builtin "getset_descriptor.__get__")) ∧ PySem.W.takesIn K (.builtin "object.__class__") = some true ∧ PySem.W.mroIn K C (.type "object") = some true
section
variable {X : Cx} {W : WX} {e : Expr} {ma : M D}
/-- the type of data -/
theorem Rep.tyX {K : PySem.W.Frag} {mg : Str → Option Value} {F H : Hp} {d : D} {v : V} {n : String} (s : Same F H) (r : Rep K mg F d v) (h : tyName d = some n) : TyX K H v (.type n) := by
  cases d with
  | non => cases h; cases r; exact .base .non
  | bl b => cases h; cases r; exact .base (.bl _)
  | int b => cases h; cases r; exact .base (.int _)
  | str b => cases h; cases r; exact .base (.str _)
  | tup ds => cases h; obtain ⟨a, xs, rfl, h1, _⟩ := r; exact .base (.tup (s _ _ h1))
  | lst ds => cases h; obtain ⟨a, xs, rfl, h1, _⟩ := r; exact .base (.lst (s _ _ h1))
  | dk ks ds => cases h
  | dt ks ds => cases h
  | ins c ns ds => cases h
  | scr ns => cases h
theorem isi_core {K : PySem.W.Frag} {mg : Str → Option Value} {F H : Hp} {d z : D} {v c : V} {u : Value} {tb : List (String × Bool)} {tc : List (Str × Bool)} {Q : VK} (I : IsF K mg u tb tc) (hc : ClsV c u) (s : Same F H) (r : Rep K mg F d v) (e : dIsi tb tc d = some z) (k : ∀ b, z = .bl b → Q (.bl b) H) :
    rIsi K [v, c] H Q := by
  have base : ∀ n b, tyName d = some n → tb.lookup n = some b → z = .bl b → rIsi K [v, c] H Q := fun n b h1 h2 h3 => by
    exact ⟨v, c, .type n, u, b, rfl, hc, r.tyX s h1, I.b n b h2, k b h3⟩
  have gen : dIsi tb tc d = ((tyName d).bind fun n => tb.lookup n).map .bl → rIsi K [v, c] H Q := fun q => by
    rw [q] at e
    cases e1 : tyName d with
    | none => rw [e1] at e; cases e
    | some n =>
      rw [e1] at e
      cases e2 : tb.lookup n with
      | none =>
        have e : (tb.lookup n).map D.bl = some z := e
        rw [e2] at e; cases e
      | some b =>
        have e : (tb.lookup n).map D.bl = some z := e
        rw [e2] at e
        cases e
        exact base n b e1 e2 rfl
  cases d with
  | ins n ns ds =>
    have e : (tc.lookup n).map D.bl = some z := e
    cases e2 : tc.lookup n with
    | none => rw [e2] at e; cases e
    | some b =>
      rw [e2] at e
      cases e
      obtain ⟨a, C, dx, xs, rfl, hm, ha, hl, rr⟩ := r
      obtain ⟨h1, h2, h3, h4, h5, h6⟩ := I.c n b C e2 hm
      exact ⟨_, c, .ref C, u, b, rfl, hc, .base (.ins (s _ _ ha) h2 h3 h4 h5 h6), h1, k b rfl⟩
  | _ => exact gen rfl
/-- isinstance(e, int) and the like -/
theorem dv_isiT {T : Str} {n : String} {tb : List (String × Bool)} {tc : List (Str × Bool)} {p pT pos : Pos} {x : Str} (hx : x = ("isinstance" : Str)) (I : IsF X.K X.mg (.type n) tb tc) (hg : Gl X x) (hm : X.mg x = none) (hb : bootBuiltins x = some (.builtin "isinstance")) (hgT : Gl X T) (hmT : X.mg T = none) (hbT : bootBuiltins T = some (.type n)) (ha : DV X W e ma)
    (hnT : T ≠ "__name__" := by decide +kernel) (hdT : (T == ("__debug__" : Str)) = false := by decide +kernel) (hn : x ≠ "__name__" := by decide +kernel) (hdb : (x == ("__debug__" : Str)) = false := by decide +kernel)
    (hs2 : starEach [.Name T pT] X.env = (false, eval (.Name T pT) X.env) :: starEach [] X.env := by rfl)
    (he : starEach (e :: [.Name T pT]) X.env = (false, eval e X.env) :: starEach [.Name T pT] X.env := by rfl) (hpl : (backTo pos (starEach [.Name T pT] X.env)).any (·.1) = false := by rfl) :
    DV X W (.Call (.Name x p) (e :: [.Name T pT]) [] pos) (ev1 (dIsi tb tc) ma) := by
  obtain ⟨ta, pa, ha⟩ := ha
  refine ⟨_, pe_callB call_isi hg hm hb (pa_cons pa (pa_cons (pe_bltn (v := .ty n) hgT hmT hbT rfl hnT hdT) pa_nil hs2) he) hn hdb he hpl, fun F H σ τ Q R h => ?_⟩
  unfold ev1 at h
  rw [asS_bind] at h
  refine ha F H σ τ _ R (dvk h fun d σ1 v F1 H1 R1 r1 h => ?_)
  obtain ⟨z, ez, h⟩ := okl (v := v) h
  exact isi_core I (.ty n) R1.same r1 ez fun b eb => okd h R1 (Ext.refl R1.same) (by subst eb; rfl)
/-- isinstance(e, C), C an own class -/
theorem dv_isiC {T : Str} {C : Addr} {tb : List (String × Bool)} {tc : List (Str × Bool)} {p pT pos : Pos} {x : Str} (hx : x = ("isinstance" : Str)) (I : IsF X.K X.mg (.ref C) tb tc) (hg : Gl X x) (hm : X.mg x = none) (hb : bootBuiltins x = some (.builtin "isinstance")) (hgT : Gl X T) (hmT : X.mg T = some (.ref C)) (ha : DV X W e ma)
    (hdT : (T == ("__debug__" : Str)) = false := by decide +kernel) (hn : x ≠ "__name__" := by decide +kernel) (hdb : (x == ("__debug__" : Str)) = false := by decide +kernel)
    (hs2 : starEach [.Name T pT] X.env = (false, eval (.Name T pT) X.env) :: starEach [] X.env := by rfl)
    (he : starEach (e :: [.Name T pT]) X.env = (false, eval e X.env) :: starEach [.Name T pT] X.env := by rfl) (hpl : (backTo pos (starEach [.Name T pT] X.env)).any (·.1) = false := by rfl) :
    DV X W (.Call (.Name x p) (e :: [.Name T pT]) [] pos) (ev1 (dIsi tb tc) ma) := by
  obtain ⟨ta, pa, ha⟩ := ha
  refine ⟨_, pe_callB call_isi hg hm hb (pa_cons pa (pa_cons (pe_glob (v := .ref C) hgT hmT rfl hdT) pa_nil hs2) he) hn hdb he hpl, fun F H σ τ Q R h => ?_⟩
  unfold ev1 at h
  rw [asS_bind] at h
  refine ha F H σ τ _ R (dvk h fun d σ1 v F1 H1 R1 r1 h => ?_)
  obtain ⟨z, ez, h⟩ := okl (v := v) h
  exact isi_core I (.own C) R1.same r1 ez fun b eb => okd h R1 (Ext.refl R1.same) (by subst eb; rfl)
end
/-! ### in -/
def flatD : D → Bool
  | .non => true
  | .bl _ => true
  | .int _ => true
  | .str _ => true
  | _ => false
def toV : D → V
  | .bl b => .bl b
  | .int i => .int i
  | .str z => .str z
  | _ => .non
theorem Rep.flat {K : PySem.W.Frag} {mg : Str → Option Value} {F : Hp} {d : D} {v : V} (r : Rep K mg F d v) (h : flatD d = true) : v = toV d ∧ flatV v = true := by
  cases d <;> first | (cases h; done) | (cases r; exact ⟨rfl, rfl⟩)
theorem RepL.flatten {K : PySem.W.Frag} {mg : Str → Option Value} {F : Hp} : ∀ {ds : List D} {xs : List V}, RepL K mg F ds xs → ds.all flatD = true → xs = ds.map toV ∧ xs.all flatV = true
  | [], xs, h, _ => by simp only [RepL] at h; subst h; exact ⟨rfl, rfl⟩
  | d :: ds, xs, h, a => by
    simp only [RepL] at h
    obtain ⟨x, r, rfl, h1, h2⟩ := h
    rw [List.all_cons, Bool.and_eq_true] at a
    obtain ⟨e1, e2⟩ := h1.flat a.1
    obtain ⟨e3, e4⟩ := RepL.flatten h2 a.2
    exact ⟨by rw [e1, e3]; rfl, by rw [List.all_cons, e2, e4]; rfl⟩
def dInB (x y : D) : Option Bool := match y with
  | .lst ds => if flatD x = true ∧ ds.all flatD = true then some (inV (toV x) (ds.map toV)) else none
  | .tup ds => if flatD x = true ∧ ds.all flatD = true then some (inV (toV x) (ds.map toV)) else none
  | .str z => (match x with
    | .str i => some (!(Builtin.Str.occurrences z i 0 z.length 1).isEmpty)
    | _ => none)
  | _ => none
def dIn (x y : D) : Option D := (dInB x y).map .bl
def dNotIn (x y : D) : Option D := (dInB x y).map fun b => .bl (!b)
def rInStr (neg : Bool) : R2 := fun x y H Q => ∃ i j, x = .str i ∧ y = .str j ∧ Q (.bl (if neg then !(!(Builtin.Str.occurrences j i 0 j.length 1).isEmpty) else !(Builtin.Str.occurrences j i 0 j.length 1).isEmpty)) H
def rInA (K : PySem.W.Frag) (neg : Bool) : R2 := fun x y H Q => rIn K neg x y H Q ∨ rInStr neg x y H Q
theorem o_in {X : Cx} : OpR X (compareOp .In) (rInA X.K false) := OpR.or op_in_seq op_in_str
theorem o_notIn {X : Cx} : OpR X (compareOp .NotIn) (rInA X.K true) := OpR.or op_notIn_seq op_notIn_str
theorem v_inA {K : PySem.W.Frag} {mg : Str → Option Value} {F H : Hp} {x y : D} {u v : V} {b neg : Bool} {Q : VK} (s : Same F H) (rx : Rep K mg F x u) (ry : Rep K mg F y v) (e : dInB x y = some b) (k : Q (.bl (if neg then !b else b)) H) : rInA K neg u v H Q := by
  unfold dInB at e
  split at e
  · split at e
    · rename_i ds hc
      cases e
      obtain ⟨a, xs, rfl, h1, h2, h3⟩ := ry
      obtain ⟨e1, f1⟩ := rx.flat hc.1
      obtain ⟨e2, f2⟩ := h3.flatten hc.2
      subst e1 e2
      exact .inl ⟨a, _, rfl, .inl (.inl (.inl (s _ _ h1))), f1, f2, k⟩
    · cases e
  · split at e
    · rename_i ds hc
      cases e
      obtain ⟨a, xs, rfl, h1, h2, h3⟩ := ry
      obtain ⟨e1, f1⟩ := rx.flat hc.1
      obtain ⟨e2, f2⟩ := h3.flatten hc.2
      subst e1 e2
      exact .inl ⟨a, _, rfl, .inr (.inl (.inl (s _ _ h1))), f1, f2, k⟩
    · cases e
  · split at e
    · cases e
      cases rx
      cases ry
      exact .inr ⟨_, _, rfl, rfl, k⟩
    · cases e
  · cases e
theorem v_in {K : PySem.W.Frag} {mg : Str → Option Value} : VOp2 K mg (rInA K false) dIn := by
  intro F H x y u v d Q s rx ry e k
  unfold dIn at e
  cases q : dInB x y with
  | none => rw [q] at e; cases e
  | some b => rw [q] at e; cases e; exact v_inA s rx ry q (k _ F H (Ext.refl s) rfl)
theorem v_notIn {K : PySem.W.Frag} {mg : Str → Option Value} : VOp2 K mg (rInA K true) dNotIn := by
  intro F H x y u v d Q s rx ry e k
  unfold dNotIn at e
  cases q : dInB x y with
  | none => rw [q] at e; cases e
  | some b => rw [q] at e; cases e; exact v_inA s rx ry q (k _ F H (Ext.refl s) rfl)
end DL
namespace DL
open PySem PySem.Spec PyProof.Rows L2
/-! ### what is not walked: it must not be reached -/
section
variable {X : Cx} {W : WX} {L : List Nat}
theorem dv_bad {e : Expr} : DV X W e (fun _ => .bad) := ⟨fun _ _ _ => False, ⟨fun _ _ _ _ _ _ h => h.elim⟩, fun _ _ _ _ _ _ h => h⟩
theorem do_bad {e : Expr} : DO X W e (fun _ => .bad) := ⟨fun _ _ _ => False, ⟨fun _ _ _ _ _ _ h => h.elim⟩, fun _ _ _ _ _ _ h => h⟩
theorem dt_bad {e : Expr} : DT X W e (fun _ => .bad) := ⟨fun _ _ _ => False, ⟨fun _ _ _ _ _ _ h => h.elim⟩, fun _ _ _ _ _ _ h => h⟩
theorem ds_bad {st : Stmt} : DS X W L st (fun _ => .bad) := ⟨fun _ _ _ => False, ⟨fun _ _ _ _ _ _ h => h.elim⟩, fun _ _ _ _ _ _ h => h⟩
theorem tkF : Takes X (fun _ _ _ _ => False) := takes0
end
/-! ### defs and facts of the written part -/
structure Fn where
  name : Str
  qual : Str
  params : Arguments
  body : List Stmt
  scope : Scope
  adr : PySem.W.Frag → Addr
abbrev FnW : Type := Option (Str × Str × Arguments × FuncBody × Scope × Addr × List (Str × Addr) × Addr)
def fnW (K : PySem.W.Frag) (a : Addr) : FnW := match K.lookup a with
  | some ⟨_, _, .func fd, _⟩ => some (fd.name, fd.qualname, fd.params, fd.body, fd.scope, fd.globals, fd.closure, fd.builtins)
  | _ => none
def Fn.val (d : Fn) : FnW := some (d.name, d.qual, d.params, .stmts d.body, d.scope, mainGlobals, [], builtinsNs)
def Fn.ok (K : PySem.W.Frag) (d : Fn) : Bool := PySem.W.keepIn K (.ref (d.adr K)) && (match K.lookup (d.adr K) with
  | some ⟨_, _, .func fd, _⟩ => PySem.W.codeIn K fd.code d.qual && (He.dflB K fd.defaults [] && He.kwdB K fd.kwdefaults [])
  | _ => false)
theorem Fn.funD {K : PySem.W.Frag} {d : Fn} (e : fnW K (d.adr K) = d.val) (c : d.ok K = true) : ∃ fd, FunD K d.name d.qual d.params d.body d.scope [] [] (d.adr K) fd := by
  obtain ⟨kp, c2⟩ := He.ba c
  unfold DL.fnW at e
  cases q : K.lookup (d.adr K) with
  | none =>
    rw [q] at c2
    cases c2
  | some o =>
    obtain ⟨oc, od, dt, osl⟩ := o
    rw [q] at c2 e
    cases dt with
    | func fd =>
      obtain ⟨n1, n2, n3, n4, n5, n6, n7, n8, n9, n10, n11, n12, n13, n14, n15⟩ := fd
      have e2 : (some (n1, n2, n3, n4, n5, n6, n7, n15) : FnW) = some (d.name, d.qual, d.params, .stmts d.body, d.scope, mainGlobals, [], builtinsNs) := e
      simp only [Option.some.injEq, Prod.mk.injEq] at e2
      obtain ⟨h1, h2, h3, h4, h5, h6, h7, h8⟩ := e2
      subst h1 h2 h3 h4 h5 h6 h7 h8
      have c3 : (PySem.W.codeIn K n13 d.qual && (He.dflB K n8 [] && He.kwdB K n9 [])) = true := c2
      obtain ⟨k1, k2⟩ := He.ba c3
      obtain ⟨k3, k4⟩ := He.ba k2
      exact ⟨_, ⟨oc, od, n8, n9, n10, n11, n12, n13, n14, osl, rfl, q, k1, He.dflB_ok k3, He.kwdB_ok k4⟩, kp⟩
    | _ => cases c2
abbrev Ck : Type := PySem.W.Frag → Bool
abbrev AlX : Type := Bool × List FnW
def obsX (ck : List Ck) (fn : List Fn) (K : PySem.W.Frag) : AlX := ((ck.all fun f => f K) && fn.all fun d => d.ok K, fn.map fun d => fnW K (d.adr K))
def valX (fn : List Fn) : AlX := (true, fn.map Fn.val)
def SaysX (ck : List Ck) (fn : List Fn) (K : PySem.W.Frag) : Prop := obsX ck fn K = valX fn
def obsXG (n : Nat) (ck : List Ck) (fn : List Fn) (g : Addr → Option Obj) : AlX := obsX ck fn (He.frG g (He.asD g n))
def hookX (n : Nat) (ck : List Ck) (fn : List Fn) : PySem.W.Hook where
  α := AlX
  obs := fun s => obsXG n ck fn s.heap.get?
  val := fun _ => valX fn
  says := fun _ h => ∃ K : PySem.W.Frag, K.In h ∧ SaysX ck fn K
  of := fun _ _ e => ⟨_, He.frG_in, e⟩
  keeps := fun _ _ _ ⟨K, hK, c⟩ k => ⟨K, PySem.W.Frag.In.keeps hK k, c⟩
theorem obsXG_eq {n : Nat} {ck : List Ck} {fn : List Fn} {g : Addr → Option Obj} {s : Shared} (h : ∀ a, g a = s.heap.get? a) : obsXG n ck fn g = (hookX n ck fn).obs s := by
  have e : g = s.heap.get? := funext h
  rw [e] <;> rfl
theorem SaysX.ck {ck : List Ck} {fn : List Fn} {K : PySem.W.Frag} (c : SaysX ck fn K) (i : Nat) {f : Ck} (h : ck[i]? = some f) : f K = true := by
  have c1 := (He.ba (show ((ck.all fun f => f K) && fn.all fun d => d.ok K) = true from congrArg (fun z : AlX => z.1) c)).1
  exact List.all_eq_true.mp c1 f (List.mem_of_getElem? h)
theorem SaysX.def_ {ck : List Ck} {fn : List Fn} {K : PySem.W.Frag} (c : SaysX ck fn K) (i : Nat) {d : Fn} (h : fn[i]? = some d) : ∃ fd, FunD K d.name d.qual d.params d.body d.scope [] [] (d.adr K) fd := by
  have c2 := (He.ba (show ((ck.all fun f => f K) && fn.all fun d => d.ok K) = true from congrArg (fun z : AlX => z.1) c)).2
  have e : fn.map (fun d => fnW K (d.adr K)) = fn.map Fn.val := congrArg (fun z : AlX => z.2) c
  have e2 : (fn.map fun d => fnW K (d.adr K))[i]? = (fn.map Fn.val)[i]? := by rw [e]
  rw [List.getElem?_map, List.getElem?_map, h] at e2
  exact Fn.funD (Option.some.inj e2) (List.all_eq_true.mp c2 d (List.mem_of_getElem? h))
/-- the facts at hand -/
structure Fx (ck : List Ck) (fn : List Fn) (K : PySem.W.Frag) (mg : Str → Option Value) : Prop where
  says : SaysX ck fn K
  mgs : ∃ h : Heap, K.In h ∧ h.Ns mainGlobals mg
section
variable {ck : List Ck} {fn : List Fn} {K : PySem.W.Frag} {mg : Str → Option Value}
abbrev kG (x : Str) : Ck := fun K => (He.Fa.glo x).ok K
abbrev kF (x : Str) : Ck := fun K => (He.Fa.free x).ok K
abbrev kI (x : Str) (i : Int) : Ck := fun K => (He.Fa.int x i).ok K
abbrev kS (x z : Str) : Ck := fun K => (He.Fa.str x z).ok K
abbrev kC (x : Str) : Ck := fun K => (He.Fa.cls x).ok K
abbrev kN (x f : Str) : Ck := fun K => (He.Fa.noat x f).ok K
abbrev kM (x m : Str) : Ck := fun K => (He.Fa.meth x m).ok K
abbrev kK (x : Str) : Ck := fun K => (He.Fa.mkr x).ok K
abbrev kX (x : Str) : Ck := fun K => (He.Fa.exc x).ok K
theorem Fx.glo (Z : Fx ck fn K mg) {x : Str} (i : Nat) (h : ck[i]? = some (kG x) := by rfl) : mg x = some (.ref (He.ga K x)) := let ⟨_, a, b⟩ := Z.mgs; He.glo_ok a b (Z.says.ck i h)
theorem Fx.free (Z : Fx ck fn K mg) {x : Str} (i : Nat) (h : ck[i]? = some (kF x) := by rfl) : mg x = none := let ⟨_, a, b⟩ := Z.mgs; He.free_ok a b (Z.says.ck i h)
theorem Fx.int (Z : Fx ck fn K mg) {x : Str} {n : Int} (i : Nat) (h : ck[i]? = some (kI x n) := by rfl) : ∃ t, mg x = some (.int n t) := let ⟨_, a, b⟩ := Z.mgs; He.int_ok a b (Z.says.ck i h)
theorem Fx.str (Z : Fx ck fn K mg) {x z : Str} (i : Nat) (h : ck[i]? = some (kS x z) := by rfl) : ∃ t, mg x = some (.str z t) := let ⟨_, a, b⟩ := Z.mgs; He.str_ok a b (Z.says.ck i h)
theorem Fx.cls (Z : Fx ck fn K mg) {x : Str} (i : Nat) (h : ck[i]? = some (kC x) := by rfl) : Cls K (He.ga K x) := He.cls_ok (Z.says.ck i h)
theorem Fx.noat (Z : Fx ck fn K mg) {x f : Str} (i : Nat) (h : ck[i]? = some (kN x f) := by rfl) : NoAttr K (He.ga K x) f := He.noat_ok (Z.says.ck i h)
theorem Fx.meth (Z : Fx ck fn K mg) {x m : Str} (i : Nat) (h : ck[i]? = some (kM x m) := by rfl) : Meth K (He.ga K x) m (He.ma K (He.ga K x) m) := He.meth_ok (Z.says.ck i h)
theorem Fx.mkr (Z : Fx ck fn K mg) {x : Str} (i : Nat) (h : ck[i]? = some (kK x) := by rfl) : L2.Mk K (He.ga K x) (He.ma K (He.ga K x) "__init__") := He.mkr_ok (Z.says.ck i h)
/-- a property's getter -/
def pg (K : PySem.W.Frag) (C : Addr) (f : Str) : Addr := match PySem.W.recIn K (He.ma K C f) "property" with
  | some (.ref g :: _) => g
  | _ => 0
def propOk (K : PySem.W.Frag) (C : Addr) (f : Str) : Bool := He.eqO (PySem.W.findIn K (.ref C) f) (some (some (.ref (He.ma K C f)))) && (He.eqO (PySem.W.specialIn K (.ref (He.ma K C f)) "__get__") (some (some (.builtin "property.__get__"))) &&
  (decide (PySem.W.takesIn K (.ref (He.ma K C f)) = some true) && (match PySem.W.recIn K (He.ma K C f) "property" with
    | some (.ref _ :: _) => true
    | _ => false)))
theorem propOk_ok {C : Addr} {f : Str} (h : propOk K C f = true) : PropOf K C f (He.ma K C f) (pg K C f) := by
  obtain ⟨h1, h⟩ := He.ba h
  obtain ⟨h2, h⟩ := He.ba h
  obtain ⟨h3, h4⟩ := He.ba h
  refine ⟨He.eqO_ok h1, He.eqO_ok h2, of_decide_eq_true h3, ?_⟩
  unfold pg
  split at h4
  · rename_i g rest e
    rw [e]
    exact ⟨rest, rfl⟩
  · cases h4
abbrev kP (x f : Str) : Ck := fun K => propOk K (He.ga K x) f
theorem Fx.prop (Z : Fx ck fn K mg) {x f : Str} (i : Nat) (h : ck[i]? = some (kP x f) := by rfl) : PropOf K (He.ga K x) f (He.ma K (He.ga K x) f) (pg K (He.ga K x) f) := propOk_ok (Z.says.ck i h)
/-- isinstance: own classes tc, the class u -/
inductive Cv where
  | ty (n : String) | own (x : Str)
def Cv.v (K : PySem.W.Frag) : Cv → Value
  | .ty n => .type n
  | .own x => .ref (He.ga K x)
def isfOk (K : PySem.W.Frag) (u : Cv) (tb : List (String × Bool)) (tc : List (Str × Bool)) : Bool := (tb.all fun p => decide (PySem.W.kitOne K (.type p.1) (u.v K) = some p.2)) &&
  (tc.all fun p => decide (PySem.W.kitOne K (.ref (He.ga K p.1)) (u.v K) = some p.2) && ((He.Fa.glo p.1).ok K && ((He.Fa.cls p.1).ok K && (He.eqO (PySem.W.findIn K (.ref (He.ga K p.1)) "__class__") (some (some (.builtin "object.__class__"))) &&
    (He.eqO (PySem.W.specialIn K (.builtin "object.__class__") "__get__") (some (some (.builtin "getset_descriptor.__get__"))) && (decide (PySem.W.takesIn K (.builtin "object.__class__") = some true) && decide (PySem.W.mroIn K (He.ga K p.1) (.type "object") = some true)))))))
theorem lookup_memS {α β : Type} [BEq α] [LawfulBEq α] {x : α} {r : β} : ∀ {l : List (α × β)}, l.lookup x = some r → (x, r) ∈ l
  | [], h => by cases h
  | (y, s) :: l, h => by
    rw [List.lookup_cons] at h
    cases e : (x == y) with
    | true =>
      rw [e] at h
      cases h
      rw [beq_iff_eq.mp e]
      exact List.mem_cons_self ..
    | false =>
      rw [e] at h
      exact List.mem_cons_of_mem _ (lookup_memS h)
theorem isfOk_ok (hm : ∀ x a, PySem.W.nsIn K mainGlobals x = some (some a) → mg x = some a) {u : Cv} {tb : List (String × Bool)} {tc : List (Str × Bool)} (h : isfOk K u tb tc = true) : IsF K mg (u.v K) tb tc := by
  obtain ⟨h1, h2⟩ := He.ba h
  refine ⟨fun n r e => of_decide_eq_true (List.all_eq_true.mp h1 (n, r) (lookup_memS e)), fun n r C e em => ?_⟩
  obtain ⟨q1, q⟩ := He.ba (List.all_eq_true.mp h2 (n, r) (lookup_memS e))
  obtain ⟨q2, q⟩ := He.ba q
  obtain ⟨q3, q⟩ := He.ba q
  obtain ⟨q4, q⟩ := He.ba q
  obtain ⟨q5, q⟩ := He.ba q
  obtain ⟨q6, q7⟩ := He.ba q
  have ec := hm n _ (He.eqO_ok q2)
  rw [em] at ec
  cases ec
  exact ⟨of_decide_eq_true q1, He.cls_ok q3, He.eqO_ok q4, He.eqO_ok q5, of_decide_eq_true q6, of_decide_eq_true q7⟩
abbrev kY (u : Cv) (tb : List (String × Bool)) (tc : List (Str × Bool)) : Ck := fun K => isfOk K u tb tc
theorem Fx.isf (Z : Fx ck fn K mg) {u : Cv} {tb : List (String × Bool)} {tc : List (Str × Bool)} (i : Nat) (h : ck[i]? = some (kY u tb tc) := by rfl) : IsF K mg (u.v K) tb tc := isfOk_ok (fun x a e => let ⟨_, a, b⟩ := Z.mgs; PySem.W.mg_of a b e) (Z.says.ck i h)
/-- an own exception, no __init__ of its own -/
theorem Fx.pmk {X : Cx} {f : Cx → PySem.W.Frag} {x : Str} {p pos : Pos} (h : (He.Fa.exc x).ok X.K = true) (gC : X.mg x = some (.ref (He.ga X.K x))) (hg : Gl X x) (hdb : (x == ("__debug__" : Str)) = false := by decide +kernel) : PMk X (.Call (.Name x p) [] [] pos) (fun _ H Q => Q (.ref (He.ga X.K x)) none H) := by
  obtain ⟨h1, h2, h3, h4⟩ := He.exc_ok h
  exact pmk_own0 F.excBase_ValueError h1 gC h2 (raises_own h3 h4) hg hdb
end
/-! ### a def that is walked -/
def OkFn (P : Program) (w : World) (K : PySem.W.Frag) (mg : Str → Option Value) (base : Heap) (k : Nat) (a : Addr) (ps : List Str) (sem : List Sl → Res Sl) : Prop :=
  ∃ fd, FnOk P w K mg base (L2.CX P w) k a fd ps (spD K mg sem) ∧ PySem.W.keepIn K (.ref a) = true ∧ Binds K fd ps []
def OkFnG (P : Program) (w : World) (K : PySem.W.Frag) (mg : Str → Option Value) (base : Heap) (k : Nat) (a : Addr) (ps : List Str) (sem : List Sl → Res Sl) : Prop :=
  ∃ fd, FnOkG P w K mg base (L2.CX P w) k a fd ps (spD K mg sem) ∧ PySem.W.keepIn K (.ref a) = true ∧ Binds K fd ps [] ∧ ∃ oc od osl, K.lookup a = some ⟨oc, od, .func fd, osl⟩
section
variable {P : Program} {w : World} {K : PySem.W.Frag} {mg : Str → Option Value} {base : Heap} {ck : List Ck} {fn : List Fn}
theorem mk_fn (Z : Fx ck fn K mg) (i : Nat) {d : Fn} {N ps : List Str} {k : Nat} {L : List Nat} {m : M Fl} (S : FnScope N ps d.scope) (h : fn[i]? = some d)
    (hbind : ∀ (kV doc pm : Value) (an : Option Addr) (cdv ct : Value) (us : List Value), us.length = ps.length → bindArgs (PySem.W.fnOf d.name d.qual d.params d.body d.scope .none kV doc pm an cdv ct) ⟨us, []⟩ = pure (ps.zip us))
    (hb : ∀ (cdv : Value) (A : Around) (outer : List Env) (s : Shared) (H : Hp) (E : XK), Room k (A.deeper (envOfC d.qual d.scope s.heap.objs.size (d.adr K) cdv)) → Takes (cxOf (L2.CX P w) P w K mg base N d.qual d.scope (d.adr K) cdv A outer s H E) (fun cls d _ H => E cls d H) →
      DSs (cxOf (L2.CX P w) P w K mg base N d.qual d.scope (d.adr K) cdv A outer s H E) (fun cls d _ H => E cls d H) L d.body m) : OkFn P w K mg base (k + 1) (d.adr K) ps (semOf ps.length N.length L m) := by
  obtain ⟨fd, F⟩ := Z.says.def_ i h
  exact ⟨fd, fn_ok F S L m fun cdv A outer s H E hr => hb cdv A outer s H E hr (takes_of rfl rfl rfl rfl), F.kp, F.bindsN hbind⟩
theorem mk_fnG (Z : Fx ck fn K mg) (i : Nat) {d : Fn} {N ps : List Str} {k : Nat} {L : List Nat} {m : M Fl} (S : FnScope N ps d.scope) (h : fn[i]? = some d)
    (hbind : ∀ (kV doc pm : Value) (an : Option Addr) (cdv ct : Value) (us : List Value), us.length = ps.length → bindArgs (PySem.W.fnOf d.name d.qual d.params d.body d.scope .none kV doc pm an cdv ct) ⟨us, []⟩ = pure (ps.zip us))
    (hb : ∀ (cdv : Value) (A : Around) (outer : List Env) (s : Shared) (H : Hp) (E : XK), Room k (A.deeper (envOfC d.qual d.scope s.heap.objs.size (d.adr K) cdv)) → (A.deeper (envOfC d.qual d.scope s.heap.objs.size (d.adr K) cdv)).guards = some [] →
      Takes (cxOf (L2.CX P w) P w K mg base N d.qual d.scope (d.adr K) cdv A outer s H E) (fun cls d _ H => E cls d H) →
      DSs (cxOf (L2.CX P w) P w K mg base N d.qual d.scope (d.adr K) cdv A outer s H E) (fun cls d _ H => E cls d H) L d.body m) : OkFnG P w K mg base (k + 1) (d.adr K) ps (semOf ps.length N.length L m) := by
  obtain ⟨fd, F⟩ := Z.says.def_ i h
  exact ⟨fd, fn_okG F S L m fun cdv A outer s H E hr hG => hb cdv A outer s H E hr hG (takes_of rfl rfl rfl rfl), F.kp, F.bindsN hbind, let ⟨oc, od, _, _, _, _, _, _, _, osl, _, lk, _⟩ := F.ex; ⟨oc, od, osl, lk⟩⟩
end
/-- the law's end -/
theorem law_end {l : PySem.W.OpenLaw} {w : World} {K : PySem.W.Frag} {mg : Str → Option Value} {ck : List Ck} {fn : List Fn} {k : Nat} {a : Addr} {x : Str} {sem : List Sl → Res Sl} (Z : Fx ck fn K mg) (i : Nat) {d : Fn} (hd : fn[i]? = some d) (ha : d.adr K = a)
    (hbind : ∀ (kV doc pm : Value) (an : Option Addr) (cdv ct : Value) (us : List Value), us.length = [x].length → bindArgs (PySem.W.fnOf d.name d.qual d.params d.body d.scope .none kV doc pm an cdv ct) ⟨us, []⟩ = pure ([x].zip us))
    (h : ∀ base : Heap, OkFnG l.prog w K mg base k (d.adr K) [x] sem) (n : Nat) (m : ∀ ns : List Int, ns.length ≤ n → ∃ σ, sem [.d (.scr ns)] = .ok (.d (.bl true)) σ) :
    ∃ (fd : FuncData) (sp : Sp), (∀ (s : Shared) (u : Value), BindsTo s fd ⟨[u], []⟩ [(x, u)]) ∧
        (∀ (H : Hp) (a : Addr) (ns : List Int), ns.length ≤ n → Only H → SqL K H a (ns.map V.int) → sp [.ref a] H (fun v _ => v = .bl true) fun _ _ _ => False) ∧
        ∀ base : Heap, FnOkG l.prog w K mg base (L2.CX l.prog w) k a fd [x] sp := by
  obtain ⟨fd, F⟩ := Z.says.def_ i hd
  refine ⟨fd, spD K mg sem, fun s u => FunD.bindsA (ps := [x]) F hbind s [u] rfl, fun H a ns hl hO hS => ?_, fun base => ?_⟩
  · obtain ⟨σ, e⟩ := m ns hl
    exact law_sp hO hS e
  · obtain ⟨fd2, G, _, _, oc, od, osl, lk⟩ := h base
    obtain ⟨oc2, od2, _, _, _, _, _, _, _, osl2, _, lk2, _⟩ := F.ex
    rw [lk] at lk2
    cases lk2
    rw [← ha]
    exact G
theorem cx_none {P : Program} {w : World} {H : Hp} {s : Shared} {e : Value} {s' : Shared} (h : L2.CX P w [] H s (fun _ _ _ => False) e s') : False := by
  obtain ⟨_, _, _, _, _, _, _, _, _, _, _, _, h⟩ := h
  exact h
section
variable {X : Cx} {W : WX} {e o : Expr} {es : List Expr} {ma : M D} {ml : M (List D)} {x y c f mn : Str} {p px py apos pos : Pos} {k j : Nat} {a C : Addr} {ps : List Str} {sem : List Sl → Res Sl}
theorem c_call (G : OkFn X.prog X.w X.K X.mg X.base k a ps sem) (hr : Room j X.A) (hk : k ≤ j) (hm : X.mg x = some (.ref a)) (tk : Takes X W) (ha : DA X W (e :: es) ml) (hg : Gl X x := by rfl) (hdb : (x == ("__debug__" : Str)) = false := by decide +kernel)
    (he : starEach (e :: es) X.env = (false, eval e X.env) :: starEach es X.env := by rfl) (hpl : (backTo pos (starEach es X.env)).any (·.1) = false := by rfl) : DO X W (.Call (.Name x p) (e :: es) [] pos) (semC sem ml) :=
  let ⟨_, G, kp, b⟩ := G; do_call G (hr.mono hk) hg hm kp b tk ha hdb he hpl
theorem c_call0 (G : OkFn X.prog X.w X.K X.mg X.base k a ps sem) (hr : Room j X.A) (hk : k ≤ j) (hm : X.mg x = some (.ref a)) (tk : Takes X W) (hg : Gl X x := by rfl) (hdb : (x == ("__debug__" : Str)) = false := by decide +kernel) : DO X W (.Call (.Name x p) [] [] pos) (semC sem evNil) :=
  let ⟨_, G, kp, b⟩ := G; do_call0 G (hr.mono hk) hg hm kp b tk hdb
theorem c_callIO (i : Nat) (G : OkFn X.prog X.w X.K X.mg X.base k a ps sem) (hr : Room j X.A) (hk : k ≤ j) (hm : X.mg x = some (.ref a)) (tk : Takes X W) (hN : X.N[i]? = some y) (hv : Vis X.env.scope y) (ha : DA X W es ml) (hg : Gl X x := by rfl) (hdy : (y == ("__debug__" : Str)) = false := by decide +kernel) (hcy : (y == ("__classdict__" : Str)) = false := by decide +kernel)
    (hdb : (x == ("__debug__" : Str)) = false := by decide +kernel) (he : starEach (.Name y py :: es) X.env = (false, eval (.Name y py) X.env) :: starEach es X.env := by rfl) (hpl : (backTo pos (starEach es X.env)).any (·.1) = false := by rfl) : DO X W (.Call (.Name x p) (.Name y py :: es) [] pos) (semIO sem i ml) :=
  let ⟨_, G, kp, b⟩ := G; do_callIO i G (hr.mono hk) hg hm kp b tk hN hv ha hdy hcy hdb he hpl
theorem c_callG (G : OkFnG X.prog X.w X.K X.mg X.base k a ps sem) (hr : Room j X.A) (hG : X.A.guards = some []) (hk : k ≤ j) (hm : X.mg x = some (.ref a)) (tk : Takes X W) (ha : DA X W (e :: es) ml) (hg : Gl X x := by rfl) (hdb : (x == ("__debug__" : Str)) = false := by decide +kernel)
    (he : starEach (e :: es) X.env = (false, eval e X.env) :: starEach es X.env := by rfl) (hpl : (backTo pos (starEach es X.env)).any (·.1) = false := by rfl) : DO X W (.Call (.Name x p) (e :: es) [] pos) (semC sem ml) :=
  let ⟨_, G, kp, b, _⟩ := G; do_callG G ⟨hr.hd, (hr.mono hk).dp, (hr.mono hk).un⟩ hG hg hm kp b tk ha hdb he hpl
theorem c_callG0 (G : OkFnG X.prog X.w X.K X.mg X.base k a ps sem) (hr : Room j X.A) (hG : X.A.guards = some []) (hk : k ≤ j) (hm : X.mg x = some (.ref a)) (tk : Takes X W) (hg : Gl X x := by rfl) (hdb : (x == ("__debug__" : Str)) = false := by decide +kernel) : DO X W (.Call (.Name x p) [] [] pos) (semC sem evNil) :=
  let ⟨_, G, kp, b, _⟩ := G; do_callG0 G (hr.mono hk) hG hg hm kp b tk hdb
theorem c_callIOG (i : Nat) (G : OkFnG X.prog X.w X.K X.mg X.base k a ps sem) (hr : Room j X.A) (hG : X.A.guards = some []) (hk : k ≤ j) (hm : X.mg x = some (.ref a)) (tk : Takes X W) (hN : X.N[i]? = some y) (hv : Vis X.env.scope y) (ha : DA X W es ml) (hg : Gl X x := by rfl) (hdy : (y == ("__debug__" : Str)) = false := by decide +kernel) (hcy : (y == ("__classdict__" : Str)) = false := by decide +kernel)
    (hdb : (x == ("__debug__" : Str)) = false := by decide +kernel) (he : starEach (.Name y py :: es) X.env = (false, eval (.Name y py) X.env) :: starEach es X.env := by rfl) (hpl : (backTo pos (starEach es X.env)).any (·.1) = false := by rfl) : DO X W (.Call (.Name x p) (.Name y py :: es) [] pos) (semIO sem i ml) :=
  let ⟨_, G, kp, b, _⟩ := G; do_callIOG i G (hr.mono hk) hG hg hm kp b tk hN hv ha hdy hcy hdb he hpl
theorem c_meth (T : CF X c C) (hm : Meth X.K C mn a) (G : OkFn X.prog X.w X.K X.mg X.base k a ps sem) (hr : Room j X.A) (hk : k ≤ j) (tk : Takes X W) (ho : DV X W o ma) (ha : DA X W (e :: es) ml) {pl : Sem Bool}
    (hst : starEach (e :: es) X.env = (false, eval e X.env) :: starEach es X.env := by rfl) (hpl : (backTo pos (starEach es X.env)).any (·.1) = false := by rfl)
    (ht : eval (.Call (.Attribute o mn apos) (e :: es) [] pos) X.env = (do
      let ov ← eval o X.env
      standAt apos.atName
      let (f, first) ← holding [ov] (getMethod ov mn pl)
      callWith pos f first (backTo pos (starEach (e :: es) X.env)) (backToKw pos (keywordEach [] X.env))) := by rfl) : DO X W (.Call (.Attribute o mn apos) (e :: es) [] pos) (semM c mn sem ma ml) :=
  let ⟨_, G, kp, b⟩ := G; do_meth T hm G (hr.mono hk) b tk ho ha hst hpl ht
theorem c_meth0 (T : CF X c C) (hm : Meth X.K C mn a) (G : OkFn X.prog X.w X.K X.mg X.base k a ps sem) (hr : Room j X.A) (hk : k ≤ j) (tk : Takes X W) (ho : DV X W o ma) {pl : Sem Bool}
    (ht : eval (.Call (.Attribute o mn apos) [] [] pos) X.env = (do
      let ov ← eval o X.env
      standAt apos.atName
      let (f, first) ← holding [ov] (getMethod ov mn pl)
      callWith pos f first (backTo pos (starEach [] X.env)) (backToKw pos (keywordEach [] X.env))) := by rfl) : DO X W (.Call (.Attribute o mn apos) [] [] pos) (semM c mn sem ma evNil) :=
  let ⟨_, G, kp, b⟩ := G; do_meth0 T hm G (hr.mono hk) b tk ho ht
theorem c_prop {q : Addr} (T : CF X c C) (hp : PropOf X.K C f q a) (G : OkFn X.prog X.w X.K X.mg X.base k a ps sem) (hr : Room j X.A) (hk : k + 1 ≤ j) (ho : DV X W o ma)
    (hab : attributeBase o f X.env (eval o X.env) = eval o X.env := by rfl) : DO X W (.Attribute o f pos) (semP c sem ma) :=
  let ⟨_, G, kp, b⟩ := G; do_prop T hp G (hr.mono hk) b ho hab
theorem c_make (hC : X.mg c = some (.ref C)) (Mk : L2.Mk X.K C a) (G : OkFn X.prog X.w X.K X.mg X.base k a ps sem) (hr : Room j X.A) (hk : k + 1 ≤ j) (tk : Takes X W) (ha : DA X W (e :: es) ml) (hg : Gl X c := by rfl)
    (hdb : (c == ("__debug__" : Str)) = false := by decide +kernel) (he : starEach (e :: es) X.env = (false, eval e X.env) :: starEach es X.env := by rfl) (hpl : (backTo pos (starEach es X.env)).any (·.1) = false := by rfl) : DO X W (.Call (.Name c p) (e :: es) [] pos) (semK c sem ml) :=
  let ⟨_, G, kp, b⟩ := G; do_make hC Mk G (hr.mono hk) hg b tk ha hdb he hpl
end
end DL
namespace DL
open PySem PySem.Spec PyProof.Rows L2
theorem bt_len : bootBuiltins ("len" : Str) = some (.builtin "len") := by kernel_rfl
theorem bt_repr : bootBuiltins ("repr" : Str) = some (.builtin "repr") := by kernel_rfl
theorem bt_max : bootBuiltins ("max" : Str) = some (.builtin "max") := by kernel_rfl
theorem bt_min : bootBuiltins ("min" : Str) = some (.builtin "min") := by kernel_rfl
theorem bt_sum : bootBuiltins ("sum" : Str) = some (.builtin "sum") := by kernel_rfl
theorem bt_all : bootBuiltins ("all" : Str) = some (.builtin "all") := by kernel_rfl
theorem bt_isi : bootBuiltins ("isinstance" : Str) = some (.builtin "isinstance") := by kernel_rfl
theorem bt_tuple : bootBuiltins ("tuple" : Str) = some (.type "tuple") := by kernel_rfl
theorem bt_list : bootBuiltins ("list" : Str) = some (.type "list") := by kernel_rfl
theorem bt_int : bootBuiltins ("int" : Str) = some (.type "int") := by kernel_rfl
theorem bt_str : bootBuiltins ("str" : Str) = some (.type "str") := by kernel_rfl
theorem bt_bool : bootBuiltins ("bool" : Str) = some (.type "bool") := by kernel_rfl
theorem bt_sorted : bootBuiltins ("sorted" : Str) = some (.builtin "sorted") := by kernel_rfl
/-- one or two things -/
def f12 (f : D → Option D) (g : List D → Option D) : List D → Option D
  | [x] => f x
  | xs => g xs
section
variable {X : Cx} {W : WX} {L : List Nat} {e a b : Expr} {es : List Expr} {ma mb : M D} {ml : M (List D)} {p pos : Pos} {x : Str}
theorem b_len (hm : X.mg ("len" : Str) = none) (ha : DV X W e ma) (hg : Gl X ("len" : Str) := by rfl) (he : starEach [e] X.env = (false, eval e X.env) :: starEach [] X.env := by rfl) (hpl : (backTo pos (starEach [] X.env)).any (·.1) = false := by rfl) : DV X W (.Call (.Name ("len" : Str) p) [e] [] pos) (evL (f1 dLen) (evCons ma evNil)) :=
  dv_callB c_len v_len.call hg hm bt_len (da_cons ha da_nil he) (by decide +kernel) (by decide +kernel) he hpl
theorem b_lenP (j : Nat) {y : Str} {py : Pos} (hm : X.mg ("len" : Str) = none) (hN : X.N[j]? = some y) (hvi : Vis X.env.scope y) (hd : (y == ("__debug__" : Str)) = false := by decide +kernel) (hcd : (y == ("__classdict__" : Str)) = false := by decide +kernel) (hg : Gl X ("len" : Str) := by rfl) (he : starEach [.Name y py] X.env = (false, eval (.Name y py) X.env) :: starEach [] X.env := by rfl) (hpl : (backTo pos (starEach [] X.env)).any (·.1) = false := by rfl) : DV X W (.Call (.Name ("len" : Str) p) [.Name y py] [] pos) (evLenP dLen j) :=
  dv_callB1P j c_len v_len hg hm bt_len hN hvi hd hcd (by decide +kernel) (by decide +kernel) he hpl
theorem b_repr {k : Nat} (hr : Room k X.A) (hG : X.A.guards = some []) (hm : X.mg ("repr" : Str) = none) (ha : DV X W e ma) (hg : Gl X ("repr" : Str) := by rfl) (he : starEach [e] X.env = (false, eval e X.env) :: starEach [] X.env := by rfl) (hpl : (backTo pos (starEach [] X.env)).any (·.1) = false := by rfl) : DV X W (.Call (.Name ("repr" : Str) p) [e] [] pos) (evL (f1 dRepr) (evCons ma evNil)) :=
  dv_callB (call_reprD hr hG) v_repr hg hm bt_repr (da_cons ha da_nil he) (by decide +kernel) (by decide +kernel) he hpl
theorem b_max2 (hc : X.calm = true) (hm : X.mg ("max" : Str) = none) (ha : DA X W (e :: es) ml) (hg : Gl X ("max" : Str) := by rfl) (he : starEach (e :: es) X.env = (false, eval e X.env) :: starEach es X.env := by rfl) (hpl : (backTo pos (starEach es X.env)).any (·.1) = false := by rfl) : DV X W (.Call (.Name ("max" : Str) p) (e :: es) [] pos) (evL dMax2 ml) :=
  dv_callB (call_max2 hc) v_max2 hg hm bt_max ha (by decide +kernel) (by decide +kernel) he hpl
theorem b_min2 (hc : X.calm = true) (hm : X.mg ("min" : Str) = none) (ha : DA X W (e :: es) ml) (hg : Gl X ("min" : Str) := by rfl) (he : starEach (e :: es) X.env = (false, eval e X.env) :: starEach es X.env := by rfl) (hpl : (backTo pos (starEach es X.env)).any (·.1) = false := by rfl) : DV X W (.Call (.Name ("min" : Str) p) (e :: es) [] pos) (evL dMin2 ml) :=
  dv_callB (call_min2 hc) v_min2 hg hm bt_min ha (by decide +kernel) (by decide +kernel) he hpl
theorem b_maxL (hc : X.calm = true) (hm : X.mg ("max" : Str) = none) (ha : DV X W e ma) (hg : Gl X ("max" : Str) := by rfl) (he : starEach [e] X.env = (false, eval e X.env) :: starEach [] X.env := by rfl) (hpl : (backTo pos (starEach [] X.env)).any (·.1) = false := by rfl) : DV X W (.Call (.Name ("max" : Str) p) [e] [] pos) (evL (f1 dMaxL) (evCons ma evNil)) :=
  dv_callB (cr_max hc) v_maxL.call hg hm bt_max (da_cons ha da_nil he) (by decide +kernel) (by decide +kernel) he hpl
theorem b_minL (hc : X.calm = true) (hm : X.mg ("min" : Str) = none) (ha : DV X W e ma) (hg : Gl X ("min" : Str) := by rfl) (he : starEach [e] X.env = (false, eval e X.env) :: starEach [] X.env := by rfl) (hpl : (backTo pos (starEach [] X.env)).any (·.1) = false := by rfl) : DV X W (.Call (.Name ("min" : Str) p) [e] [] pos) (evL (f1 dMinL) (evCons ma evNil)) :=
  dv_callB (cr_min hc) v_minL.call hg hm bt_min (da_cons ha da_nil he) (by decide +kernel) (by decide +kernel) he hpl
theorem b_sum (hc : X.calm = true) (hm : X.mg ("sum" : Str) = none) (ha : DV X W e ma) (hg : Gl X ("sum" : Str) := by rfl) (he : starEach [e] X.env = (false, eval e X.env) :: starEach [] X.env := by rfl) (hpl : (backTo pos (starEach [] X.env)).any (·.1) = false := by rfl) : DV X W (.Call (.Name ("sum" : Str) p) [e] [] pos) (evL (f1 dSum) (evCons ma evNil)) :=
  dv_callB (cr_sum hc) v_sum.call hg hm bt_sum (da_cons ha da_nil he) (by decide +kernel) (by decide +kernel) he hpl
theorem b_all (hc : X.calm = true) (hm : X.mg ("all" : Str) = none) (ha : DV X W e ma) (hg : Gl X ("all" : Str) := by rfl) (he : starEach [e] X.env = (false, eval e X.env) :: starEach [] X.env := by rfl) (hpl : (backTo pos (starEach [] X.env)).any (·.1) = false := by rfl) : DV X W (.Call (.Name ("all" : Str) p) [e] [] pos) (evL (f1 dAll) (evCons ma evNil)) :=
  dv_callB (cr_all hc) v_all.call hg hm bt_all (da_cons ha da_nil he) (by decide +kernel) (by decide +kernel) he hpl
theorem b_tuple (hm : X.mg ("tuple" : Str) = none) (ha : DV X W e ma) (hg : Gl X ("tuple" : Str) := by rfl) (he : starEach [e] X.env = (false, eval e X.env) :: starEach [] X.env := by rfl) (hpl : (backTo pos (starEach [] X.env)).any (·.1) = false := by rfl) : DV X W (.Call (.Name ("tuple" : Str) p) [e] [] pos) (evL (f1 dTupOf) (evCons ma evNil)) :=
  dv_callTy call_tuple_of v_tupOf.call hg hm bt_tuple (da_cons ha da_nil he) (by decide +kernel) (by decide +kernel) he hpl
theorem b_list (hm : X.mg ("list" : Str) = none) (ha : DV X W e ma) (hg : Gl X ("list" : Str) := by rfl) (he : starEach [e] X.env = (false, eval e X.env) :: starEach [] X.env := by rfl) (hpl : (backTo pos (starEach [] X.env)).any (·.1) = false := by rfl) : DV X W (.Call (.Name ("list" : Str) p) [e] [] pos) (evL (f1 dLstOf) (evCons ma evNil)) :=
  dv_callTy call_list_of v_lstOf.call hg hm bt_list (da_cons ha da_nil he) (by decide +kernel) (by decide +kernel) he hpl
theorem b_ix (ha : DV X W a ma) (hb : DV X W b mb) (hs : PlainIx b := by intro _ _; rfl) : DV X W (.Subscript a b pos) (ev2 dIx ma mb) := dv_ix x_ix v_ix.op ha hb hs
theorem b_ixP (j : Nat) {y : Str} {py : Pos} (hN : X.N[j]? = some y) (hvi : Vis X.env.scope y) (hb : DV X W b mb) (hd : (y == ("__debug__" : Str)) = false := by decide +kernel) (hcd : (y == ("__classdict__" : Str)) = false := by decide +kernel) (hs : PlainIx b := by intro _ _; rfl) : DV X W (.Subscript (.Name y py) b pos) (evIxP dIx j mb) :=
  dv_ixP j x_ix v_ix hN hvi hb hd hcd hs
theorem b_sl {lo hi : Option Expr} {ml mh : M (Option Int)} {p2 : Pos} (ha : DV X W a ma) (hl : DPt X W lo ml) (hh : DPt X W hi mh) : DV X W (.Subscript a (.Slice lo hi none p2) pos) (evSl dCut ma ml mh) := dv_sl s_cut v_cut ha hl hh
theorem b_app (j : Nat) {y : Str} {px apos : Pos} (hN : X.N[j]? = some y) (hvi : Vis X.env.scope y) (ha : DA X W (e :: es) ml) (hd : (y == ("__debug__" : Str)) = false := by decide +kernel) (hcd : (y == ("__classdict__" : Str)) = false := by decide +kernel)
    (hbase : attributeBase (.Name y px) "append" X.env (eval (.Name y px) X.env) = eval (.Name y px) X.env := by rfl)
    (hfew : ((backTo pos (starEach (e :: es) X.env)).all (fun x => !x.1) && (backToKw pos (keywordEach [] X.env)).all (fun x => x.1.isSome)
      && decide ((e :: es).length + ([] : List Keyword).length + (if ([] : List Keyword).isEmpty then 0 else 1) < 30)) = true := by rfl)
    (hline : (apos.endLine == pos.line) = true := by rfl) (hs : starEach (e :: es) X.env = (false, eval e X.env) :: starEach es X.env := by rfl) (hplain : (backTo pos (starEach es X.env)).any (·.1) = false := by rfl) :
    DV X W (.Call (.Attribute (.Name y px) "append" apos) (e :: es) [] pos) (evMut appD j ml) := do_mut j PySem.F.slot_list_append PySem.F.type_list_append mt_append v_append hN hvi ha hd hcd hbase hfew hline hs hplain
theorem b_ext (j : Nat) {y : Str} {px apos : Pos} (hN : X.N[j]? = some y) (hvi : Vis X.env.scope y) (ha : DA X W (e :: es) ml) (hd : (y == ("__debug__" : Str)) = false := by decide +kernel) (hcd : (y == ("__classdict__" : Str)) = false := by decide +kernel)
    (hbase : attributeBase (.Name y px) "extend" X.env (eval (.Name y px) X.env) = eval (.Name y px) X.env := by rfl)
    (hfew : ((backTo pos (starEach (e :: es) X.env)).all (fun x => !x.1) && (backToKw pos (keywordEach [] X.env)).all (fun x => x.1.isSome)
      && decide ((e :: es).length + ([] : List Keyword).length + (if ([] : List Keyword).isEmpty then 0 else 1) < 30)) = true := by rfl)
    (hline : (apos.endLine == pos.line) = true := by rfl) (hs : starEach (e :: es) X.env = (false, eval e X.env) :: starEach es X.env := by rfl) (hplain : (backTo pos (starEach es X.env)).any (·.1) = false := by rfl) :
    DV X W (.Call (.Attribute (.Name y px) "extend" apos) (e :: es) [] pos) (evMut extD j ml) := do_mut j PySem.F.slot_list_extend PySem.F.type_list_extend mt_extend v_extend hN hvi ha hd hcd hbase hfew hline hs hplain
theorem b_pop (j : Nat) {y : Str} {px apos : Pos} (hN : X.N[j]? = some y) (hvi : Vis X.env.scope y) (hd : (y == ("__debug__" : Str)) = false := by decide +kernel) (hcd : (y == ("__classdict__" : Str)) = false := by decide +kernel)
    (hbase : attributeBase (.Name y px) "pop" X.env (eval (.Name y px) X.env) = eval (.Name y px) X.env := by rfl) (hline : (apos.endLine == pos.line) = true := by rfl) :
    DV X W (.Call (.Attribute (.Name y px) "pop" apos) [] [] pos) (evPop j) := do_pop j PySem.F.slot_list_pop PySem.F.type_list_pop hN hvi hd hcd hbase hline
theorem b_isiT {T : Str} {n : String} {tb : List (String × Bool)} {tc : List (Str × Bool)} {pT : Pos} (I : IsF X.K X.mg (.type n) tb tc) (hm : X.mg ("isinstance" : Str) = none) (hmT : X.mg T = none) (hbT : bootBuiltins T = some (.type n)) (ha : DV X W e ma) (hgT : Gl X T := by rfl) (hg : Gl X ("isinstance" : Str) := by rfl)
    (hnT : T ≠ "__name__" := by decide +kernel) (hdT : (T == ("__debug__" : Str)) = false := by decide +kernel)
    (hs2 : starEach [.Name T pT] X.env = (false, eval (.Name T pT) X.env) :: starEach [] X.env := by rfl)
    (he : starEach (e :: [.Name T pT]) X.env = (false, eval e X.env) :: starEach [.Name T pT] X.env := by rfl) (hpl : (backTo pos (starEach [.Name T pT] X.env)).any (·.1) = false := by rfl) :
    DV X W (.Call (.Name ("isinstance" : Str) p) (e :: [.Name T pT]) [] pos) (ev1 (dIsi tb tc) ma) := dv_isiT rfl I hg hm bt_isi hgT hmT hbT ha hnT hdT (by decide +kernel) (by decide +kernel) hs2 he hpl
theorem b_isiC {T : Str} {C : Addr} {tb : List (String × Bool)} {tc : List (Str × Bool)} {pT : Pos} (I : IsF X.K X.mg (.ref C) tb tc) (hm : X.mg ("isinstance" : Str) = none) (hmT : X.mg T = some (.ref C)) (ha : DV X W e ma) (hgT : Gl X T := by rfl) (hg : Gl X ("isinstance" : Str) := by rfl)
    (hdT : (T == ("__debug__" : Str)) = false := by decide +kernel)
    (hs2 : starEach [.Name T pT] X.env = (false, eval (.Name T pT) X.env) :: starEach [] X.env := by rfl)
    (he : starEach (e :: [.Name T pT]) X.env = (false, eval e X.env) :: starEach [.Name T pT] X.env := by rfl) (hpl : (backTo pos (starEach [.Name T pT] X.env)).any (·.1) = false := by rfl) :
    DV X W (.Call (.Name ("isinstance" : Str) p) (e :: [.Name T pT]) [] pos) (ev1 (dIsi tb tc) ma) := dv_isiC rfl I hg hm bt_isi hgT hmT ha hdT (by decide +kernel) (by decide +kernel) hs2 he hpl
theorem dv_gi {i : Int} (h : ∃ t, X.mg x = some (.int i t)) (hg : Gl X x := by rfl) (hd : (x == ("__debug__" : Str)) = false := by decide +kernel) : DV X W (.Name x pos) (evC (.int i)) := let ⟨_, h⟩ := h; dv_gint hg h hd
theorem dv_gs {z : Str} (h : ∃ t, X.mg x = some (.str z t)) (hg : Gl X x := by rfl) (hd : (x == ("__debug__" : Str)) = false := by decide +kernel) : DV X W (.Name x pos) (evC (.str z)) := let ⟨_, h⟩ := h; dv_gstr hg h hd
theorem ds_rs {p2 : Pos} (hc : X.calm = true) (tk : Takes X W) (gC : X.mg x = some (.ref (He.ga X.K x))) (h : (He.Fa.exc x).ok X.K = true) (hg : Gl X x := by rfl) (hdb : (x == ("__debug__" : Str)) = false := by decide +kernel) : DS X W L (.Raise (some (.Call (.Name x p) [] [] pos)) none p2) (evRaise x) := by
  exact ds_raise hc tk (Fx.pmk (f := fun X => X.K) h gC hg hdb) gC
theorem pass_ : PassesOwn (model X.prog X.w) X.A X.env X.xe → PassesOwn (model X.prog X.w) X.A X.env X.xe := id
end
end DL
namespace DL
open PySem PySem.Spec PyProof.Rows L2
/-! ### a list or a tuple, walked -/
theorem PI.or {X : Cx} {tg it : Expr} {w1 w2 : TI} (h1 : PI X tg it w1) (h2 : PI X tg it w2) : PI X tg it (fun σ H R => w1 σ H R ∨ w2 σ H R) :=
  ⟨fun pins s σ H R I h => h.elim (h1.run pins s σ H R I) (h2.run pins s σ H R I)⟩
def sgnD (z : Str) : List D := z.cps.toList.map fun c => .str ⟨#[c]⟩
def seqOf : D → Option (List D)
  | .lst ds => some ds
  | .tup ds => some ds
  | .str z => some (sgnD z)
  | _ => none
def evItS (m : M D) : M (List D) := m.bind fun d => fun σ => match d with
  | .str z => .ok (sgnD z) σ
  | _ => .bad
theorem wk_str {K : PySem.W.Frag} {mg : Str → Option Value} {F : Hp} {z : Str} : Wk K mg F (Its z) (sgnD z) := by
  refine ⟨fun _ => True, fun i H v H' => H' = H ∧ ∃ c, z.cps[i]? = some c ∧ v = .str ⟨#[c]⟩, ?_, fun _ _ => trivial, fun i H x H' F1 hi y s1 s2 => ?_⟩
  · have e : (sgnD z).length = z.cps.size := by unfold sgnD; rw [List.length_map, Array.length_toList]
    rw [e]
    exact walk_str
  · obtain ⟨rfl, c, hc, rfl⟩ := y
    refine ⟨.str ⟨#[c]⟩, F1, ?_, Ext.refl s2, rfl⟩
    unfold sgnD
    rw [List.getElem?_map, Array.getElem?_toList, hc]; rfl
theorem di_str {X : Cx} {W : WX} {tg e : Expr} {ma : M D} (ha : DV X W e ma) : DI X W tg e (evItS ma) := by
  obtain ⟨t, q, ha⟩ := ha
  refine ⟨_, pi_str q, fun F H σ τ Q R h => ha F H σ τ _ R ?_⟩
  unfold evItS M.bind at h
  unfold asS
  cases e1 : ma σ with
  | bad => rw [e1] at h; exact h
  | ex x σ1 => rw [e1] at h; exact h
  | ok d σ1 =>
    rw [e1] at h
    intro v F1 H1 R1 r1 _ t1
    cases d with
    | str z => cases r1; exact ⟨z, rfl, h _ F1 H1 R1 wk_str t1.noR⟩
    | _ => exact False.elim h
def evItX (m : M D) : M (List D) := m.bind fun d => fun σ => match seqOf d with
  | some ds => .ok ds σ
  | none => .bad
theorem di_any {X : Cx} {W : WX} {tg e : Expr} {ma : M D} (ha : DV X W e ma) : DI X W tg e (evItX ma) := by
  obtain ⟨w1, p1, h1⟩ := di_list (tg := tg) ha
  obtain ⟨w2, p2, h2⟩ := di_tup (tg := tg) ha
  obtain ⟨w3, p3, h3⟩ := di_str (tg := tg) ha
  refine ⟨_, PI.or (PI.or p1 p2) p3, fun F H σ τ Q R h => ?_⟩
  cases e : ma σ with
  | bad =>
    unfold evItX M.bind at h
    rw [e] at h
    exact False.elim h
  | ex x σ1 =>
    refine .inl (.inl (h1 F H σ τ Q R ?_))
    unfold evItX M.bind at h
    unfold evIt M.bind
    rw [e] at h ⊢
    exact h
  | ok d σ1 =>
    cases d with
    | lst ds =>
      refine .inl (.inl (h1 F H σ τ Q R ?_))
      unfold evItX M.bind at h
      unfold evIt M.bind
      rw [e] at h ⊢
      exact h
    | tup ds =>
      refine .inl (.inr (h2 F H σ τ Q R ?_))
      unfold evItX M.bind at h
      unfold evItT M.bind
      rw [e] at h ⊢
      exact h
    | str z =>
      refine .inr (h3 F H σ τ Q R ?_)
      unfold evItX M.bind at h
      unfold evItS M.bind
      rw [e] at h ⊢
      exact h
    | _ =>
      unfold evItX M.bind at h
      rw [e] at h
      exact False.elim h
/-! ### * -/
def dMul : D → D → Option D
  | .int i, .int j => if mulOk i j = true then some (.int (i * j)) else none
  | .lst xs, .int k => if k < 1000000 ∧ -1000000 < k ∧ xs.length * k.toNat ≤ szMax then some (.lst (List.replicate k.toNat xs).flatten) else none
  | .tup xs, .int k => if xs.isEmpty = false ∧ 2 ≤ k ∧ k ≤ 1000 ∧ xs.length ≤ 1000 then some (.tup (List.replicate k.toNat xs).flatten) else none
  | .str z, .int k => if k < 1000000 ∧ -1000000 < k ∧ z.length * k.toNat ≤ szMax then some (.str ⟨(List.replicate k.toNat z.cps.toList).flatten.toArray⟩) else none
  | _, _ => none
def repS (z : Str) (k : Int) : Str := ⟨(List.replicate k.toNat z.cps.toList).flatten.toArray⟩
def rMulS : R2 := fun x y H Q => ∃ z k, x = .str z ∧ y = .int k ∧ k < 1000000 ∧ -1000000 < k ∧ z.length * k.toNat ≤ szMax ∧ Q (.str (repS z k)) H
theorem foldl_repA (z : Array Nat) : ∀ (n : Nat) (acc : Array Nat), (List.replicate n z).foldl (· ++ ·) acc = acc ++ (List.replicate n z.toList).flatten.toArray
  | 0, acc => by simp
  | n + 1, acc => by
    rw [List.replicate_succ, List.foldl_cons, foldl_repA z n, List.replicate_succ, List.flatten_cons]
    apply Array.ext'
    simp
theorem op_mulS {X : Cx} : OpR X (binaryOp .Mult) rMulS := by
  intro pins s σ H x y v u Q I rx ry h
  obtain ⟨z, k, rfl, rfl, h1, h2, hz, q⟩ := h
  obtain ⟨t, rfl⟩ := rx
  obtain ⟨t', rfl⟩ := ry
  have hl : z.length * k.toNat ≤ sizeLine := sz_ok hz
  refine P.mul_str (by
    have a : ¬ k < -(2 ^ 63 : Int) := by omega
    have b : ¬ k ≥ 2 ^ 63 := by omega
    rw [decide_eq_false a, decide_eq_false b]; rfl) (fun a b => ?_) (fun a b => decide_eq_false (Nat.not_lt.mpr hl)) ?_
  · intro c
    have hk : (0 : Int) < k := by omega
    have c2 : (2 ^ 63 - 1) / k < (z.length : Int) := c
    rw [Int.ediv_lt_iff_lt_mul hk] at c2
    have e : (z.length : Int) * k = ((z.length * k.toNat : Nat) : Int) := by rw [Int.natCast_mul, Int.toNat_of_nonneg (by omega)]
    rw [e] at c2
    have : (szMax : Int) < 2 ^ 63 - 1 := by decide
    omega
  · by_cases c1 : k < 1
    · rw [if_pos c1]
      have e : repS z k = Str.empty := by
        unfold repS
        rw [show k.toNat = 0 by omega]; rfl
      rw [e] at q
      exact ⟨by decide, .str _, H, I.tok _, ⟨_, rfl⟩, q⟩
    · rw [if_neg c1]
      by_cases c2 : (k == 1 || z.length == 0) = true
      · rw [if_pos c2]
        have e : repS z k = z := by
          unfold repS
          apply PySem.Str.ext'
          rw [Bool.or_eq_true, beq_iff_eq, beq_iff_eq] at c2
          rcases c2 with c2 | c2
          · subst c2
            show (List.replicate 1 z.cps.toList).flatten.toArray = z.cps
            rw [List.replicate_one, List.flatten_singleton, Array.toArray_toList]
          · have e0 : z.cps = #[] := Array.eq_empty_of_size_eq_zero c2
            rw [e0]
            apply Array.ext'
            simp
        rw [e] at q
        exact ⟨.str z, H, I, ⟨t, rfl⟩, q⟩
      · rw [if_neg c2]
        have e : (⟨(List.replicate k.toNat z.cps).foldl (· ++ ·) #[]⟩ : Str) = repS z k := by
          unfold repS
          rw [foldl_repA, Array.empty_append]
        rw [e]
        refine ⟨?_, .str _, H, I.tok _, ⟨_, rfl⟩, q⟩
        show (repS z k).cps.size ≤ sizeLine
        unfold repS
        rw [List.size_toArray, List.length_flatten, List.map_replicate, List.sum_replicate_nat, Array.length_toList, Nat.mul_comm]
        exact hl
def rMulA (K : PySem.W.Frag) : R2 := fun x y H Q => (((rI CMulW fun i j => .int (i * j)) x y H Q ∨ rRep x y H Q) ∨ rRepT K x y H Q) ∨ rMulS x y H Q
theorem o_mul {X : Cx} : OpR X (binaryOp .Mult) (rMulA X.K) := OpR.or (OpR.or (OpR.or op_mulW op_rep) op_repT) op_mulS
theorem rep_len {α : Type} (n : Nat) (xs : List α) : (List.replicate n xs).flatten.length = xs.length * n := by
  rw [List.length_flatten, List.map_replicate, List.sum_replicate_nat, Nat.mul_comm]
theorem v_mul {K : PySem.W.Frag} {mg : Str → Option Value} : VOp2 K mg (rMulA K) dMul := by
  intro F H x y u v d Q s rx ry e k
  unfold dMul at e
  split at e
  · split at e
    · rename_i hc
      cases e
      cases rx; cases ry
      exact .inl (.inl (.inl ⟨_, _, rfl, rfl, mulOk_w hc, k _ F H (Ext.refl s) rfl⟩))
    · cases e
  · split at e
    · rename_i xs n hc
      cases e
      obtain ⟨a, vs, rfl, h1, h2, h3⟩ := rx
      cases ry
      have zz : vs.length * n.toNat ≤ sizeLine := by rw [← h3.len]; exact sz_ok hc.2.2
      refine .inl (.inl (.inr ⟨a, n, vs, rfl, rfl, s _ _ h1, by omega, by omega, zz, fun p np => ?_⟩))
      obtain ⟨x, r⟩ := new_lst (mg := mg) s np (by rw [rep_len]; exact zz) (h3.flat n.toNat)
      exact k _ _ _ x r
    · cases e
  · split at e
    · rename_i xs n hc
      cases e
      obtain ⟨a, vs, rfl, h1, h2, h3⟩ := rx
      cases ry
      have hl := h3.len
      have hv : vs ≠ [] := fun z => by
        rw [z] at hl
        have : xs = [] := List.length_eq_zero_iff.mp hl
        rw [this] at hc
        exact absurd hc.1 (by decide)
      have h4 : vs.length ≤ 1000 := by rw [← hl]; exact hc.2.2.2
      have zz : vs.length * n.toNat ≤ sizeLine := by
        have h5 : n.toNat ≤ 1000 := by omega
        have h6 : vs.length * n.toNat ≤ 1000 * 1000 := Nat.mul_le_mul h4 h5
        exact sz_ok (Nat.le_trans h6 (by decide))
      refine .inl (.inr ⟨a, n, vs, rfl, rfl, .inl (.inl (s _ _ h1)), hv, hc.2.1, hc.2.2.1, h4, fun p np => ?_⟩)
      obtain ⟨x, r⟩ := new_tup (mg := mg) s np (by rw [rep_len]; exact zz) (h3.flat n.toNat)
      exact k _ _ _ x r
    · cases e
  · split at e
    · rename_i z n hc
      cases e
      cases rx; cases ry
      exact .inr ⟨_, _, rfl, rfl, hc.1, hc.2.1, hc.2.2, k _ F H (Ext.refl s) rfl⟩
    · cases e
  · cases e
/-! ### the text of a class -/
def clsBody : Stmt → List Stmt
  | .ClassDef _ _ _ b _ _ _ _ _ _ _ => b
  | _ => []
end DL
namespace DL
open PySem
section
variable {α β : Type} {E : Ex → List Sl → Prop} {σ : List Sl}
def slD : Sl → Option D
  | .d x => some x
  | .o o => some o.frz
  | .un => none
theorem isSet_of {j : Nat} {s : Sl} {x : D} (e : σ[j]? = some s) (ed : slD s = some x) : isSet σ j = true := by
  unfold isSet
  rw [e]
  cases s with
  | un => cases ed
  | d y => rfl
  | o o => rfl
theorem rng_get {lo : Int} {n i : Nat} {d : D} (h : (rng lo n)[i]? = some d) : i < n ∧ d = .int (lo + i) := by
  unfold rng at h
  rw [List.getElem?_map] at h
  by_cases hi : i < n
  · rw [List.getElem?_range hi] at h
    cases h
    exact ⟨hi, rfl⟩
  · rw [List.getElem?_eq_none (by rw [List.length_range]; omega)] at h
    cases h
end
section
variable {P : D → Prop} {i j : Int}
theorem log2_lt {n k : Nat} (hk : n < 2 ^ k) (h0 : 0 < k) : n.log2 < k := by
  by_cases hn : n = 0
  · subst hn; simpa using h0
  · exact (Nat.log2_lt hn).mpr hk
theorem mulOk_of {i j : Int} (hi : i.natAbs < 2 ^ 200) (hj : j.natAbs < 2 ^ 200) : mulOk i j = true := by
  have h1 := log2_lt hi (by decide)
  have h2 := log2_lt hj (by decide)
  unfold mulOk
  exact decide_eq_true (by omega)
end
section
variable {P : D → Prop}
theorem x_bl {b : Bool} {P : Bool → Prop} (h : P b) : ∃ k, D.bl b = .bl k ∧ P k := ⟨_, rfl, h⟩
theorem x_int {b : Int} {P : Int → Prop} (h : P b) : ∃ k, D.int b = .int k ∧ P k := ⟨_, rfl, h⟩
theorem x_int1 {b : Int} {P : Int → Prop} (h : P b) : ∃ k, [D.int b] = [.int k] ∧ P k := ⟨_, rfl, h⟩
theorem x_int2 {a b : Int} {P : Int → Int → Prop} (h : P a b) : ∃ k l, [D.int a, D.int b] = [.int k, .int l] ∧ P k l := ⟨_, _, rfl, h⟩
theorem x_par {a b : D} {P : D → D → Prop} (h : P a b) : ∃ k l, [a, b] = [k, l] ∧ P k l := ⟨_, _, rfl, h⟩
theorem x_ins {c : Str} {a : List Str} {b : List D} {P : List Str → List D → Prop} (h : P a b) : ∃ k l, D.ins c a b = .ins c k l ∧ P k l := ⟨_, _, rfl, h⟩
theorem x_o {σ : List Sl} {j : Nat} {o : O} {P : O → Prop} (e : σ[j]? = some (.o o)) (h : P o) : ∃ o, σ[j]? = some (.o o) ∧ P o := ⟨o, e, h⟩
theorem x_ol {σ : List Sl} {j : Nat} {o : List D} {P : List D → Prop} (e : σ[j]? = some (.o (.lst o))) (h : P o) : ∃ o, σ[j]? = some (.o (.lst o)) ∧ P o := ⟨o, e, h⟩
theorem x_oi {σ : List Sl} {j : Nat} {c : Str} {a : List Str} {b : List D} {P : List Str → List D → Prop} (e : σ[j]? = some (.o (.ins c a b))) (h : P a b) : ∃ ns vs, σ[j]? = some (.o (.ins c ns vs)) ∧ P ns vs := ⟨a, b, e, h⟩
theorem x_cons {a : Sl} {t : List Sl} {P : Sl → List Sl → Prop} (h : P a t) : ∃ p r, a :: t = p :: r ∧ P p r := ⟨_, _, rfl, h⟩
theorem x_make {a : O} {t : List Sl} {P : O → List Sl → Prop} (h : P a t) : ∃ p r, Sl.d .non = .d .non ∧ Sl.o a :: t = .o p :: r ∧ P p r := ⟨_, _, rfl, rfl, h⟩
theorem tf_t {A B : Prop} (h : A) : (true = true → A) ∧ (true = false → B) := ⟨fun _ => h, (fun z => nomatch z)⟩
theorem tf_f {A B : Prop} (h : B) : (false = true → A) ∧ (false = false → B) := ⟨(fun z => nomatch z), fun _ => h⟩
theorem ft_t {A B : Prop} (h : B) : (true = false → A) ∧ (true = true → B) := ⟨(fun z => nomatch z), fun _ => h⟩
theorem ft_f {A B : Prop} (h : A) : (false = false → A) ∧ (false = true → B) := ⟨fun _ => h, (fun z => nomatch z)⟩
theorem tf_t' {b : Bool} {A B : Prop} (e : b = true) (h : A) : (b = true → A) ∧ (b = false → B) := ⟨fun _ => h, (fun z => by rw [e] at z; cases z)⟩
theorem tf_f' {b : Bool} {A B : Prop} (e : b = false) (h : B) : (b = true → A) ∧ (b = false → B) := ⟨(fun z => by rw [e] at z; cases z), fun _ => h⟩
theorem ft_t' {b : Bool} {A B : Prop} (e : b = true) (h : B) : (b = false → A) ∧ (b = true → B) := ⟨(fun z => by rw [e] at z; cases z), fun _ => h⟩
theorem ft_f' {b : Bool} {A B : Prop} (e : b = false) (h : A) : (b = false → A) ∧ (b = true → B) := ⟨fun _ => h, (fun z => by rw [e] at z; cases z)⟩
theorem a_set {j : Nat} {σ : List Sl} {A : Prop} (e : isSet σ j = true) (h : A) : isSet σ j = true ∧ A := ⟨e, h⟩
theorem a_le {a b : Nat} {A : Prop} (e : a ≤ b) (h : A) : a ≤ b ∧ A := ⟨e, h⟩
theorem a_len {xs : List D} {A : Prop} (e : xs.length ≤ szMax) (h : A) : xs.length ≤ szMax ∧ A := ⟨e, h⟩
theorem a_lt {n k : Nat} {A : Prop} (e : n < k) (h : A) : n < k ∧ A := ⟨e, h⟩
theorem a_ct {ns : List Str} {m : Str} {A : Prop} (e : ns.contains m = false) (h : A) : ns.contains m = false ∧ A := ⟨e, h⟩
end

namespace Z
open PySem
def wp {α : Type} (r : Res α) (E : Ex → List Sl → Prop) (Q : α → List Sl → Prop) : Prop := match r with
  | .ok a σ => Q a σ
  | .ex e σ => E e σ
  | .bad => False
def owp {α : Type} (o : Option α) (P : α → Prop) : Prop := match o with
  | some a => P a
  | none => False
section
variable {α β : Type} {E : Ex → List Sl → Prop} {σ : List Sl}
def kSeq (E : Ex → List Sl → Prop) (n : M Fl) (Q : Fl → List Sl → Prop) (f : Fl) (σ : List Sl) : Prop := match f with
  | .nx => wp (n σ) E Q
  | f => Q f σ
theorem k_nx {n : M Fl} {Q : Fl → List Sl → Prop} {z : List Sl} (e : σ = z) (h : wp (n z) E Q) : kSeq E n Q .nx σ := by subst e; exact h
theorem k_rt {n : M Fl} {Q : Fl → List Sl → Prop} {r : Sl} (h : Q (.rt r) σ) : kSeq E n Q (.rt r) σ := h
theorem k_ct {n : M Fl} {Q : Fl → List Sl → Prop} (h : Q .ct σ) : kSeq E n Q .ct σ := h
theorem k_bk {n : M Fl} {Q : Fl → List Sl → Prop} (h : Q .bk σ) : kSeq E n Q .bk σ := h
def kFn (L : List Nat) (ps : List Sl) (Q : Sl → List Sl → Prop) (f : Fl) (σ' : List Sl) : Prop := match f with
  | .nx => Q (.d .non) (fin L 0 ps σ')
  | .rt r => Q r (fin L 0 ps σ')
  | _ => False
theorem k_Fnx {L : List Nat} {ps : List Sl} {Q : Sl → List Sl → Prop} {z : List Sl} (e : fin L 0 ps σ = z) (h : Q (.d .non) z) : kFn L ps Q .nx σ := by subst e; exact h
theorem k_Frt {L : List Nat} {ps : List Sl} {Q : Sl → List Sl → Prop} {r : Sl} {z : List Sl} (e : fin L 0 ps σ = z) (h : Q r z) : kFn L ps Q (.rt r) σ := by subst e; exact h
def kLp (I : List Sl → Prop) (Q : Fl → List Sl → Prop) (f : Fl) (σ2 : List Sl) : Prop := match f with
  | .nx => I σ2
  | .ct => I σ2
  | .bk => Q .nx σ2
  | .rt r => Q (.rt r) σ2
theorem k_Lnx {I : List Sl → Prop} {Q : Fl → List Sl → Prop} {z : List Sl} (e : σ = z) (h : I z) : kLp I Q .nx σ := by subst e; exact h
theorem k_Lct {I : List Sl → Prop} {Q : Fl → List Sl → Prop} (h : I σ) : kLp I Q .ct σ := h
theorem k_Lbk {I : List Sl → Prop} {Q : Fl → List Sl → Prop} (h : Q .nx σ) : kLp I Q .bk σ := h
theorem k_Lrt {I : List Sl → Prop} {Q : Fl → List Sl → Prop} {r : Sl} (h : Q (.rt r) σ) : kLp I Q (.rt r) σ := h
theorem wp_mono {r : Res α} {Q Q' : α → List Sl → Prop} {E' : Ex → List Sl → Prop} (h : wp r E Q) (hq : ∀ a σ, Q a σ → Q' a σ) (he : ∀ e σ, E e σ → E' e σ) : wp r E' Q' := by
  cases r with
  | ok a σ => exact hq a σ h
  | ex e σ => exact he e σ h
  | bad => exact h
theorem wp_eq {r : Res α} {a : α} {σ1 : List Sl} {Q : α → List Sl → Prop} (e : r = .ok a σ1) (h : Q a σ1) : wp r E Q := by rw [e]; exact h
theorem wp_ex {r : Res α} {x : Ex} {σ1 : List Sl} {Q : α → List Sl → Prop} (e : r = .ex x σ1) (h : E x σ1) : wp r E Q := by rw [e]; exact h
theorem wp_bind {m : M α} {f : α → M β} {Q : β → List Sl → Prop} (h : wp (m σ) E fun a σ1 => wp (f a σ1) E Q) : wp (M.bind m f σ) E Q := by
  unfold M.bind
  cases e : m σ with
  | ok a σ1 => rw [e] at h; exact h
  | ex x σ1 => rw [e] at h; exact h
  | bad => rw [e] at h; exact h
theorem owp_some {o : Option α} {a : α} {P : α → Prop} (e : o = some a) (h : P a) : owp o P := by rw [e]; exact h
theorem w_lift {o : Option D} {Q : D → List Sl → Prop} (h : owp o fun d => Q d σ) : wp (lift o σ) E Q := by
  unfold lift
  cases o with
  | some d => exact h
  | none => exact h
theorem w_C {d : D} {Q : D → List Sl → Prop} (h : Q d σ) : wp (evC d σ) E Q := h
theorem w_Vd {i : Nat} {x : D} {Q : D → List Sl → Prop} (e : σ[i]? = some (.d x)) (h : Q x σ) : wp (evV i σ) E Q := by unfold evV; rw [e]; exact h
theorem w_Vo {i : Nat} {o : O} {Q : D → List Sl → Prop} (e : σ[i]? = some (.o o)) (h : Q o.frz (σ.set i (.d o.frz))) : wp (evV i σ) E Q := by unfold evV; rw [e]; exact h
theorem w_Mvd {i : Nat} {x : D} {Q : Sl → List Sl → Prop} (e : σ[i]? = some (.d x)) (h : Q (.d x) σ) : wp (evMv i σ) E Q := by unfold evMv; rw [e]; exact h
theorem w_Mvo {i : Nat} {o : O} {Q : Sl → List Sl → Prop} (e : σ[i]? = some (.o o)) (h : Q (.o o) (σ.set i .un)) : wp (evMv i σ) E Q := by unfold evMv; rw [e]; exact h
theorem w_1 {f : D → Option D} {m : M D} {Q : D → List Sl → Prop} (h : wp (m σ) E fun x σ1 => owp (f x) fun d => Q d σ1) : wp (ev1 f m σ) E Q := wp_bind (wp_mono h (fun _ _ h => w_lift h) fun _ _ h => h)
theorem w_2 {f : D → D → Option D} {m n : M D} {Q : D → List Sl → Prop} (h : wp (m σ) E fun x σ1 => wp (n σ1) E fun y σ2 => owp (f x y) fun d => Q d σ2) : wp (ev2 f m n σ) E Q :=
  wp_bind (wp_mono h (fun _ _ h => wp_bind (wp_mono h (fun _ _ h => w_lift h) fun _ _ h => h)) fun _ _ h => h)
theorem w_S {m : M D} {Q : Sl → List Sl → Prop} (h : wp (m σ) E fun d σ1 => Q (.d d) σ1) : wp (asS m σ) E Q := by
  unfold asS
  cases e : m σ with
  | ok a σ1 => rw [e] at h; exact h
  | ex x σ1 => rw [e] at h; exact h
  | bad => rw [e] at h; exact h
theorem w_F {m : M Sl} {Q : D → List Sl → Prop} (h : wp (m σ) E fun s σ1 => owp (slD s) fun d => Q d σ1) : wp (frzM m σ) E Q := by
  unfold frzM
  cases e : m σ with
  | ok a σ1 => rw [e] at h; cases a <;> exact h
  | ex x σ1 => rw [e] at h; exact h
  | bad => rw [e] at h; exact h
theorem w_nil {Q : List D → List Sl → Prop} (h : Q [] σ) : wp (evNil σ) E Q := h
theorem w_cons {m : M D} {r : M (List D)} {Q : List D → List Sl → Prop} (h : wp (m σ) E fun x σ1 => wp (r σ1) E fun xs σ2 => Q (x :: xs) σ2) : wp (evCons m r σ) E Q :=
  wp_bind (wp_mono h (fun _ _ h => wp_bind (wp_mono h (fun _ _ h => h) fun _ _ h => h)) fun _ _ h => h)
theorem w_L {f : List D → Option D} {m : M (List D)} {Q : D → List Sl → Prop} (h : wp (m σ) E fun xs σ1 => owp (f xs) fun d => Q d σ1) : wp (evL f m σ) E Q := wp_bind (wp_mono h (fun _ _ h => w_lift h) fun _ _ h => h)
theorem w_Lst {m : M (List D)} {Q : Sl → List Sl → Prop} (h : wp (m σ) E fun xs σ1 => xs.length ≤ szMax ∧ Q (.o (.lst xs)) σ1) : wp (evLst m σ) E Q :=
  wp_bind (wp_mono h (fun _ _ h => by
    try dsimp only
    rw [if_pos h.1]
    exact h.2) fun _ _ h => h)
theorem w_no {Q : Option Int → List Sl → Prop} (h : Q none σ) : wp (evNo σ) E Q := h
theorem w_Pt {m : M D} {Q : Option Int → List Sl → Prop} (h : wp (m σ) E fun d σ1 => ∃ i, d = .int i ∧ Q (some i) σ1) : wp (evPt m σ) E Q := by
  unfold evPt
  cases e : m σ with
  | ok a σ1 => rw [e] at h; obtain ⟨i, rfl, h⟩ := h; exact h
  | ex x σ1 => rw [e] at h; exact h
  | bad => rw [e] at h; exact h
theorem w_Sl {f : D → Option Int → Option Int → Option D} {m : M D} {l h : M (Option Int)} {Q : D → List Sl → Prop} (q : wp (m σ) E fun x σ1 => wp (l σ1) E fun a σ2 => wp (h σ2) E fun b σ3 => owp (f x a b) fun d => Q d σ3) : wp (evSl f m l h σ) E Q :=
  wp_bind (wp_mono q (fun _ _ h => wp_bind (wp_mono h (fun _ _ h => wp_bind (wp_mono h (fun _ _ h => w_lift h) fun _ _ h => h)) fun _ _ h => h)) fun _ _ h => h)
theorem w_pk {f : D → Option D} {j : Nat} {s : Sl} {x : D} {Q : D → List Sl → Prop} (e : σ[j]? = some s) (ed : slD s = some x) (h : owp (f x) fun d => Q d σ) : wp (pkAt f j σ) E Q := by
  unfold pkAt
  rw [e]
  cases s with
  | un => cases ed
  | d y => cases ed; exact w_lift h
  | o o => cases ed; exact w_lift h
theorem w_LenP {f : D → Option D} {j : Nat} {s : Sl} {x : D} {Q : D → List Sl → Prop} (e : σ[j]? = some s) (ed : slD s = some x) (h : owp (f x) fun d => Q d σ) : wp (evLenP f j σ) E Q := w_pk e ed h
theorem w_IxP {f : D → D → Option D} {j : Nat} {m : M D} {Q : D → List Sl → Prop} (hs : isSet σ j = true) (h : wp (m σ) E fun y σ1 => wp (pkAt (fun x => f x y) j σ1) E Q) : wp (evIxP f j m σ) E Q := by
  unfold evIxP
  rw [if_pos hs]
  exact wp_bind h
theorem w_FldP {c f : Str} {j : Nat} {s : Sl} {x : D} {Q : D → List Sl → Prop} (e : σ[j]? = some s) (ed : slD s = some x) (h : owp (dFld c f x) fun d => Q d σ) : wp (evFldP c f j σ) E Q := by
  unfold evFldP
  rw [e]
  cases s with
  | un => cases ed
  | d y => cases ed; exact w_lift h
  | o o => cases ed; exact w_lift h
theorem w_And {m n : M D} {Q : D → List Sl → Prop} (h : wp (m σ) E fun d σ1 => ∃ b, d = .bl b ∧ (b = true → wp (n σ1) E Q) ∧ (b = false → Q (.bl false) σ1)) : wp (evAnd m n σ) E Q := by
  unfold evAnd
  cases e : m σ with
  | ok a σ1 => rw [e] at h; obtain ⟨b, rfl, h1, h2⟩ := h; cases b; exact h2 rfl; exact h1 rfl
  | ex x σ1 => rw [e] at h; exact h
  | bad => rw [e] at h; exact h
theorem w_Or {m n : M D} {Q : D → List Sl → Prop} (h : wp (m σ) E fun d σ1 => ∃ b, d = .bl b ∧ (b = false → wp (n σ1) E Q) ∧ (b = true → Q (.bl true) σ1)) : wp (evOr m n σ) E Q := by
  unfold evOr
  cases e : m σ with
  | ok a σ1 => rw [e] at h; obtain ⟨b, rfl, h1, h2⟩ := h; cases b; exact h1 rfl; exact h2 rfl
  | ex x σ1 => rw [e] at h; exact h
  | bad => rw [e] at h; exact h
theorem w_Chain {f g : D → D → Option D} {ma mb mc : M D} {Q : D → List Sl → Prop} (h : wp (ma σ) E fun x σ1 => wp (mb σ1) E fun y σ2 => owp (f x y) fun d => ∃ k, d = .bl k ∧ (k = true → wp (mc σ2) E fun z σ3 => owp (g y z) fun d => Q d σ3) ∧ (k = false → Q (.bl false) σ2)) : wp (evChain f g ma mb mc σ) E Q := by
  refine wp_bind (wp_mono h (fun x σ1 h => wp_bind (wp_mono h (fun y σ2 h => ?_) fun _ _ h => h)) fun _ _ h => h)
  try dsimp only
  cases e : f x y with
  | none => rw [e] at h; exact h
  | some d =>
    rw [e] at h
    obtain ⟨k, rfl, h1, h2⟩ := h
    cases k with
    | false => exact h2 rfl
    | true => exact wp_bind (wp_mono (h1 rfl) (fun _ _ h => w_lift h) fun _ _ h => h)
theorem w_B {m : M D} {Q : Bool → List Sl → Prop} (h : wp (m σ) E fun d σ1 => ∃ b, d = .bl b ∧ Q b σ1) : wp (toB m σ) E Q := by
  unfold toB
  cases e : m σ with
  | ok a σ1 => rw [e] at h; obtain ⟨b, rfl, h⟩ := h; exact h
  | ex x σ1 => rw [e] at h; exact h
  | bad => rw [e] at h; exact h
theorem w_Not {m : M Bool} {Q : Bool → List Sl → Prop} (h : wp (m σ) E fun b σ1 => Q (!b) σ1) : wp (tNotM m σ) E Q := wp_bind (wp_mono h (fun _ _ h => h) fun _ _ h => h)
theorem w_tAnd {m n : M Bool} {Q : Bool → List Sl → Prop} (h : wp (m σ) E fun b σ1 => (b = true → wp (n σ1) E Q) ∧ (b = false → Q false σ1)) : wp (tAndM m n σ) E Q :=
  wp_bind (wp_mono h (fun b _ h => by
    cases b
    · exact h.2 rfl
    · exact h.1 rfl) fun _ _ h => h)
theorem w_tOr {m n : M Bool} {Q : Bool → List Sl → Prop} (h : wp (m σ) E fun b σ1 => (b = false → wp (n σ1) E Q) ∧ (b = true → Q true σ1)) : wp (tOrM m n σ) E Q :=
  wp_bind (wp_mono h (fun b _ h => by
    cases b
    · exact h.1 rfl
    · exact h.2 rfl) fun _ _ h => h)
theorem w_If {c : M Bool} {m n : M α} {Q : α → List Sl → Prop} (h : wp (c σ) E fun b σ1 => (b = true → wp (m σ1) E Q) ∧ (b = false → wp (n σ1) E Q)) : wp (evIf c m n σ) E Q :=
  wp_bind (wp_mono h (fun b _ h => by
    cases b
    · exact h.2 rfl
    · exact h.1 rfl) fun _ _ h => h)
theorem w_C0 {f : List Sl → Res Sl} {m : M (List D)} {Q : Sl → List Sl → Prop} (h : wp (m σ) E fun ds σ1 => wp (f (ds.map .d)) (fun e _ => E e σ1) fun r _ => Q r σ1) : wp (semC f m σ) E Q :=
  wp_bind (wp_mono h (fun ds σ1 h => by
    try dsimp only
    cases e : f (ds.map .d) with
    | ok a σ1 => rw [e] at h; exact h
    | ex x σ1 => rw [e] at h; exact h
    | bad => rw [e] at h; exact h) fun _ _ h => h)
theorem w_IOo {f : List Sl → Res Sl} {j : Nat} {m : M (List D)} {Q : Sl → List Sl → Prop} (hs : isSet σ j = true) (h : wp (m σ) E fun ds σ1 => ∃ o, σ1[j]? = some (.o o) ∧ wp (f (.o o :: ds.map .d)) (fun e ps => ∃ p r, ps = p :: r ∧ E e (σ1.set j p)) fun r ps => ∃ p t, ps = p :: t ∧ Q r (σ1.set j p)) : wp (semIO f j m σ) E Q := by
  unfold semIO
  rw [if_pos hs]
  refine wp_bind (wp_mono h (fun ds σ1 h => ?_) fun _ _ h => h)
  obtain ⟨o, e, h⟩ := h
  unfold semIO1
  rw [e]
  dsimp only
  cases e : f (.o o :: ds.map .d) with
  | ok a ps => rw [e] at h; obtain ⟨p, r, rfl, h⟩ := h; exact h
  | ex x ps => rw [e] at h; obtain ⟨p, r, rfl, h⟩ := h; exact h
  | bad => rw [e] at h; exact h
theorem w_M {c mn : Str} {f : List Sl → Res Sl} {m : M D} {ml : M (List D)} {Q : Sl → List Sl → Prop} (h : wp (m σ) E fun x σ1 => ∃ ns vs, x = .ins c ns vs ∧ ns.contains mn = false ∧ wp (ml σ1) E fun ds σ2 => wp (f ((x :: ds).map .d)) (fun e _ => E e σ2) fun r _ => Q r σ2) : wp (semM c mn f m ml σ) E Q := by
  refine wp_bind (wp_mono h (fun x σ1 h => ?_) fun _ _ h => h)
  obtain ⟨ns, vs, rfl, h1, h⟩ := h
  dsimp only
  rw [if_pos ⟨rfl, h1⟩]
  refine wp_bind (wp_mono h (fun ds σ2 h => ?_) fun _ _ h => h)
  cases e : f ((D.ins c ns vs :: ds).map .d) with
  | ok a ps => rw [e] at h; exact h
  | ex x ps => rw [e] at h; exact h
  | bad => rw [e] at h; exact h
theorem w_P {c : Str} {f : List Sl → Res Sl} {m : M D} {Q : Sl → List Sl → Prop} (h : wp (m σ) E fun x σ1 => ∃ ns vs, x = .ins c ns vs ∧ wp (f [.d x]) (fun _ _ => False) fun r _ => Q r σ1) : wp (semP c f m σ) E Q := by
  refine wp_bind (wp_mono h (fun x σ1 h => ?_) fun _ _ h => h)
  obtain ⟨ns, vs, rfl, h⟩ := h
  dsimp only
  rw [if_pos rfl]
  cases e : f [.d (.ins c ns vs)] with
  | ok a ps => rw [e] at h; exact h
  | ex x ps => rw [e] at h; exact h.elim
  | bad => rw [e] at h; exact h
theorem w_K {c : Str} {f : List Sl → Res Sl} {ml : M (List D)} {Q : Sl → List Sl → Prop} (h : wp (ml σ) E fun ds σ1 => wp (f (.o (.ins c [] []) :: ds.map .d)) (fun e _ => E e σ1) fun r ps => ∃ p t, r = .d .non ∧ ps = .o p :: t ∧ Q (.o p) σ1) : wp (semK c f ml σ) E Q := by
  refine wp_bind (wp_mono h (fun ds σ1 h => ?_) fun _ _ h => h)
  try dsimp only
  cases e : f (.o (.ins c [] []) :: ds.map .d) with
  | ok a ps => rw [e] at h; obtain ⟨p, t, rfl, rfl, h⟩ := h; exact h
  | ex x ps => rw [e] at h; exact h
  | bad => rw [e] at h; exact h
/-- a def's body -/
theorem w_sem {np n : Nat} {L : List Nat} {m : M Fl} {ps : List Sl} {Q : Sl → List Sl → Prop} (ok : (Nat.beq ps.length np && okPs L 0 ps) = true) {z : List Sl} (ez : ps ++ List.replicate (n - ps.length) .un = z) (h : wp (m z) (fun e σ' => E e (fin L 0 ps σ')) fun f σ' => kFn L ps Q f σ') : wp (semOf np n L m ps) E Q := by
  subst ez
  unfold semOf
  rw [if_pos ok]
  cases e : m (ps ++ List.replicate (n - ps.length) .un) with
  | ok a σ1 => rw [e] at h; cases a <;> first | exact h | exact h.elim
  | ex x σ1 => rw [e] at h; exact h
  | bad => rw [e] at h; exact h
theorem w_Seq {m n : M Fl} {Q : Fl → List Sl → Prop} (h : wp (m σ) E fun f σ1 => kSeq E n Q f σ1) : wp (evSeq m n σ) E Q := wp_bind (wp_mono h (fun f _ h => by cases f <;> exact h) fun _ _ h => h)
theorem w_Set {i : Nat} {m : M Sl} {Q : Fl → List Sl → Prop} (h : wp (m σ) E fun r σ1 => Q .nx (σ1.set i r)) : wp (evSet i m σ) E Q := wp_bind (wp_mono h (fun _ _ h => h) fun _ _ h => h)
theorem w_Drop {m : M Sl} {Q : Fl → List Sl → Prop} (h : wp (m σ) E fun r σ1 => Q .nx σ1) : wp (evDrop m σ) E Q := wp_bind (wp_mono h (fun _ _ h => h) fun _ _ h => h)
theorem w_Ret {m : M Sl} {Q : Fl → List Sl → Prop} (h : wp (m σ) E fun r σ1 => Q (.rt r) σ1) : wp (evRet m σ) E Q := wp_bind (wp_mono h (fun _ _ h => h) fun _ _ h => h)
theorem w_Pass {Q : Fl → List Sl → Prop} (h : Q .nx σ) : wp (evPass σ) E Q := h
theorem w_Ct {Q : Fl → List Sl → Prop} (h : Q .ct σ) : wp (evCt σ) E Q := h
theorem w_Raise {c : Str} {Q : Fl → List Sl → Prop} (h : E ⟨c, [], []⟩ σ) : wp (evRaise c σ) E Q := h
theorem w_Asg {s : D → List Sl → Option (List Sl)} {m : M D} {Q : Fl → List Sl → Prop} (h : wp (m σ) E fun d σ1 => owp (s d σ1) fun σ2 => Q .nx σ2) : wp (evAsg s m σ) E Q := wp_bind (wp_mono h (fun d σ1 h => by
    try dsimp only
    cases e : s d σ1 with
    | none => rw [e] at h; exact h
    | some z => rw [e] at h; exact h) fun _ _ h => h)
theorem w_Par {i j : Nat} {m : M (List D)} {Q : Fl → List Sl → Prop} (h : wp (m σ) E fun ds σ1 => ∃ x y, ds = [x, y] ∧ Q .nx ((σ1.set i (.d x)).set j (.d y))) : wp (evPar i j m σ) E Q := wp_bind (wp_mono h (fun ds σ1 h => by
    obtain ⟨x, y, rfl, h⟩ := h
    exact h) fun _ _ h => h)
theorem w_SetIx {f : O → D → D → Option O} {j : Nat} {me mi : M D} {Q : Fl → List Sl → Prop} (h : wp (me σ) E fun y σ1 => isSet σ1 j = true ∧ wp (mi σ1) E fun i σ2 => ∃ o, σ2[j]? = some (.o o) ∧ owp (f o i y) fun z => Q .nx (σ2.set j (.o z))) : wp (evSetIx f j me mi σ) E Q := by
  refine wp_bind (wp_mono h (fun y σ1 h => ?_) fun _ _ h => h)
  try dsimp only
  rw [if_pos h.1]
  refine wp_bind (wp_mono h.2 (fun i σ2 h => ?_) fun _ _ h => h)
  obtain ⟨o, e, h⟩ := h
  rw [e]
  dsimp only
  cases e : f o i y with
  | none => rw [e] at h; exact h
  | some z => rw [e] at h; exact h
theorem w_FldS {c f : Str} {j : Nat} {m : M D} {Q : Fl → List Sl → Prop} (hs : isSet σ j = true) (h : wp (m σ) E fun x σ1 => ∃ ns vs, σ1[j]? = some (.o (.ins c ns vs)) ∧ ns.length < 100 ∧ Q .nx (σ1.set j (.o (.ins c (putNs f ns) (putVs f x ns vs))))) : wp (evFldS c f j m σ) E Q := by
  unfold evFldS
  rw [if_pos hs]
  refine wp_bind (wp_mono h (fun x σ1 h => ?_) fun _ _ h => h)
  obtain ⟨ns, vs, e, hl, h⟩ := h
  try dsimp only
  rw [e]
  dsimp only
  rw [if_pos ⟨rfl, hl⟩]
  exact h
theorem w_Mut {f : List D → List D → Option (List D)} {j : Nat} {m : M (List D)} {Q : D → List Sl → Prop} (hs : isLstO σ j = true) (h : wp (m σ) E fun xs σ1 => ∃ ds, σ1[j]? = some (.o (.lst ds)) ∧ owp (f ds xs) fun r => Q .non (σ1.set j (.o (.lst r)))) : wp (evMut f j m σ) E Q := by
  unfold evMut
  rw [if_pos hs]
  refine wp_bind (wp_mono h (fun xs σ1 h => ?_) fun _ _ h => h)
  obtain ⟨ds, e, h⟩ := h
  rw [e]
  dsimp only
  cases e : f ds xs with
  | none => rw [e] at h; exact h
  | some z => rw [e] at h; exact h
theorem w_Pop {j : Nat} {ds : List D} {d : D} {Q : D → List Sl → Prop} (e : σ[j]? = some (.o (.lst ds))) (ed : ds[ds.length - 1]? = some d) (h : Q d (σ.set j (.o (.lst ds.dropLast)))) : wp (evPop j σ) E Q := by
  unfold evPop
  rw [e]
  dsimp only
  rw [ed]
  exact h
/-- I: what stands with i turns done -/
theorem forL_inv {s : D → List Sl → Option (List Sl)} {body : M Fl} {Q : Fl → List Sl → Prop} (I : Nat → List Sl → Prop) : ∀ (ds : List D) (k : Nat) (σ : List Sl), I k σ →
    (∀ i d σ, ds[i]? = some d → I (k + i) σ → owp (s d σ) fun σ1 => wp (body σ1) E fun f σ2 => kLp (I (k + i + 1)) Q f σ2) → (∀ σ, I (k + ds.length) σ → Q .nx σ) → wp (forL s body ds σ) E Q
  | [], k, σ, h, _, hd => hd σ h
  | d :: ds, k, σ, h, hs, hd => by
    have h0 := hs 0 d σ rfl h
    unfold forL
    cases e : s d σ with
    | none => rw [e] at h0; exact h0
    | some σ1 =>
      rw [e] at h0
      have h0 : wp (body σ1) E _ := h0
      dsimp only
      have go : ∀ σ2, I (k + 1) σ2 → wp (forL s body ds σ2) E Q := fun σ2 h2 => forL_inv I ds (k + 1) σ2 h2 (fun i d σ hi hI => by
        have := hs (i + 1) d σ (by simpa using hi) (by rw [show k + (i + 1) = k + 1 + i by omega]; exact hI)
        rw [show k + (i + 1) = k + 1 + i by omega] at this
        exact this) fun σ hI => hd σ (by rw [List.length_cons, show k + (ds.length + 1) = k + 1 + ds.length by omega]; exact hI)
      cases e2 : body σ1 with
      | bad => rw [e2] at h0; exact h0
      | ex x σ2 => rw [e2] at h0; exact h0
      | ok f σ2 =>
        rw [e2] at h0
        cases f with
        | nx => exact go σ2 h0
        | ct => exact go σ2 h0
        | bk => exact h0
        | rt r => exact h0
theorem w_For {s : D → List Sl → Option (List Sl)} {m : M (List D)} {body : M Fl} {Q : Fl → List Sl → Prop} (h : wp (m σ) E fun ds σ1 => wp (forL s body ds σ1) E Q) : wp (evFor s m body σ) E Q := wp_bind h
theorem w_R1 {m : M (List D)} {Q : List D → List Sl → Prop} (h : wp (m σ) E fun ds σ1 => ∃ j, ds = [.int j] ∧ (j < 1000000 ∧ -1000000 < j) ∧ Q (rng 0 j.toNat) σ1) : wp (evR1 m σ) E Q := wp_bind (wp_mono h (fun ds σ1 h => by
    obtain ⟨j, rfl, h1, h⟩ := h
    dsimp only
    rw [if_pos h1]
    exact h) fun _ _ h => h)
theorem w_R2 {m : M (List D)} {Q : List D → List Sl → Prop} (h : wp (m σ) E fun ds σ1 => ∃ i j, ds = [.int i, .int j] ∧ ((-1000000 < i ∧ i < 1000000) ∧ (-1000000 < j ∧ j < 1000000)) ∧ Q (rng i (j - i).toNat) σ1) : wp (evR2 m σ) E Q := wp_bind (wp_mono h (fun ds σ1 h => by
    obtain ⟨i, j, rfl, h1, h⟩ := h
    dsimp only
    rw [if_pos h1]
    exact h) fun _ _ h => h)
theorem w_ItX {m : M D} {Q : List D → List Sl → Prop} (h : wp (m σ) E fun d σ1 => owp (seqOf d) fun ds => Q ds σ1) : wp (evItX m σ) E Q := wp_bind (wp_mono h (fun d σ1 h => by
    try dsimp only
    cases e : seqOf d with
    | none => rw [e] at h; exact h
    | some z => rw [e] at h; exact h) fun _ _ h => h)
theorem whileL_inv {c : M Bool} {body : M Fl} {Q : Fl → List Sl → Prop} (I : Nat → List Sl → Prop) : ∀ (n : Nat) (σ : List Sl), (∃ k, k < n ∧ I k σ) →
    (∀ k σ, I k σ → wp (c σ) E fun b σ1 => (b = false → Q .nx σ1) ∧ (b = true → wp (body σ1) E fun f σ2 => kLp (fun σ2 => ∃ j, j < k ∧ I j σ2) Q f σ2)) → wp (whileL c body n σ) E Q
  | 0, σ, ⟨k, hk, _⟩, _ => by omega
  | n + 1, σ, ⟨k, hk, h⟩, hs => by
    have h0 := hs k σ h
    unfold whileL
    cases e : c σ with
    | bad => rw [e] at h0; exact h0
    | ex x σ1 => rw [e] at h0; exact h0
    | ok b σ1 =>
      rw [e] at h0
      cases b with
      | false => exact h0.1 rfl
      | true =>
        have h1 := h0.2 rfl
        dsimp only
        cases e2 : body σ1 with
        | bad => rw [e2] at h1; exact h1
        | ex x σ2 => rw [e2] at h1; exact h1
        | ok f σ2 =>
          rw [e2] at h1
          cases f with
          | nx => obtain ⟨j, hj, hI⟩ := h1; exact whileL_inv I n σ2 ⟨j, by omega, hI⟩ hs
          | ct => obtain ⟨j, hj, hI⟩ := h1; exact whileL_inv I n σ2 ⟨j, by omega, hI⟩ hs
          | bk => exact h1
          | rt r => exact h1
/-- a comprehension: I: what stands with i items walked -/
theorem lcL_inv {vs : List Nat} {s : D → List Sl → Option (List Sl)} {tt : M Bool} {te : M D} (I : Nat → List D → List Sl → Prop) : ∀ (ds : List D) (k : Nat) (acc : List D) (σ : List Sl), I k acc σ →
    (∀ i d acc σ, ds[i]? = some d → I (k + i) acc σ → owp (s d (wipeS σ vs)) fun σ1 => wp (tt σ1) (fun _ _ => False) fun b σ2 => (b = false → I (k + i + 1) acc σ2) ∧ (b = true → wp (te σ2) (fun _ _ => False) fun y σ3 => acc.length < szMax ∧ I (k + i + 1) (acc ++ [y]) σ3)) →
    ∃ acc' σ', lcL vs s tt te ds acc σ = some (acc', σ') ∧ I (k + ds.length) acc' σ'
  | [], k, acc, σ, h, _ => ⟨acc, σ, rfl, h⟩
  | d :: ds, k, acc, σ, h, hs => by
    have h0 := hs 0 d acc σ rfl h
    have go : ∀ acc σ2, I (k + 1) acc σ2 → ∃ acc' σ', lcL vs s tt te ds acc σ2 = some (acc', σ') ∧ I (k + (d :: ds).length) acc' σ' := fun acc σ2 h2 => by
      have := lcL_inv I ds (k + 1) acc σ2 h2 (fun i d acc σ hi hI => by
        have := hs (i + 1) d acc σ (by simpa using hi) (by rw [show k + (i + 1) = k + 1 + i by omega]; exact hI)
        rw [show k + (i + 1) = k + 1 + i by omega] at this
        exact this)
      rw [show k + 1 + ds.length = k + (d :: ds).length by rw [List.length_cons]; omega] at this
      exact this
    unfold lcL
    cases e : s d (wipeS σ vs) with
    | none => rw [e] at h0; exact h0.elim
    | some σ1 =>
      rw [e] at h0
      have h0 : wp (tt σ1) _ _ := h0
      dsimp only
      cases e2 : tt σ1 with
      | bad => rw [e2] at h0; exact h0.elim
      | ex x σ2 => rw [e2] at h0; exact h0.elim
      | ok b σ2 =>
        rw [e2] at h0
        cases b with
        | false => exact go acc σ2 (h0.1 rfl)
        | true =>
          have h1 := h0.2 rfl
          dsimp only
          cases e3 : te σ2 with
          | bad => rw [e3] at h1; exact h1.elim
          | ex x σ2 => rw [e3] at h1; exact h1.elim
          | ok y σ3 =>
            rw [e3] at h1
            dsimp only
            rw [if_pos h1.1]
            exact go _ σ3 h1.2
theorem w_Yes {Q : Bool → List Sl → Prop} (h : Q true σ) : wp (tYesM σ) E Q := h
/-- items by a plain function, those kept by p -/
theorem lc_map {vs : List Nat} {s : D → List Sl → Option (List Sl)} {tt : M Bool} {te : M D} (St : List Sl → Prop) (p : D → Bool) (g : D → D) {ds : List D} (hl : ds.length ≤ szMax) (h0 : St σ)
    (hs : ∀ d σ, d ∈ ds → St σ → owp (s d (wipeS σ vs)) fun σ1 => wp (tt σ1) (fun _ _ => False) fun b σ2 => (b = false → p d = false ∧ St σ2) ∧ (b = true → wp (te σ2) (fun _ _ => False) fun y σ3 => p d = true ∧ y = g d ∧ St σ3)) :
    ∃ σ', lcL vs s tt te ds [] σ = some ((ds.filter p).map g, σ') ∧ St σ' := by
  obtain ⟨acc, σ', e, h1, h2⟩ := lcL_inv (vs := vs) (s := s) (tt := tt) (te := te) (fun i acc σ => acc = ((ds.take i).filter p).map g ∧ St σ) ds 0 [] σ ⟨rfl, h0⟩ (by
    rintro i d acc σ hd ⟨rfl, h⟩
    have hi := (List.getElem?_eq_some_iff.mp hd).1
    have et : ds.take (0 + i + 1) = ds.take (0 + i) ++ [d] := by
      rw [Nat.zero_add, List.take_succ, hd]; rfl
    have h3 := hs d σ (List.mem_of_getElem? hd) h
    cases e1 : s d (wipeS σ vs) with
    | none => rw [e1] at h3; exact h3
    | some σ1 =>
      rw [e1] at h3
      refine wp_mono (show wp (tt σ1) _ _ from h3) (fun b σ2 h4 => ⟨fun hb => ?_, fun hb => wp_mono (h4.2 hb) (fun y σ3 h5 => ?_) fun _ _ h => h⟩) fun _ _ h => h
      · obtain ⟨hp, h5⟩ := h4.1 hb
        refine ⟨?_, h5⟩
        rw [et, List.filter_append, List.filter_cons_of_neg (by rw [hp]; decide), List.filter_nil, List.append_nil]
      · obtain ⟨hp, rfl, h6⟩ := h5
        refine ⟨?_, ?_, h6⟩
        · rw [List.length_map]
          have := List.length_filter_le p (ds.take (0 + i))
          rw [List.length_take] at this
          omega
        · rw [et, List.filter_append, List.filter_cons_of_pos hp, List.filter_nil, List.map_append]; rfl)
  rw [Nat.zero_add, List.take_length] at h1
  exact ⟨σ', by rw [e, h1], h2⟩
theorem w_Lc {vs : List Nat} {s : D → List Sl → Option (List Sl)} {m : M (List D)} {tt : M Bool} {te : M D} {Q : Sl → List Sl → Prop} (h : wp (m σ) E fun ds σ1 => noOwn σ1 vs = true ∧ ∃ acc σ2, lcL vs s tt te ds [] σ1 = some (acc, σ2) ∧ Q (.o (.lst acc)) (fin vs 0 σ2 σ1)) : wp (evLc vs s m tt te σ) E Q :=
  wp_bind (wp_mono h (fun ds σ1 h => by
    obtain ⟨h1, acc, σ2, e, h⟩ := h
    try dsimp only
    rw [if_pos h1, e]
    exact h) fun _ _ h => h)
end
section
variable {P : D → Prop} {i j : Int}
theorem o_addI (h : P (.int (i + j))) : owp (dAdd (.int i) (.int j)) P := h
theorem o_subI (h : P (.int (i - j))) : owp (dSub (.int i) (.int j)) P := h
theorem o_negI (h : P (.int (-i))) : owp (dNeg (.int i)) P := h
theorem o_mulI (c : mulOk i j = true) (h : P (.int (i * j))) : owp (dMul (.int i) (.int j)) P := by
  show owp (if mulOk i j = true then some (.int (i * j)) else none) P
  rw [if_pos c]; exact h
theorem o_modI (c : 0 < j) (h : P (.int (i % j))) : owp (dMod (.int i) (.int j)) P := by
  show owp (if 0 < j then some (.int (i % j)) else none) P
  rw [if_pos c]; exact h
theorem o_divI (c : 0 < j) (c2 : j < 2 ^ 64) (h : P (.int (i / j))) : owp (dFdiv (.int i) (.int j)) P := by
  have c3 : j.natAbs.log2 < 9000 := Nat.lt_trans (log2_lt (k := 64) (by omega) (by decide)) (by decide)
  show owp (if 0 < j ∧ j.natAbs.log2 < 9000 then some (.int (i / j)) else none) P
  rw [if_pos ⟨c, c3⟩]; exact h
theorem o_powI (c : 0 ≤ j) (c1 : j ≤ 1000) (c2 : i.natAbs < 2 ^ 64) (h : P (.int (i ^ j.toNat))) : owp (dPow (.int i) (.int j)) P := by
  show owp (if 0 ≤ j ∧ j ≤ 1000 ∧ i.natAbs < 2 ^ 64 then some (.int (i ^ j.toNat)) else none) P
  rw [if_pos ⟨c, c1, c2⟩]; exact h
theorem o_cmpI {p : Int → Int → Bool} (h : P (.bl (p i j))) : owp (dCmpI p (.int i) (.int j)) P := h
theorem o_eqI (h : P (.bl (i == j))) : owp (dEq (.int i) (.int j)) P := h
theorem o_neI (h : P (.bl (!(i == j)))) : owp (dNe (.int i) (.int j)) P := h
theorem o_eqS {a b : Str} (h : P (.bl (a == b))) : owp (dEq (.str a) (.str b)) P := h
theorem o_neS {a b : Str} (h : P (.bl (!(a == b)))) : owp (dNe (.str a) (.str b)) P := h
end
section
variable {P : D → Prop}
theorem o_ixR {x y a : D} (e : dIx x y = some a) (h : P a) : owp (dIx x y) P := owp_some e h
theorem o_fldR {c f : Str} {x a : D} (e : dFld c f x = some a) (h : P a) : owp (dFld c f x) P := owp_some e h
theorem o_slR {x : Sl} {a : D} (e : slD x = some a) (h : P a) : owp (slD x) P := owp_some e h
theorem o_seqR {x : D} {a : List D} {P : List D → Prop} (e : seqOf x = some a) (h : P a) : owp (seqOf x) P := owp_some e h
theorem o_setR {x z : O} {i y : D} {P : O → Prop} (e : setIx x i y = some z) (h : P z) : owp (setIx x i y) P := owp_some e h
theorem o_tup {ds : List D} (e : ds.length ≤ szMax) (h : P (.tup ds)) : owp (dTup ds) P := by
  unfold dTup
  rw [if_pos e]
  exact h
theorem o_app {ds : List D} {x : D} {P : List D → Prop} (e : ds.length + 1 ≤ szMax) (h : P (ds ++ [x])) : owp (appD ds [x]) P := by
  show owp (if ds.length + 1 ≤ szMax then some (ds ++ [x]) else none) P
  rw [if_pos e]
  exact h
theorem o_sgN {i : Nat} {d : D} {σ : List Sl} {P : List Sl → Prop} (h : P (σ.set i (.d d))) : owp (sgName i d σ) P := h
theorem o_sgN' {i : Nat} {d : D} {σ z : List Sl} {P : List Sl → Prop} (e : σ.set i (.d d) = z) (h : P z) : owp (sgName i d σ) P := by subst e; exact h
theorem o_sgT {n : Nat} {s : List D → List Sl → Option (List Sl)} {ds : List D} {σ : List Sl} {P : List Sl → Prop} (e : Nat.beq ds.length n = true) (h : owp (s ds σ) P) : owp (sgTup n s (.tup ds) σ) P := by
  show owp (if Nat.beq ds.length n = true then s ds σ else none) P
  rw [if_pos e]
  exact h
theorem o_sgC {s : D → List Sl → Option (List Sl)} {r : List D → List Sl → Option (List Sl)} {d : D} {ds : List D} {σ : List Sl} {P : List Sl → Prop} (h : owp (s d σ) fun σ' => owp (r ds σ') P) : owp (sgCons s r (d :: ds) σ) P := by
  show owp ((s d σ).bind fun σ' => r ds σ') P
  cases e : s d σ with
  | none => rw [e] at h; exact h
  | some z => rw [e] at h; exact h
theorem o_sg0 {σ : List Sl} {P : List Sl → Prop} (h : P σ) : owp (sgNil [] σ) P := h
theorem o_f1 {f : D → Option D} {x : D} (h : owp (f x) P) : owp (f1 f [x]) P := h
theorem o_max2 {i j : Int} (h : P (.int (if j > i then j else i))) : owp (dMax2 [.int i, .int j]) P := h
theorem o_min2 {i j : Int} (h : P (.int (if j < i then j else i))) : owp (dMin2 [.int i, .int j]) P := h
theorem o_lenL {xs : List D} (h : P (.int xs.length)) : owp (dLen (.lst xs)) P := h
theorem o_lenT {xs : List D} (h : P (.int xs.length)) : owp (dLen (.tup xs)) P := h
theorem o_lenC {xs : List Int} (h : P (.int xs.length)) : owp (dLen (.scr xs)) P := h
theorem o_tupL {xs : List D} (h : P (.tup xs)) : owp (dTupOf (.lst xs)) P := h
theorem o_lstT {xs : List D} (h : P (.lst xs)) : owp (dLstOf (.tup xs)) P := h
theorem o_lstL {xs : List D} (h : P (.lst xs)) : owp (dLstOf (.lst xs)) P := h
theorem o_revL {xs : List D} (h : P (.lst xs.reverse)) : owp (dRev (.lst xs)) P := h
theorem o_not {b : Bool} (h : P (.bl (!b))) : owp (dNot (.bl b)) P := h
end

end Z
/-- what a walk's end must have -/
@[irreducible] def wp {α : Type} (r : Res α) (E : Ex → List Sl → Prop) (Q : α → List Sl → Prop) : Prop := Z.wp r E Q
@[irreducible] def owp {α : Type} (o : Option α) (P : α → Prop) : Prop := Z.owp o P
theorem wpZ {α : Type} {r : Res α} {E : Ex → List Sl → Prop} {Q : α → List Sl → Prop} : wp r E Q = Z.wp r E Q := by unfold wp; rfl
theorem owpZ {α : Type} {o : Option α} {P : α → Prop} : owp o P = Z.owp o P := by unfold owp; rfl
theorem wp_ok {α : Type} {a : α} {σ : List Sl} {E : Ex → List Sl → Prop} {Q : α → List Sl → Prop} (h : Q a σ) : wp (.ok a σ) E Q := by rw [wpZ]; exact h
theorem wp_done {α : Type} {r : Res α} {Q : α → List Sl → Prop} (h : wp r (fun _ _ => False) Q) : ∃ a σ, r = .ok a σ ∧ Q a σ := by
  rw [wpZ] at h
  cases r with
  | ok a σ => exact ⟨a, σ, rfl, h⟩
  | ex e σ => exact h.elim
  | bad => exact h.elim
def kSeq (E : Ex → List Sl → Prop) (n : M Fl) (Q : Fl → List Sl → Prop) (f : Fl) (σ : List Sl) : Prop := match f with
  | .nx => wp (n σ) E Q
  | f => Q f σ
def kFn (L : List Nat) (ps : List Sl) (Q : Sl → List Sl → Prop) (f : Fl) (σ' : List Sl) : Prop := match f with
  | .nx => Q (.d .non) (fin L 0 ps σ')
  | .rt r => Q r (fin L 0 ps σ')
  | _ => False
def kLp (I : List Sl → Prop) (Q : Fl → List Sl → Prop) (f : Fl) (σ2 : List Sl) : Prop := match f with
  | .nx => I σ2
  | .ct => I σ2
  | .bk => Q .nx σ2
  | .rt r => Q (.rt r) σ2
theorem kSeqZ {E : Ex → List Sl → Prop} {n : M Fl} {Q : Fl → List Sl → Prop} {f : Fl} {σ : List Sl} : kSeq E n Q f σ = Z.kSeq E n Q f σ := by
  unfold kSeq Z.kSeq
  cases f <;> first | rfl | exact wpZ
theorem kFnZ {L : List Nat} {ps : List Sl} {Q : Sl → List Sl → Prop} {f : Fl} {σ : List Sl} : kFn L ps Q f σ = Z.kFn L ps Q f σ := by unfold kFn Z.kFn; cases f <;> rfl
theorem kLpZ {I : List Sl → Prop} {Q : Fl → List Sl → Prop} {f : Fl} {σ : List Sl} : kLp I Q f σ = Z.kLp I Q f σ := by unfold kLp Z.kLp; cases f <;> rfl
open PySem
section
variable {α β : Type} {E : Ex → List Sl → Prop} {σ : List Sl}
theorem k_nx {n : M Fl} {Q : Fl → List Sl → Prop} {z : List Sl} (e : σ = z) (h : wp (n z) E Q) : kSeq E n Q .nx σ := by
  simp only [wpZ, owpZ, kSeqZ, kFnZ, kLpZ] at *
  first | exact Z.k_nx | (apply Z.k_nx <;> assumption) | (refine Z.k_nx ?_ ?_ <;> assumption)
theorem k_rt {n : M Fl} {Q : Fl → List Sl → Prop} {r : Sl} (h : Q (.rt r) σ) : kSeq E n Q (.rt r) σ := by
  simp only [wpZ, owpZ, kSeqZ, kFnZ, kLpZ] at *
  first | exact Z.k_rt | (apply Z.k_rt <;> assumption) | (refine Z.k_rt ?_ ?_ <;> assumption)
theorem k_ct {n : M Fl} {Q : Fl → List Sl → Prop} (h : Q .ct σ) : kSeq E n Q .ct σ := by
  simp only [wpZ, owpZ, kSeqZ, kFnZ, kLpZ] at *
  first | exact Z.k_ct | (apply Z.k_ct <;> assumption) | (refine Z.k_ct ?_ ?_ <;> assumption)
theorem k_bk {n : M Fl} {Q : Fl → List Sl → Prop} (h : Q .bk σ) : kSeq E n Q .bk σ := by
  simp only [wpZ, owpZ, kSeqZ, kFnZ, kLpZ] at *
  first | exact Z.k_bk | (apply Z.k_bk <;> assumption) | (refine Z.k_bk ?_ ?_ <;> assumption)
theorem k_Fnx {L : List Nat} {ps : List Sl} {Q : Sl → List Sl → Prop} {z : List Sl} (e : fin L 0 ps σ = z) (h : Q (.d .non) z) : kFn L ps Q .nx σ := by
  simp only [wpZ, owpZ, kSeqZ, kFnZ, kLpZ] at *
  first | exact Z.k_Fnx | (apply Z.k_Fnx <;> assumption) | (refine Z.k_Fnx ?_ ?_ <;> assumption)
theorem k_Frt {L : List Nat} {ps : List Sl} {Q : Sl → List Sl → Prop} {r : Sl} {z : List Sl} (e : fin L 0 ps σ = z) (h : Q r z) : kFn L ps Q (.rt r) σ := by
  simp only [wpZ, owpZ, kSeqZ, kFnZ, kLpZ] at *
  first | exact Z.k_Frt | (apply Z.k_Frt <;> assumption) | (refine Z.k_Frt ?_ ?_ <;> assumption)
theorem k_Lnx {I : List Sl → Prop} {Q : Fl → List Sl → Prop} {z : List Sl} (e : σ = z) (h : I z) : kLp I Q .nx σ := by
  simp only [wpZ, owpZ, kSeqZ, kFnZ, kLpZ] at *
  first | exact Z.k_Lnx | (apply Z.k_Lnx <;> assumption) | (refine Z.k_Lnx ?_ ?_ <;> assumption)
theorem k_Lct {I : List Sl → Prop} {Q : Fl → List Sl → Prop} (h : I σ) : kLp I Q .ct σ := by
  simp only [wpZ, owpZ, kSeqZ, kFnZ, kLpZ] at *
  first | exact Z.k_Lct | (apply Z.k_Lct <;> assumption) | (refine Z.k_Lct ?_ ?_ <;> assumption)
theorem k_Lbk {I : List Sl → Prop} {Q : Fl → List Sl → Prop} (h : Q .nx σ) : kLp I Q .bk σ := by
  simp only [wpZ, owpZ, kSeqZ, kFnZ, kLpZ] at *
  first | exact Z.k_Lbk | (apply Z.k_Lbk <;> assumption) | (refine Z.k_Lbk ?_ ?_ <;> assumption)
theorem k_Lrt {I : List Sl → Prop} {Q : Fl → List Sl → Prop} {r : Sl} (h : Q (.rt r) σ) : kLp I Q (.rt r) σ := by
  simp only [wpZ, owpZ, kSeqZ, kFnZ, kLpZ] at *
  first | exact Z.k_Lrt | (apply Z.k_Lrt <;> assumption) | (refine Z.k_Lrt ?_ ?_ <;> assumption)
theorem wp_mono {r : Res α} {Q Q' : α → List Sl → Prop} {E' : Ex → List Sl → Prop} (h : wp r E Q) (hq : ∀ a σ, Q a σ → Q' a σ) (he : ∀ e σ, E e σ → E' e σ) : wp r E' Q' := by
  simp only [wpZ, owpZ, kSeqZ, kFnZ, kLpZ] at *
  first | exact Z.wp_mono | (apply Z.wp_mono <;> assumption) | (refine Z.wp_mono ?_ ?_ <;> assumption)
theorem wp_eq {r : Res α} {a : α} {σ1 : List Sl} {Q : α → List Sl → Prop} (e : r = .ok a σ1) (h : Q a σ1) : wp r E Q := by
  simp only [wpZ, owpZ, kSeqZ, kFnZ, kLpZ] at *
  first | exact Z.wp_eq | (apply Z.wp_eq <;> assumption) | (refine Z.wp_eq ?_ ?_ <;> assumption)
theorem wp_ex {r : Res α} {x : Ex} {σ1 : List Sl} {Q : α → List Sl → Prop} (e : r = .ex x σ1) (h : E x σ1) : wp r E Q := by
  simp only [wpZ, owpZ, kSeqZ, kFnZ, kLpZ] at *
  first | exact Z.wp_ex | (apply Z.wp_ex <;> assumption) | (refine Z.wp_ex ?_ ?_ <;> assumption)
theorem wp_bind {m : M α} {f : α → M β} {Q : β → List Sl → Prop} (h : wp (m σ) E fun a σ1 => wp (f a σ1) E Q) : wp (M.bind m f σ) E Q := by
  simp only [wpZ, owpZ, kSeqZ, kFnZ, kLpZ] at *
  first | exact Z.wp_bind | (apply Z.wp_bind <;> assumption) | (refine Z.wp_bind ?_ ?_ <;> assumption)
theorem owp_some {o : Option α} {a : α} {P : α → Prop} (e : o = some a) (h : P a) : owp o P := by
  simp only [wpZ, owpZ, kSeqZ, kFnZ, kLpZ] at *
  first | exact Z.owp_some | (apply Z.owp_some <;> assumption) | (refine Z.owp_some ?_ ?_ <;> assumption)
theorem w_lift {o : Option D} {Q : D → List Sl → Prop} (h : owp o fun d => Q d σ) : wp (lift o σ) E Q := by
  simp only [wpZ, owpZ, kSeqZ, kFnZ, kLpZ] at *
  first | exact Z.w_lift | (apply Z.w_lift <;> assumption) | (refine Z.w_lift ?_ ?_ <;> assumption)
theorem w_C {d : D} {Q : D → List Sl → Prop} (h : Q d σ) : wp (evC d σ) E Q := by
  simp only [wpZ, owpZ, kSeqZ, kFnZ, kLpZ] at *
  first | exact Z.w_C | (apply Z.w_C <;> assumption) | (refine Z.w_C ?_ ?_ <;> assumption)
theorem w_Vd {i : Nat} {x : D} {Q : D → List Sl → Prop} (e : σ[i]? = some (.d x)) (h : Q x σ) : wp (evV i σ) E Q := by
  simp only [wpZ, owpZ, kSeqZ, kFnZ, kLpZ] at *
  first | exact Z.w_Vd | (apply Z.w_Vd <;> assumption) | (refine Z.w_Vd ?_ ?_ <;> assumption)
theorem w_Vo {i : Nat} {o : O} {Q : D → List Sl → Prop} (e : σ[i]? = some (.o o)) (h : Q o.frz (σ.set i (.d o.frz))) : wp (evV i σ) E Q := by
  simp only [wpZ, owpZ, kSeqZ, kFnZ, kLpZ] at *
  first | exact Z.w_Vo | (apply Z.w_Vo <;> assumption) | (refine Z.w_Vo ?_ ?_ <;> assumption)
theorem w_Mvd {i : Nat} {x : D} {Q : Sl → List Sl → Prop} (e : σ[i]? = some (.d x)) (h : Q (.d x) σ) : wp (evMv i σ) E Q := by
  simp only [wpZ, owpZ, kSeqZ, kFnZ, kLpZ] at *
  first | exact Z.w_Mvd | (apply Z.w_Mvd <;> assumption) | (refine Z.w_Mvd ?_ ?_ <;> assumption)
theorem w_Mvo {i : Nat} {o : O} {Q : Sl → List Sl → Prop} (e : σ[i]? = some (.o o)) (h : Q (.o o) (σ.set i .un)) : wp (evMv i σ) E Q := by
  simp only [wpZ, owpZ, kSeqZ, kFnZ, kLpZ] at *
  first | exact Z.w_Mvo | (apply Z.w_Mvo <;> assumption) | (refine Z.w_Mvo ?_ ?_ <;> assumption)
theorem w_1 {f : D → Option D} {m : M D} {Q : D → List Sl → Prop} (h : wp (m σ) E fun x σ1 => owp (f x) fun d => Q d σ1) : wp (ev1 f m σ) E Q := by
  simp only [wpZ, owpZ, kSeqZ, kFnZ, kLpZ] at *
  first | exact Z.w_1 | (apply Z.w_1 <;> assumption) | (refine Z.w_1 ?_ ?_ <;> assumption)
theorem w_2 {f : D → D → Option D} {m n : M D} {Q : D → List Sl → Prop} (h : wp (m σ) E fun x σ1 => wp (n σ1) E fun y σ2 => owp (f x y) fun d => Q d σ2) : wp (ev2 f m n σ) E Q := by
  simp only [wpZ, owpZ, kSeqZ, kFnZ, kLpZ] at *
  first | exact Z.w_2 | (apply Z.w_2 <;> assumption) | (refine Z.w_2 ?_ ?_ <;> assumption)
theorem w_S {m : M D} {Q : Sl → List Sl → Prop} (h : wp (m σ) E fun d σ1 => Q (.d d) σ1) : wp (asS m σ) E Q := by
  simp only [wpZ, owpZ, kSeqZ, kFnZ, kLpZ] at *
  first | exact Z.w_S | (apply Z.w_S <;> assumption) | (refine Z.w_S ?_ ?_ <;> assumption)
theorem w_F {m : M Sl} {Q : D → List Sl → Prop} (h : wp (m σ) E fun s σ1 => owp (slD s) fun d => Q d σ1) : wp (frzM m σ) E Q := by
  simp only [wpZ, owpZ, kSeqZ, kFnZ, kLpZ] at *
  first | exact Z.w_F | (apply Z.w_F <;> assumption) | (refine Z.w_F ?_ ?_ <;> assumption)
theorem w_nil {Q : List D → List Sl → Prop} (h : Q [] σ) : wp (evNil σ) E Q := by
  simp only [wpZ, owpZ, kSeqZ, kFnZ, kLpZ] at *
  first | exact Z.w_nil | (apply Z.w_nil <;> assumption) | (refine Z.w_nil ?_ ?_ <;> assumption)
theorem w_cons {m : M D} {r : M (List D)} {Q : List D → List Sl → Prop} (h : wp (m σ) E fun x σ1 => wp (r σ1) E fun xs σ2 => Q (x :: xs) σ2) : wp (evCons m r σ) E Q := by
  simp only [wpZ, owpZ, kSeqZ, kFnZ, kLpZ] at *
  first | exact Z.w_cons | (apply Z.w_cons <;> assumption) | (refine Z.w_cons ?_ ?_ <;> assumption)
theorem w_L {f : List D → Option D} {m : M (List D)} {Q : D → List Sl → Prop} (h : wp (m σ) E fun xs σ1 => owp (f xs) fun d => Q d σ1) : wp (evL f m σ) E Q := by
  simp only [wpZ, owpZ, kSeqZ, kFnZ, kLpZ] at *
  first | exact Z.w_L | (apply Z.w_L <;> assumption) | (refine Z.w_L ?_ ?_ <;> assumption)
theorem w_Lst {m : M (List D)} {Q : Sl → List Sl → Prop} (h : wp (m σ) E fun xs σ1 => xs.length ≤ szMax ∧ Q (.o (.lst xs)) σ1) : wp (evLst m σ) E Q := by
  simp only [wpZ, owpZ, kSeqZ, kFnZ, kLpZ] at *
  first | exact Z.w_Lst | (apply Z.w_Lst <;> assumption) | (refine Z.w_Lst ?_ ?_ <;> assumption)
theorem w_no {Q : Option Int → List Sl → Prop} (h : Q none σ) : wp (evNo σ) E Q := by
  simp only [wpZ, owpZ, kSeqZ, kFnZ, kLpZ] at *
  first | exact Z.w_no | (apply Z.w_no <;> assumption) | (refine Z.w_no ?_ ?_ <;> assumption)
theorem w_Pt {m : M D} {Q : Option Int → List Sl → Prop} (h : wp (m σ) E fun d σ1 => ∃ i, d = .int i ∧ Q (some i) σ1) : wp (evPt m σ) E Q := by
  simp only [wpZ, owpZ, kSeqZ, kFnZ, kLpZ] at *
  first | exact Z.w_Pt | (apply Z.w_Pt <;> assumption) | (refine Z.w_Pt ?_ ?_ <;> assumption)
theorem w_Sl {f : D → Option Int → Option Int → Option D} {m : M D} {l h : M (Option Int)} {Q : D → List Sl → Prop} (q : wp (m σ) E fun x σ1 => wp (l σ1) E fun a σ2 => wp (h σ2) E fun b σ3 => owp (f x a b) fun d => Q d σ3) : wp (evSl f m l h σ) E Q := by
  simp only [wpZ, owpZ, kSeqZ, kFnZ, kLpZ] at *
  first | exact Z.w_Sl | (apply Z.w_Sl <;> assumption) | (refine Z.w_Sl ?_ ?_ <;> assumption)
theorem w_pk {f : D → Option D} {j : Nat} {s : Sl} {x : D} {Q : D → List Sl → Prop} (e : σ[j]? = some s) (ed : slD s = some x) (h : owp (f x) fun d => Q d σ) : wp (pkAt f j σ) E Q := by
  simp only [wpZ, owpZ, kSeqZ, kFnZ, kLpZ] at *
  first | exact Z.w_pk | (apply Z.w_pk <;> assumption) | (refine Z.w_pk ?_ ?_ <;> assumption)
theorem w_LenP {f : D → Option D} {j : Nat} {s : Sl} {x : D} {Q : D → List Sl → Prop} (e : σ[j]? = some s) (ed : slD s = some x) (h : owp (f x) fun d => Q d σ) : wp (evLenP f j σ) E Q := by
  simp only [wpZ, owpZ, kSeqZ, kFnZ, kLpZ] at *
  first | exact Z.w_LenP | (apply Z.w_LenP <;> assumption) | (refine Z.w_LenP ?_ ?_ <;> assumption)
theorem w_IxP {f : D → D → Option D} {j : Nat} {m : M D} {Q : D → List Sl → Prop} (hs : isSet σ j = true) (h : wp (m σ) E fun y σ1 => wp (pkAt (fun x => f x y) j σ1) E Q) : wp (evIxP f j m σ) E Q := by
  simp only [wpZ, owpZ, kSeqZ, kFnZ, kLpZ] at *
  first | exact Z.w_IxP | (apply Z.w_IxP <;> assumption) | (refine Z.w_IxP ?_ ?_ <;> assumption)
theorem w_FldP {c f : Str} {j : Nat} {s : Sl} {x : D} {Q : D → List Sl → Prop} (e : σ[j]? = some s) (ed : slD s = some x) (h : owp (dFld c f x) fun d => Q d σ) : wp (evFldP c f j σ) E Q := by
  simp only [wpZ, owpZ, kSeqZ, kFnZ, kLpZ] at *
  first | exact Z.w_FldP | (apply Z.w_FldP <;> assumption) | (refine Z.w_FldP ?_ ?_ <;> assumption)
theorem w_And {m n : M D} {Q : D → List Sl → Prop} (h : wp (m σ) E fun d σ1 => ∃ b, d = .bl b ∧ (b = true → wp (n σ1) E Q) ∧ (b = false → Q (.bl false) σ1)) : wp (evAnd m n σ) E Q := by
  simp only [wpZ, owpZ, kSeqZ, kFnZ, kLpZ] at *
  first | exact Z.w_And | (apply Z.w_And <;> assumption) | (refine Z.w_And ?_ ?_ <;> assumption)
theorem w_Or {m n : M D} {Q : D → List Sl → Prop} (h : wp (m σ) E fun d σ1 => ∃ b, d = .bl b ∧ (b = false → wp (n σ1) E Q) ∧ (b = true → Q (.bl true) σ1)) : wp (evOr m n σ) E Q := by
  simp only [wpZ, owpZ, kSeqZ, kFnZ, kLpZ] at *
  first | exact Z.w_Or | (apply Z.w_Or <;> assumption) | (refine Z.w_Or ?_ ?_ <;> assumption)
theorem w_Chain {f g : D → D → Option D} {ma mb mc : M D} {Q : D → List Sl → Prop} (h : wp (ma σ) E fun x σ1 => wp (mb σ1) E fun y σ2 => owp (f x y) fun d => ∃ k, d = .bl k ∧ (k = true → wp (mc σ2) E fun z σ3 => owp (g y z) fun d => Q d σ3) ∧ (k = false → Q (.bl false) σ2)) : wp (evChain f g ma mb mc σ) E Q := by
  simp only [wpZ, owpZ, kSeqZ, kFnZ, kLpZ] at *
  first | exact Z.w_Chain | (apply Z.w_Chain <;> assumption) | (refine Z.w_Chain ?_ ?_ <;> assumption)
theorem w_B {m : M D} {Q : Bool → List Sl → Prop} (h : wp (m σ) E fun d σ1 => ∃ b, d = .bl b ∧ Q b σ1) : wp (toB m σ) E Q := by
  simp only [wpZ, owpZ, kSeqZ, kFnZ, kLpZ] at *
  first | exact Z.w_B | (apply Z.w_B <;> assumption) | (refine Z.w_B ?_ ?_ <;> assumption)
theorem w_Not {m : M Bool} {Q : Bool → List Sl → Prop} (h : wp (m σ) E fun b σ1 => Q (!b) σ1) : wp (tNotM m σ) E Q := by
  simp only [wpZ, owpZ, kSeqZ, kFnZ, kLpZ] at *
  first | exact Z.w_Not | (apply Z.w_Not <;> assumption) | (refine Z.w_Not ?_ ?_ <;> assumption)
theorem w_tAnd {m n : M Bool} {Q : Bool → List Sl → Prop} (h : wp (m σ) E fun b σ1 => (b = true → wp (n σ1) E Q) ∧ (b = false → Q false σ1)) : wp (tAndM m n σ) E Q := by
  simp only [wpZ, owpZ, kSeqZ, kFnZ, kLpZ] at *
  first | exact Z.w_tAnd | (apply Z.w_tAnd <;> assumption) | (refine Z.w_tAnd ?_ ?_ <;> assumption)
theorem w_tOr {m n : M Bool} {Q : Bool → List Sl → Prop} (h : wp (m σ) E fun b σ1 => (b = false → wp (n σ1) E Q) ∧ (b = true → Q true σ1)) : wp (tOrM m n σ) E Q := by
  simp only [wpZ, owpZ, kSeqZ, kFnZ, kLpZ] at *
  first | exact Z.w_tOr | (apply Z.w_tOr <;> assumption) | (refine Z.w_tOr ?_ ?_ <;> assumption)
theorem w_If {c : M Bool} {m n : M α} {Q : α → List Sl → Prop} (h : wp (c σ) E fun b σ1 => (b = true → wp (m σ1) E Q) ∧ (b = false → wp (n σ1) E Q)) : wp (evIf c m n σ) E Q := by
  simp only [wpZ, owpZ, kSeqZ, kFnZ, kLpZ] at *
  first | exact Z.w_If | (apply Z.w_If <;> assumption) | (refine Z.w_If ?_ ?_ <;> assumption)
theorem w_C0 {f : List Sl → Res Sl} {m : M (List D)} {Q : Sl → List Sl → Prop} (h : wp (m σ) E fun ds σ1 => wp (f (ds.map .d)) (fun e _ => E e σ1) fun r _ => Q r σ1) : wp (semC f m σ) E Q := by
  simp only [wpZ, owpZ, kSeqZ, kFnZ, kLpZ] at *
  first | exact Z.w_C0 | (apply Z.w_C0 <;> assumption) | (refine Z.w_C0 ?_ ?_ <;> assumption)
theorem w_IOo {f : List Sl → Res Sl} {j : Nat} {m : M (List D)} {Q : Sl → List Sl → Prop} (hs : isSet σ j = true) (h : wp (m σ) E fun ds σ1 => ∃ o, σ1[j]? = some (.o o) ∧ wp (f (.o o :: ds.map .d)) (fun e ps => ∃ p r, ps = p :: r ∧ E e (σ1.set j p)) fun r ps => ∃ p t, ps = p :: t ∧ Q r (σ1.set j p)) : wp (semIO f j m σ) E Q := by
  simp only [wpZ, owpZ, kSeqZ, kFnZ, kLpZ] at *
  first | exact Z.w_IOo | (apply Z.w_IOo <;> assumption) | (refine Z.w_IOo ?_ ?_ <;> assumption)
theorem w_M {c mn : Str} {f : List Sl → Res Sl} {m : M D} {ml : M (List D)} {Q : Sl → List Sl → Prop} (h : wp (m σ) E fun x σ1 => ∃ ns vs, x = .ins c ns vs ∧ ns.contains mn = false ∧ wp (ml σ1) E fun ds σ2 => wp (f ((x :: ds).map .d)) (fun e _ => E e σ2) fun r _ => Q r σ2) : wp (semM c mn f m ml σ) E Q := by
  simp only [wpZ, owpZ, kSeqZ, kFnZ, kLpZ] at *
  first | exact Z.w_M | (apply Z.w_M <;> assumption) | (refine Z.w_M ?_ ?_ <;> assumption)
theorem w_P {c : Str} {f : List Sl → Res Sl} {m : M D} {Q : Sl → List Sl → Prop} (h : wp (m σ) E fun x σ1 => ∃ ns vs, x = .ins c ns vs ∧ wp (f [.d x]) (fun _ _ => False) fun r _ => Q r σ1) : wp (semP c f m σ) E Q := by
  simp only [wpZ, owpZ, kSeqZ, kFnZ, kLpZ] at *
  first | exact Z.w_P | (apply Z.w_P <;> assumption) | (refine Z.w_P ?_ ?_ <;> assumption)
theorem w_K {c : Str} {f : List Sl → Res Sl} {ml : M (List D)} {Q : Sl → List Sl → Prop} (h : wp (ml σ) E fun ds σ1 => wp (f (.o (.ins c [] []) :: ds.map .d)) (fun e _ => E e σ1) fun r ps => ∃ p t, r = .d .non ∧ ps = .o p :: t ∧ Q (.o p) σ1) : wp (semK c f ml σ) E Q := by
  simp only [wpZ, owpZ, kSeqZ, kFnZ, kLpZ] at *
  first | exact Z.w_K | (apply Z.w_K <;> assumption) | (refine Z.w_K ?_ ?_ <;> assumption)
theorem w_sem {np n : Nat} {L : List Nat} {m : M Fl} {ps : List Sl} {Q : Sl → List Sl → Prop} (ok : (Nat.beq ps.length np && okPs L 0 ps) = true) {z : List Sl} (ez : ps ++ List.replicate (n - ps.length) .un = z) (h : wp (m z) (fun e σ' => E e (fin L 0 ps σ')) fun f σ' => kFn L ps Q f σ') : wp (semOf np n L m ps) E Q := by
  simp only [wpZ, owpZ, kSeqZ, kFnZ, kLpZ] at *
  first | exact Z.w_sem | (apply Z.w_sem <;> assumption) | (refine Z.w_sem ?_ ?_ <;> assumption)
theorem w_Seq {m n : M Fl} {Q : Fl → List Sl → Prop} (h : wp (m σ) E fun f σ1 => kSeq E n Q f σ1) : wp (evSeq m n σ) E Q := by
  simp only [wpZ, owpZ, kSeqZ, kFnZ, kLpZ] at *
  first | exact Z.w_Seq | (apply Z.w_Seq <;> assumption) | (refine Z.w_Seq ?_ ?_ <;> assumption)
theorem w_Set {i : Nat} {m : M Sl} {Q : Fl → List Sl → Prop} (h : wp (m σ) E fun r σ1 => Q .nx (σ1.set i r)) : wp (evSet i m σ) E Q := by
  simp only [wpZ, owpZ, kSeqZ, kFnZ, kLpZ] at *
  first | exact Z.w_Set | (apply Z.w_Set <;> assumption) | (refine Z.w_Set ?_ ?_ <;> assumption)
theorem w_Drop {m : M Sl} {Q : Fl → List Sl → Prop} (h : wp (m σ) E fun r σ1 => Q .nx σ1) : wp (evDrop m σ) E Q := by
  simp only [wpZ, owpZ, kSeqZ, kFnZ, kLpZ] at *
  first | exact Z.w_Drop | (apply Z.w_Drop <;> assumption) | (refine Z.w_Drop ?_ ?_ <;> assumption)
theorem w_Ret {m : M Sl} {Q : Fl → List Sl → Prop} (h : wp (m σ) E fun r σ1 => Q (.rt r) σ1) : wp (evRet m σ) E Q := by
  simp only [wpZ, owpZ, kSeqZ, kFnZ, kLpZ] at *
  first | exact Z.w_Ret | (apply Z.w_Ret <;> assumption) | (refine Z.w_Ret ?_ ?_ <;> assumption)
theorem w_Pass {Q : Fl → List Sl → Prop} (h : Q .nx σ) : wp (evPass σ) E Q := by
  simp only [wpZ, owpZ, kSeqZ, kFnZ, kLpZ] at *
  first | exact Z.w_Pass | (apply Z.w_Pass <;> assumption) | (refine Z.w_Pass ?_ ?_ <;> assumption)
theorem w_Ct {Q : Fl → List Sl → Prop} (h : Q .ct σ) : wp (evCt σ) E Q := by
  simp only [wpZ, owpZ, kSeqZ, kFnZ, kLpZ] at *
  first | exact Z.w_Ct | (apply Z.w_Ct <;> assumption) | (refine Z.w_Ct ?_ ?_ <;> assumption)
theorem w_Raise {c : Str} {Q : Fl → List Sl → Prop} (h : E ⟨c, [], []⟩ σ) : wp (evRaise c σ) E Q := by
  simp only [wpZ, owpZ, kSeqZ, kFnZ, kLpZ] at *
  first | exact Z.w_Raise | (apply Z.w_Raise <;> assumption) | (refine Z.w_Raise ?_ ?_ <;> assumption)
theorem w_Asg {s : D → List Sl → Option (List Sl)} {m : M D} {Q : Fl → List Sl → Prop} (h : wp (m σ) E fun d σ1 => owp (s d σ1) fun σ2 => Q .nx σ2) : wp (evAsg s m σ) E Q := by
  simp only [wpZ, owpZ, kSeqZ, kFnZ, kLpZ] at *
  first | exact Z.w_Asg | (apply Z.w_Asg <;> assumption) | (refine Z.w_Asg ?_ ?_ <;> assumption)
theorem w_Par {i j : Nat} {m : M (List D)} {Q : Fl → List Sl → Prop} (h : wp (m σ) E fun ds σ1 => ∃ x y, ds = [x, y] ∧ Q .nx ((σ1.set i (.d x)).set j (.d y))) : wp (evPar i j m σ) E Q := by
  simp only [wpZ, owpZ, kSeqZ, kFnZ, kLpZ] at *
  first | exact Z.w_Par | (apply Z.w_Par <;> assumption) | (refine Z.w_Par ?_ ?_ <;> assumption)
theorem w_SetIx {f : O → D → D → Option O} {j : Nat} {me mi : M D} {Q : Fl → List Sl → Prop} (h : wp (me σ) E fun y σ1 => isSet σ1 j = true ∧ wp (mi σ1) E fun i σ2 => ∃ o, σ2[j]? = some (.o o) ∧ owp (f o i y) fun z => Q .nx (σ2.set j (.o z))) : wp (evSetIx f j me mi σ) E Q := by
  simp only [wpZ, owpZ, kSeqZ, kFnZ, kLpZ] at *
  first | exact Z.w_SetIx | (apply Z.w_SetIx <;> assumption) | (refine Z.w_SetIx ?_ ?_ <;> assumption)
theorem w_FldS {c f : Str} {j : Nat} {m : M D} {Q : Fl → List Sl → Prop} (hs : isSet σ j = true) (h : wp (m σ) E fun x σ1 => ∃ ns vs, σ1[j]? = some (.o (.ins c ns vs)) ∧ ns.length < 100 ∧ Q .nx (σ1.set j (.o (.ins c (putNs f ns) (putVs f x ns vs))))) : wp (evFldS c f j m σ) E Q := by
  simp only [wpZ, owpZ, kSeqZ, kFnZ, kLpZ] at *
  first | exact Z.w_FldS | (apply Z.w_FldS <;> assumption) | (refine Z.w_FldS ?_ ?_ <;> assumption)
theorem w_Mut {f : List D → List D → Option (List D)} {j : Nat} {m : M (List D)} {Q : D → List Sl → Prop} (hs : isLstO σ j = true) (h : wp (m σ) E fun xs σ1 => ∃ ds, σ1[j]? = some (.o (.lst ds)) ∧ owp (f ds xs) fun r => Q .non (σ1.set j (.o (.lst r)))) : wp (evMut f j m σ) E Q := by
  simp only [wpZ, owpZ, kSeqZ, kFnZ, kLpZ] at *
  first | exact Z.w_Mut | (apply Z.w_Mut <;> assumption) | (refine Z.w_Mut ?_ ?_ <;> assumption)
theorem w_Pop {j : Nat} {ds : List D} {d : D} {Q : D → List Sl → Prop} (e : σ[j]? = some (.o (.lst ds))) (ed : ds[ds.length - 1]? = some d) (h : Q d (σ.set j (.o (.lst ds.dropLast)))) : wp (evPop j σ) E Q := by
  simp only [wpZ, owpZ, kSeqZ, kFnZ, kLpZ] at *
  first | exact Z.w_Pop | (apply Z.w_Pop <;> assumption) | (refine Z.w_Pop ?_ ?_ <;> assumption)
theorem forL_inv {s : D → List Sl → Option (List Sl)} {body : M Fl} {Q : Fl → List Sl → Prop} (I : Nat → List Sl → Prop) : ∀ (ds : List D) (k : Nat) (σ : List Sl), I k σ →
    (∀ i d σ, ds[i]? = some d → I (k + i) σ → owp (s d σ) fun σ1 => wp (body σ1) E fun f σ2 => kLp (I (k + i + 1)) Q f σ2) → (∀ σ, I (k + ds.length) σ → Q .nx σ) → wp (forL s body ds σ) E Q := by
  simp only [wpZ, owpZ, kSeqZ, kFnZ, kLpZ] at *
  first | exact Z.forL_inv | (apply Z.forL_inv <;> assumption) | (refine Z.forL_inv ?_ ?_ <;> assumption)
theorem w_For {s : D → List Sl → Option (List Sl)} {m : M (List D)} {body : M Fl} {Q : Fl → List Sl → Prop} (h : wp (m σ) E fun ds σ1 => wp (forL s body ds σ1) E Q) : wp (evFor s m body σ) E Q := by
  simp only [wpZ, owpZ, kSeqZ, kFnZ, kLpZ] at *
  first | exact Z.w_For | (apply Z.w_For <;> assumption) | (refine Z.w_For ?_ ?_ <;> assumption)
theorem w_R1 {m : M (List D)} {Q : List D → List Sl → Prop} (h : wp (m σ) E fun ds σ1 => ∃ j, ds = [.int j] ∧ (j < 1000000 ∧ -1000000 < j) ∧ Q (rng 0 j.toNat) σ1) : wp (evR1 m σ) E Q := by
  simp only [wpZ, owpZ, kSeqZ, kFnZ, kLpZ] at *
  first | exact Z.w_R1 | (apply Z.w_R1 <;> assumption) | (refine Z.w_R1 ?_ ?_ <;> assumption)
theorem w_R2 {m : M (List D)} {Q : List D → List Sl → Prop} (h : wp (m σ) E fun ds σ1 => ∃ i j, ds = [.int i, .int j] ∧ ((-1000000 < i ∧ i < 1000000) ∧ (-1000000 < j ∧ j < 1000000)) ∧ Q (rng i (j - i).toNat) σ1) : wp (evR2 m σ) E Q := by
  simp only [wpZ, owpZ, kSeqZ, kFnZ, kLpZ] at *
  first | exact Z.w_R2 | (apply Z.w_R2 <;> assumption) | (refine Z.w_R2 ?_ ?_ <;> assumption)
theorem w_ItX {m : M D} {Q : List D → List Sl → Prop} (h : wp (m σ) E fun d σ1 => owp (seqOf d) fun ds => Q ds σ1) : wp (evItX m σ) E Q := by
  simp only [wpZ, owpZ, kSeqZ, kFnZ, kLpZ] at *
  first | exact Z.w_ItX | (apply Z.w_ItX <;> assumption) | (refine Z.w_ItX ?_ ?_ <;> assumption)
theorem whileL_inv {c : M Bool} {body : M Fl} {Q : Fl → List Sl → Prop} (I : Nat → List Sl → Prop) : ∀ (n : Nat) (σ : List Sl), (∃ k, k < n ∧ I k σ) →
    (∀ k σ, I k σ → wp (c σ) E fun b σ1 => (b = false → Q .nx σ1) ∧ (b = true → wp (body σ1) E fun f σ2 => kLp (fun σ2 => ∃ j, j < k ∧ I j σ2) Q f σ2)) → wp (whileL c body n σ) E Q := by
  simp only [wpZ, owpZ, kSeqZ, kFnZ, kLpZ] at *
  first | exact Z.whileL_inv | (apply Z.whileL_inv <;> assumption) | (refine Z.whileL_inv ?_ ?_ <;> assumption)
theorem lcL_inv {vs : List Nat} {s : D → List Sl → Option (List Sl)} {tt : M Bool} {te : M D} (I : Nat → List D → List Sl → Prop) : ∀ (ds : List D) (k : Nat) (acc : List D) (σ : List Sl), I k acc σ →
    (∀ i d acc σ, ds[i]? = some d → I (k + i) acc σ → owp (s d (wipeS σ vs)) fun σ1 => wp (tt σ1) (fun _ _ => False) fun b σ2 => (b = false → I (k + i + 1) acc σ2) ∧ (b = true → wp (te σ2) (fun _ _ => False) fun y σ3 => acc.length < szMax ∧ I (k + i + 1) (acc ++ [y]) σ3)) →
    ∃ acc' σ', lcL vs s tt te ds acc σ = some (acc', σ') ∧ I (k + ds.length) acc' σ' := by
  simp only [wpZ, owpZ, kSeqZ, kFnZ, kLpZ] at *
  first | exact Z.lcL_inv | (apply Z.lcL_inv <;> assumption) | (refine Z.lcL_inv ?_ ?_ <;> assumption)
theorem w_Yes {Q : Bool → List Sl → Prop} (h : Q true σ) : wp (tYesM σ) E Q := by
  simp only [wpZ, owpZ, kSeqZ, kFnZ, kLpZ] at *
  first | exact Z.w_Yes | (apply Z.w_Yes <;> assumption) | (refine Z.w_Yes ?_ ?_ <;> assumption)
theorem lc_map {vs : List Nat} {s : D → List Sl → Option (List Sl)} {tt : M Bool} {te : M D} (St : List Sl → Prop) (p : D → Bool) (g : D → D) {ds : List D} (hl : ds.length ≤ szMax) (h0 : St σ)
    (hs : ∀ d σ, d ∈ ds → St σ → owp (s d (wipeS σ vs)) fun σ1 => wp (tt σ1) (fun _ _ => False) fun b σ2 => (b = false → p d = false ∧ St σ2) ∧ (b = true → wp (te σ2) (fun _ _ => False) fun y σ3 => p d = true ∧ y = g d ∧ St σ3)) :
    ∃ σ', lcL vs s tt te ds [] σ = some ((ds.filter p).map g, σ') ∧ St σ' := by
  simp only [wpZ, owpZ, kSeqZ, kFnZ, kLpZ] at *
  first | exact Z.lc_map | (apply Z.lc_map <;> assumption) | (refine Z.lc_map ?_ ?_ <;> assumption)
theorem w_Lc {vs : List Nat} {s : D → List Sl → Option (List Sl)} {m : M (List D)} {tt : M Bool} {te : M D} {Q : Sl → List Sl → Prop} (h : wp (m σ) E fun ds σ1 => noOwn σ1 vs = true ∧ ∃ acc σ2, lcL vs s tt te ds [] σ1 = some (acc, σ2) ∧ Q (.o (.lst acc)) (fin vs 0 σ2 σ1)) : wp (evLc vs s m tt te σ) E Q := by
  simp only [wpZ, owpZ, kSeqZ, kFnZ, kLpZ] at *
  first | exact Z.w_Lc | (apply Z.w_Lc <;> assumption) | (refine Z.w_Lc ?_ ?_ <;> assumption)
end
section
variable {P : D → Prop} {i j : Int}
theorem o_addI (h : P (.int (i + j))) : owp (dAdd (.int i) (.int j)) P := by
  simp only [wpZ, owpZ, kSeqZ, kFnZ, kLpZ] at *
  first | exact Z.o_addI | (apply Z.o_addI <;> assumption) | (refine Z.o_addI ?_ ?_ <;> assumption)
theorem o_subI (h : P (.int (i - j))) : owp (dSub (.int i) (.int j)) P := by
  simp only [wpZ, owpZ, kSeqZ, kFnZ, kLpZ] at *
  first | exact Z.o_subI | (apply Z.o_subI <;> assumption) | (refine Z.o_subI ?_ ?_ <;> assumption)
theorem o_negI (h : P (.int (-i))) : owp (dNeg (.int i)) P := by
  simp only [wpZ, owpZ, kSeqZ, kFnZ, kLpZ] at *
  first | exact Z.o_negI | (apply Z.o_negI <;> assumption) | (refine Z.o_negI ?_ ?_ <;> assumption)
theorem o_mulI (c : mulOk i j = true) (h : P (.int (i * j))) : owp (dMul (.int i) (.int j)) P := by
  simp only [wpZ, owpZ, kSeqZ, kFnZ, kLpZ] at *
  first | exact Z.o_mulI | (apply Z.o_mulI <;> assumption) | (refine Z.o_mulI ?_ ?_ <;> assumption)
theorem o_modI (c : 0 < j) (h : P (.int (i % j))) : owp (dMod (.int i) (.int j)) P := by
  simp only [wpZ, owpZ, kSeqZ, kFnZ, kLpZ] at *
  first | exact Z.o_modI | (apply Z.o_modI <;> assumption) | (refine Z.o_modI ?_ ?_ <;> assumption)
theorem o_divI (c : 0 < j) (c2 : j < 2 ^ 64) (h : P (.int (i / j))) : owp (dFdiv (.int i) (.int j)) P := by
  simp only [wpZ, owpZ, kSeqZ, kFnZ, kLpZ] at *
  first | exact Z.o_divI | (apply Z.o_divI <;> assumption) | (refine Z.o_divI ?_ ?_ <;> assumption)
theorem o_powI (c : 0 ≤ j) (c1 : j ≤ 1000) (c2 : i.natAbs < 2 ^ 64) (h : P (.int (i ^ j.toNat))) : owp (dPow (.int i) (.int j)) P := by
  simp only [wpZ, owpZ, kSeqZ, kFnZ, kLpZ] at *
  first | exact Z.o_powI | (apply Z.o_powI <;> assumption) | (refine Z.o_powI ?_ ?_ <;> assumption)
theorem o_cmpI {p : Int → Int → Bool} (h : P (.bl (p i j))) : owp (dCmpI p (.int i) (.int j)) P := by
  simp only [wpZ, owpZ, kSeqZ, kFnZ, kLpZ] at *
  first | exact Z.o_cmpI | (apply Z.o_cmpI <;> assumption) | (refine Z.o_cmpI ?_ ?_ <;> assumption)
theorem o_eqI (h : P (.bl (i == j))) : owp (dEq (.int i) (.int j)) P := by
  simp only [wpZ, owpZ, kSeqZ, kFnZ, kLpZ] at *
  first | exact Z.o_eqI | (apply Z.o_eqI <;> assumption) | (refine Z.o_eqI ?_ ?_ <;> assumption)
theorem o_neI (h : P (.bl (!(i == j)))) : owp (dNe (.int i) (.int j)) P := by
  simp only [wpZ, owpZ, kSeqZ, kFnZ, kLpZ] at *
  first | exact Z.o_neI | (apply Z.o_neI <;> assumption) | (refine Z.o_neI ?_ ?_ <;> assumption)
theorem o_eqS {a b : Str} (h : P (.bl (a == b))) : owp (dEq (.str a) (.str b)) P := by
  simp only [wpZ, owpZ, kSeqZ, kFnZ, kLpZ] at *
  first | exact Z.o_eqS | (apply Z.o_eqS <;> assumption) | (refine Z.o_eqS ?_ ?_ <;> assumption)
theorem o_neS {a b : Str} (h : P (.bl (!(a == b)))) : owp (dNe (.str a) (.str b)) P := by
  simp only [wpZ, owpZ, kSeqZ, kFnZ, kLpZ] at *
  first | exact Z.o_neS | (apply Z.o_neS <;> assumption) | (refine Z.o_neS ?_ ?_ <;> assumption)
end
section
variable {P : D → Prop}
theorem o_ixR {x y a : D} (e : dIx x y = some a) (h : P a) : owp (dIx x y) P := by
  simp only [wpZ, owpZ, kSeqZ, kFnZ, kLpZ] at *
  first | exact Z.o_ixR | (apply Z.o_ixR <;> assumption) | (refine Z.o_ixR ?_ ?_ <;> assumption)
theorem o_fldR {c f : Str} {x a : D} (e : dFld c f x = some a) (h : P a) : owp (dFld c f x) P := by
  simp only [wpZ, owpZ, kSeqZ, kFnZ, kLpZ] at *
  first | exact Z.o_fldR | (apply Z.o_fldR <;> assumption) | (refine Z.o_fldR ?_ ?_ <;> assumption)
theorem o_slR {x : Sl} {a : D} (e : slD x = some a) (h : P a) : owp (slD x) P := by
  simp only [wpZ, owpZ, kSeqZ, kFnZ, kLpZ] at *
  first | exact Z.o_slR | (apply Z.o_slR <;> assumption) | (refine Z.o_slR ?_ ?_ <;> assumption)
theorem o_seqR {x : D} {a : List D} {P : List D → Prop} (e : seqOf x = some a) (h : P a) : owp (seqOf x) P := by
  simp only [wpZ, owpZ, kSeqZ, kFnZ, kLpZ] at *
  first | exact Z.o_seqR | (apply Z.o_seqR <;> assumption) | (refine Z.o_seqR ?_ ?_ <;> assumption)
theorem o_setR {x z : O} {i y : D} {P : O → Prop} (e : setIx x i y = some z) (h : P z) : owp (setIx x i y) P := by
  simp only [wpZ, owpZ, kSeqZ, kFnZ, kLpZ] at *
  first | exact Z.o_setR | (apply Z.o_setR <;> assumption) | (refine Z.o_setR ?_ ?_ <;> assumption)
theorem o_tup {ds : List D} (e : ds.length ≤ szMax) (h : P (.tup ds)) : owp (dTup ds) P := by
  simp only [wpZ, owpZ, kSeqZ, kFnZ, kLpZ] at *
  first | exact Z.o_tup | (apply Z.o_tup <;> assumption) | (refine Z.o_tup ?_ ?_ <;> assumption)
theorem o_app {ds : List D} {x : D} {P : List D → Prop} (e : ds.length + 1 ≤ szMax) (h : P (ds ++ [x])) : owp (appD ds [x]) P := by
  simp only [wpZ, owpZ, kSeqZ, kFnZ, kLpZ] at *
  first | exact Z.o_app | (apply Z.o_app <;> assumption) | (refine Z.o_app ?_ ?_ <;> assumption)
theorem o_sgN {i : Nat} {d : D} {σ : List Sl} {P : List Sl → Prop} (h : P (σ.set i (.d d))) : owp (sgName i d σ) P := by
  simp only [wpZ, owpZ, kSeqZ, kFnZ, kLpZ] at *
  first | exact Z.o_sgN | (apply Z.o_sgN <;> assumption) | (refine Z.o_sgN ?_ ?_ <;> assumption)
theorem o_sgN' {i : Nat} {d : D} {σ z : List Sl} {P : List Sl → Prop} (e : σ.set i (.d d) = z) (h : P z) : owp (sgName i d σ) P := by
  simp only [wpZ, owpZ, kSeqZ, kFnZ, kLpZ] at *
  first | exact Z.o_sgN' | (apply Z.o_sgN' <;> assumption) | (refine Z.o_sgN' ?_ ?_ <;> assumption)
theorem o_sgT {n : Nat} {s : List D → List Sl → Option (List Sl)} {ds : List D} {σ : List Sl} {P : List Sl → Prop} (e : Nat.beq ds.length n = true) (h : owp (s ds σ) P) : owp (sgTup n s (.tup ds) σ) P := by
  simp only [wpZ, owpZ, kSeqZ, kFnZ, kLpZ] at *
  first | exact Z.o_sgT | (apply Z.o_sgT <;> assumption) | (refine Z.o_sgT ?_ ?_ <;> assumption)
theorem o_sgC {s : D → List Sl → Option (List Sl)} {r : List D → List Sl → Option (List Sl)} {d : D} {ds : List D} {σ : List Sl} {P : List Sl → Prop} (h : owp (s d σ) fun σ' => owp (r ds σ') P) : owp (sgCons s r (d :: ds) σ) P := by
  simp only [wpZ, owpZ, kSeqZ, kFnZ, kLpZ] at *
  first | exact Z.o_sgC | (apply Z.o_sgC <;> assumption) | (refine Z.o_sgC ?_ ?_ <;> assumption)
theorem o_sg0 {σ : List Sl} {P : List Sl → Prop} (h : P σ) : owp (sgNil [] σ) P := by
  simp only [wpZ, owpZ, kSeqZ, kFnZ, kLpZ] at *
  first | exact Z.o_sg0 | (apply Z.o_sg0 <;> assumption) | (refine Z.o_sg0 ?_ ?_ <;> assumption)
theorem o_f1 {f : D → Option D} {x : D} (h : owp (f x) P) : owp (f1 f [x]) P := by
  simp only [wpZ, owpZ, kSeqZ, kFnZ, kLpZ] at *
  first | exact Z.o_f1 | (apply Z.o_f1 <;> assumption) | (refine Z.o_f1 ?_ ?_ <;> assumption)
theorem o_max2 {i j : Int} (h : P (.int (if j > i then j else i))) : owp (dMax2 [.int i, .int j]) P := by
  simp only [wpZ, owpZ, kSeqZ, kFnZ, kLpZ] at *
  first | exact Z.o_max2 | (apply Z.o_max2 <;> assumption) | (refine Z.o_max2 ?_ ?_ <;> assumption)
theorem o_min2 {i j : Int} (h : P (.int (if j < i then j else i))) : owp (dMin2 [.int i, .int j]) P := by
  simp only [wpZ, owpZ, kSeqZ, kFnZ, kLpZ] at *
  first | exact Z.o_min2 | (apply Z.o_min2 <;> assumption) | (refine Z.o_min2 ?_ ?_ <;> assumption)
theorem o_lenL {xs : List D} (h : P (.int xs.length)) : owp (dLen (.lst xs)) P := by
  simp only [wpZ, owpZ, kSeqZ, kFnZ, kLpZ] at *
  first | exact Z.o_lenL | (apply Z.o_lenL <;> assumption) | (refine Z.o_lenL ?_ ?_ <;> assumption)
theorem o_lenT {xs : List D} (h : P (.int xs.length)) : owp (dLen (.tup xs)) P := by
  simp only [wpZ, owpZ, kSeqZ, kFnZ, kLpZ] at *
  first | exact Z.o_lenT | (apply Z.o_lenT <;> assumption) | (refine Z.o_lenT ?_ ?_ <;> assumption)
theorem o_lenC {xs : List Int} (h : P (.int xs.length)) : owp (dLen (.scr xs)) P := by
  simp only [wpZ, owpZ, kSeqZ, kFnZ, kLpZ] at *
  first | exact Z.o_lenC | (apply Z.o_lenC <;> assumption) | (refine Z.o_lenC ?_ ?_ <;> assumption)
theorem o_tupL {xs : List D} (h : P (.tup xs)) : owp (dTupOf (.lst xs)) P := by
  simp only [wpZ, owpZ, kSeqZ, kFnZ, kLpZ] at *
  first | exact Z.o_tupL | (apply Z.o_tupL <;> assumption) | (refine Z.o_tupL ?_ ?_ <;> assumption)
theorem o_lstT {xs : List D} (h : P (.lst xs)) : owp (dLstOf (.tup xs)) P := by
  simp only [wpZ, owpZ, kSeqZ, kFnZ, kLpZ] at *
  first | exact Z.o_lstT | (apply Z.o_lstT <;> assumption) | (refine Z.o_lstT ?_ ?_ <;> assumption)
theorem o_lstL {xs : List D} (h : P (.lst xs)) : owp (dLstOf (.lst xs)) P := by
  simp only [wpZ, owpZ, kSeqZ, kFnZ, kLpZ] at *
  first | exact Z.o_lstL | (apply Z.o_lstL <;> assumption) | (refine Z.o_lstL ?_ ?_ <;> assumption)
theorem o_revL {xs : List D} (h : P (.lst xs.reverse)) : owp (dRev (.lst xs)) P := by
  simp only [wpZ, owpZ, kSeqZ, kFnZ, kLpZ] at *
  first | exact Z.o_revL | (apply Z.o_revL <;> assumption) | (refine Z.o_revL ?_ ?_ <;> assumption)
theorem o_not {b : Bool} (h : P (.bl (!b))) : owp (dNot (.bl b)) P := by
  simp only [wpZ, owpZ, kSeqZ, kFnZ, kLpZ] at *
  first | exact Z.o_not | (apply Z.o_not <;> assumption) | (refine Z.o_not ?_ ?_ <;> assumption)
end

end DL
local macro_rules | `(tactic| walk_at "mul_ok") => `(tactic| first | decide | (refine DL.mulOk_of ?_ ?_ <;> omega))
local macro_rules | `(tactic| walk_at "len_ok") => `(tactic| first | (simp only [List.length_cons, List.length_nil]; decide) | decide | (unfold DL.szMax; omega))
local macro_rules | `(tactic| walk_at "bool_lit") => `(tactic| first | (simp only [Bool.not_true, Bool.not_false, Bool.and_true, Bool.and_self, Bool.true_and, Bool.false_and, Bool.and_false, Bool.or_true, Bool.true_or, Bool.or_false, Bool.false_or]; done) | rfl)
local macro_rules | `(tactic| walk_at "vstep") => `(tactic| first
  | with_reducible refine DL.w_Seq ?_
  | with_reducible refine DL.w_Set ?_
  | ((with_reducible refine DL.k_nx (z := ?z) ?e ?_); (case e => first | (simp only [List.set_cons_zero, List.set_cons_succ]; exact rfl) | exact rfl))
  | with_reducible refine DL.k_rt ?_
  | with_reducible refine DL.k_ct ?_
  | with_reducible refine DL.w_S ?_
  | with_reducible refine DL.w_F ?_
  | with_reducible refine DL.w_C ?_
  | ((with_reducible refine DL.w_Vd (x := ?x) ?e ?_); (case e => rfl))
  | ((with_reducible refine DL.w_Vo (o := ?x) ?e ?_); (case e => rfl))
  | ((with_reducible refine DL.w_Mvo (o := ?x) ?e ?_); (case e => rfl))
  | ((with_reducible refine DL.w_Mvd (x := ?x) ?e ?_); (case e => rfl))
  | with_reducible refine DL.w_2 ?_
  | with_reducible refine DL.w_1 ?_
  | with_reducible refine DL.w_nil ?_
  | with_reducible refine DL.w_cons ?_
  | with_reducible refine DL.w_L ?_
  | ((with_reducible refine DL.w_LenP (s := ?s) (x := ?x) ?e ?ed ?_); (case e => rfl); (case ed => rfl))
  | ((with_reducible refine DL.w_IxP ?e ?_); (case e => rfl))
  | ((with_reducible refine DL.w_pk (s := ?s) (x := ?x) ?e ?ed ?_); (case e => rfl); (case ed => rfl))
  | ((with_reducible refine DL.w_FldP (s := ?s) (x := ?x) ?e ?ed ?_); (case e => rfl); (case ed => rfl))
  | with_reducible refine DL.w_no ?_
  | with_reducible refine DL.w_Pt ?_
  | with_reducible refine DL.w_Sl ?_
  | with_reducible refine DL.w_And ?_
  | with_reducible refine DL.w_Or ?_
  | with_reducible refine DL.w_Chain ?_
  | with_reducible refine DL.w_B ?_
  | with_reducible refine DL.w_Not ?_
  | with_reducible refine DL.w_tAnd ?_
  | with_reducible refine DL.w_tOr ?_
  | with_reducible refine DL.w_If ?_
  | with_reducible refine DL.w_Drop ?_
  | with_reducible refine DL.w_Ret ?_
  | with_reducible refine DL.w_Pass ?_
  | with_reducible refine DL.w_Ct ?_
  | with_reducible refine DL.w_Raise ?_
  | with_reducible refine DL.w_Asg ?_
  | with_reducible refine DL.w_Par ?_
  | with_reducible refine DL.w_SetIx ?_
  | with_reducible refine DL.w_For ?_
  | with_reducible refine DL.w_R1 ?_
  | with_reducible refine DL.w_R2 ?_
  | with_reducible refine DL.w_ItX ?_
  | with_reducible refine DL.w_C0 ?_
  | ((with_reducible refine DL.w_IOo ?e ?_); (case e => rfl))
  | ((with_reducible refine DL.w_Mut ?e ?_); (case e => rfl))
  | ((with_reducible refine DL.w_FldS ?e ?_); (case e => rfl))
  | with_reducible refine DL.w_M ?_
  | with_reducible refine DL.w_P ?_
  | with_reducible refine DL.w_K ?_
  | with_reducible refine DL.w_Lst ?_
  | with_reducible refine DL.w_Lc ?_
  | with_reducible refine DL.o_addI ?_
  | with_reducible refine DL.o_subI ?_
  | with_reducible refine DL.o_negI ?_
  | with_reducible refine DL.o_cmpI ?_
  | with_reducible refine DL.o_eqI ?_
  | with_reducible refine DL.o_neI ?_
  | with_reducible refine DL.x_bl ?_
  | with_reducible refine DL.x_int ?_
  | with_reducible refine DL.x_int1 ?_
  | with_reducible refine DL.x_int2 ?_
  | with_reducible refine DL.x_par ?_
  | with_reducible refine DL.x_ins ?_
  | with_reducible refine DL.x_cons ?_
  | with_reducible refine DL.x_make ?_
  | with_reducible refine DL.tf_t ?_
  | with_reducible refine DL.tf_f ?_
  | with_reducible refine DL.ft_t ?_
  | with_reducible refine DL.ft_f ?_
  | ((with_reducible refine DL.tf_t' ?e ?_); (case e => first | assumption | with_reducible_and_instances rfl | walk_at "bool_lit"))
  | ((with_reducible refine DL.tf_f' ?e ?_); (case e => first | assumption | walk_at "bool_lit"))
  | ((with_reducible refine DL.ft_t' ?e ?_); (case e => first | assumption | walk_at "bool_lit"))
  | ((with_reducible refine DL.ft_f' ?e ?_); (case e => first | assumption | walk_at "bool_lit"))
  | ((with_reducible refine DL.a_set ?e ?_); (case e => rfl))
  | with_reducible refine DL.w_Yes ?_
  | ((with_reducible refine DL.a_lt ?e ?_); (case e => decide))
  | ((with_reducible refine DL.a_ct ?e ?_); (case e => first | rfl | decide +kernel))
  | ((with_reducible refine DL.x_ol (o := ?o) ?e ?_); (case e => rfl))
  | ((with_reducible refine DL.x_oi (a := ?a) (b := ?b) ?e ?_); (case e => rfl))
  | ((with_reducible refine DL.x_o (o := ?o) ?e ?_); (case e => rfl))
  | ((with_reducible refine DL.o_ixR (a := ?a) ?e ?_); (case e => rfl))
  | ((with_reducible refine DL.o_fldR (a := ?a) ?e ?_); (case e => rfl))
  | ((with_reducible refine DL.o_slR (a := ?a) ?e ?_); (case e => rfl))
  | ((with_reducible refine DL.o_seqR (a := ?a) ?e ?_); (case e => rfl))
  | ((with_reducible refine DL.o_setR (z := ?a) ?e ?_); (case e => rfl))
  | ((with_reducible refine DL.o_tup ?e ?_); (case e => walk_at "len_ok"))
  | ((with_reducible refine DL.a_len ?e ?_); (case e => walk_at "len_ok"))
  | ((with_reducible refine DL.o_app ?e ?_); (case e => walk_at "len_ok"))
  | ((with_reducible refine DL.o_sgN' (z := ?z) ?e ?_); (case e => first | (simp only [List.set_cons_zero, List.set_cons_succ]; exact rfl) | exact rfl))
  | ((with_reducible refine DL.o_sgT ?e ?_); (case e => rfl))
  | with_reducible refine DL.o_sgC ?_
  | with_reducible refine DL.o_sg0 ?_
  | with_reducible refine DL.o_f1 ?_
  | with_reducible refine DL.o_max2 ?_
  | with_reducible refine DL.o_min2 ?_
  | with_reducible refine DL.o_lenL ?_
  | with_reducible refine DL.o_lenT ?_
  | with_reducible refine DL.o_lenC ?_
  | with_reducible refine DL.o_tupL ?_
  | with_reducible refine DL.o_lstT ?_
  | with_reducible refine DL.o_lstL ?_
  | with_reducible refine DL.o_revL ?_
  | with_reducible refine DL.o_not ?_
  | ((with_reducible refine DL.o_mulI ?c ?_); (case c => walk_at "mul_ok"))
  | ((with_reducible refine DL.o_modI ?c ?_); (case c => omega))
  | ((with_reducible refine DL.o_divI ?c ?c2 ?_); (case c => omega); (case c2 => omega))
  | ((with_reducible refine DL.k_Fnx (z := ?z) ?e ?_); (case e => rfl))
  | ((with_reducible refine DL.k_Frt (z := ?z) ?e ?_); (case e => rfl))
  | ((with_reducible refine DL.k_Lnx (z := ?z) ?e ?_); (case e => first | (simp only [List.set_cons_zero, List.set_cons_succ]; exact rfl) | exact rfl))
  | with_reducible refine DL.k_Lct ?_
  | with_reducible refine DL.k_Lrt ?_)
local macro_rules | `(tactic| walk_at "wsem") => `(tactic| refine DL.w_sem (z := ?z) rfl (by simp only [List.length_cons, List.length_nil, List.cons_append, List.nil_append, List.replicate, Nat.reduceAdd, Nat.reduceSub]; exact rfl) ?_)
local macro_rules | `(tactic| walk_at "vc") => `(tactic| repeat walk_at "vstep")
namespace DL
open PySem
/-! ### small data: it may be compared, shown -/
mutual
def Sm : D → Prop
  | .non => True
  | .bl _ => True
  | .int i => i.natAbs < 10 ^ 60
  | .str s => PyData.strOk s = true
  | .tup xs => SmL xs
  | .lst xs => SmL xs
  | .dk _ _ => False
  | .dt _ _ => False
  | .ins _ _ _ => False
  | .scr _ => False
def SmL : List D → Prop
  | [] => True
  | d :: ds => Sm d ∧ SmL ds
end
mutual
def dep : D → Nat
  | .tup xs => depL xs + 1
  | .lst xs => depL xs + 1
  | .non => 0
  | .bl _ => 0
  | .int _ => 0
  | .str _ => 0
  | .dk _ _ => 0
  | .dt _ _ => 0
  | .ins _ _ _ => 0
  | .scr _ => 0
def depL : List D → Nat
  | [] => 0
  | d :: ds => max (dep d) (depL ds)
end
mutual
def wt : D → Nat
  | .tup xs => wtL xs + 4
  | .lst xs => wtL xs + 4
  | .non => 5
  | .bl _ => 5
  | .int _ => 61
  | .str s => 10 * s.length + 2
  | .dk _ _ => 0
  | .dt _ _ => 0
  | .ins _ _ _ => 0
  | .scr _ => 0
def wtL : List D → Nat
  | [] => 0
  | d :: ds => wt d + 2 + wtL ds
end
mutual
theorem Sm.plain : ∀ {d : D}, Sm d → plain d = true
  | .non, _ => rfl
  | .bl _, _ => rfl
  | .int _, _ => rfl
  | .str _, _ => rfl
  | .tup xs, h => by unfold DL.plain; exact SmL.plain (by simpa only [Sm] using h)
  | .lst xs, h => by unfold DL.plain; exact SmL.plain (by simpa only [Sm] using h)
  | .dk _ _, h => by simp only [Sm] at h
  | .dt _ _, h => by simp only [Sm] at h
  | .ins _ _ _, h => by simp only [Sm] at h
  | .scr _, h => by simp only [Sm] at h
theorem SmL.plain : ∀ {d : List D}, SmL d → plainL d = true
  | [], _ => rfl
  | d :: ds, h => by
    simp only [SmL] at h
    unfold plainL
    rw [Sm.plain h.1, SmL.plain h.2]; rfl
end
mutual
theorem Sm.lay : ∀ {d : D}, Sm d → PyData.canLay0 (toPy d) = true
  | .non, _ => by simp only [toPy, PyData.canLay0]
  | .bl _, _ => by simp only [toPy, PyData.canLay0]
  | .int _, _ => by simp only [toPy, PyData.canLay0]
  | .str _, h => by simp only [toPy, PyData.canLay0]; simpa only [Sm] using h
  | .tup xs, h => by simp only [toPy, PyData.canLay0]; exact SmL.lay (by simpa only [Sm] using h)
  | .lst xs, h => by simp only [toPy, PyData.canLay0]; exact SmL.lay (by simpa only [Sm] using h)
  | .dk _ _, h => by simp only [Sm] at h
  | .dt _ _, h => by simp only [Sm] at h
  | .ins _ _ _, h => by simp only [Sm] at h
  | .scr _, h => by simp only [Sm] at h
theorem SmL.lay : ∀ {d : List D}, SmL d → PyData.canLayAll0 (toPyL d) = true
  | [], _ => by simp only [toPyL, PyData.canLayAll0]
  | d :: ds, h => by
    simp only [SmL] at h
    simp only [toPyL, PyData.canLayAll0, Sm.lay h.1, SmL.lay h.2, Bool.and_self]
end
mutual
theorem dep_py : ∀ d : D, PyData.depth (toPy d) = dep d
  | .non => by simp only [toPy, PyData.depth, dep]
  | .bl _ => by simp only [toPy, PyData.depth, dep]
  | .int _ => by simp only [toPy, PyData.depth, dep]
  | .str _ => by simp only [toPy, PyData.depth, dep]
  | .tup xs => by simp only [toPy, PyData.depth, dep, depL_py xs]
  | .lst xs => by simp only [toPy, PyData.depth, dep, depL_py xs]
  | .dk _ _ => by simp only [toPy, PyData.depth, dep]
  | .dt _ _ => by simp only [toPy, PyData.depth, dep]
  | .ins _ _ _ => by simp only [toPy, PyData.depth, dep]
  | .scr _ => by simp only [toPy, PyData.depth, dep]
theorem depL_py : ∀ d : List D, PyData.depthAll (toPyL d) = depL d
  | [] => by simp only [toPyL, PyData.depthAll, depL]
  | d :: ds => by simp only [toPyL, PyData.depthAll, depL, dep_py d, depL_py ds]
end
mutual
theorem Sm.shw : ∀ {d : D}, Sm d → PyData.showable (toPy d) = true
  | .non, _ => by simp only [toPy, PyData.showable]
  | .bl _, _ => by simp only [toPy, PyData.showable]
  | .int i, h => by
    simp only [Sm] at h
    simp only [toPy, PyData.showable, decide_eq_true_eq]
    have h2 : (10 : Nat) ^ 60 < 2 ^ 200 := by decide
    have := log2_lt (n := i.natAbs) (k := 200) (by omega) (by decide)
    omega
  | .str _, h => by simp only [toPy, PyData.showable]
  | .tup xs, h => by simp only [toPy, PyData.showable]; exact SmL.shw (by simpa only [Sm] using h)
  | .lst xs, h => by simp only [toPy, PyData.showable]; exact SmL.shw (by simpa only [Sm] using h)
  | .dk _ _, h => by simp only [Sm] at h
  | .dt _ _, h => by simp only [Sm] at h
  | .ins _ _ _, h => by simp only [Sm] at h
  | .scr _, h => by simp only [Sm] at h
theorem SmL.shw : ∀ {d : List D}, SmL d → PyData.showableAll (toPyL d) = true
  | [], _ => by simp only [toPyL, PyData.showableAll]
  | d :: ds, h => by
    simp only [SmL] at h
    simp only [toPyL, PyData.showableAll, Sm.shw h.1, SmL.shw h.2, Bool.and_self]
end
mutual
theorem noDict : ∀ d : D, PyData.hasDict (toPy d) = false
  | .non => by simp only [toPy, PyData.hasDict]
  | .bl _ => by simp only [toPy, PyData.hasDict]
  | .int _ => by simp only [toPy, PyData.hasDict]
  | .str _ => by simp only [toPy, PyData.hasDict]
  | .tup xs => by simp only [toPy, PyData.hasDict, noDictL xs]
  | .lst xs => by simp only [toPy, PyData.hasDict, noDictL xs]
  | .dk _ _ => by simp only [toPy, PyData.hasDict]
  | .dt _ _ => by simp only [toPy, PyData.hasDict]
  | .ins _ _ _ => by simp only [toPy, PyData.hasDict]
  | .scr _ => by simp only [toPy, PyData.hasDict]
theorem noDictL : ∀ d : List D, PyData.hasDictAll (toPyL d) = false
  | [] => by simp only [toPyL, PyData.hasDictAll]
  | d :: ds => by simp only [toPyL, PyData.hasDictAll, noDict d, noDictL ds, Bool.or_self]
end
theorem piled_le {l : List Str} {w : Nat} : (h : (l.map fun t => t.length + 2).sum ≤ w) → piled l ≤ w := fun h => by
  have e : ∀ l : List Str, piled l = (l.map fun t => t.length + 2).sum := fun l => by
    induction l with
    | nil => rfl
    | cons a r ih => simp only [piled, List.map_cons, List.sum_cons] at ih ⊢ <;> omega
  rw [e]
  exact h
theorem listText_le (ts : List Str) : (listText ts).length ≤ piled ts + 2 := by
  unfold listText
  rw [strLen_append]
  cases ts with
  | nil => show 1 + 1 ≤ _; omega
  | cons t r =>
    have e : textFrom 0 "[" (t :: r) = textFrom 1 (("[" : Str) ++ ((if 0 > 0 then ", " else "" : String) : Str) ++ t) r := rfl
    rw [e, textFrom_length_pos _ _ _ (by decide), strLen_append, strLen_append]
    have e3 : piled (t :: r) = t.length + 2 + piled r := by simp only [piled, List.map_cons, List.sum_cons] <;> omega
    rw [e3]
    show 1 + 0 + t.length + piled r + 1 ≤ _
    omega
theorem tupleText_le (ts : List Str) : (tupleText ts).length ≤ piled ts + 4 := by
  unfold tupleText
  rw [strLen_append, strLen_append]
  have e1 : (("(" : String) : Str).length = 1 := rfl
  have e2 : ((if ts.length == 1 then ",)" else ")" : String) : Str).length ≤ 2 := by split <;> decide
  cases ts with
  | nil =>
    have : (Str.join ", " ([] : List Str)).length = 0 := rfl
    omega
  | cons t r =>
    have := join_length_add (t :: r) (by simp)
    omega
mutual
theorem Sm.wt : ∀ {d : D}, Sm d → (PyData.shown (toPy d)).length ≤ DL.wt d
  | .non, _ => by simp only [toPy, PyData.shown, DL.wt]; decide
  | .bl b, _ => by simp only [toPy, PyData.shown, DL.wt]; cases b <;> decide
  | .int i, h => by
    simp only [Sm] at h
    simp only [toPy, PyData.shown, DL.wt]
    have e := int_text_length_le10 (k := 60) (by decide) h
    have e2 : (Str.ofString (toString i)).length = (toString i).length := by rw [ofString_length]
    show (Str.ofString (toString i)).length ≤ 61
    omega
  | .str s, h => by
    simp only [Sm] at h
    simp only [toPy, PyData.shown, DL.wt]
    refine StrLaws.reprText_len s fun c hc => ?_
    unfold PyData.strOk at h
    have := of_decide_eq_true (List.all_eq_true.mp (by rw [← Array.all_toList] at h; exact h) c hc)
    exact Nat.lt_of_lt_of_le this (by decide)
  | .tup xs, h => by
    simp only [toPy, PyData.shown, DL.wt]
    have := SmL.wt (d := xs) (by simpa only [Sm] using h)
    have := tupleText_le (PyData.shownAll (toPyL xs))
    omega
  | .lst xs, h => by
    simp only [toPy, PyData.shown, DL.wt]
    have := SmL.wt (d := xs) (by simpa only [Sm] using h)
    have := listText_le (PyData.shownAll (toPyL xs))
    omega
  | .dk _ _, h => by simp only [Sm] at h
  | .dt _ _, h => by simp only [Sm] at h
  | .ins _ _ _, h => by simp only [Sm] at h
  | .scr _, h => by simp only [Sm] at h
theorem SmL.wt : ∀ {d : List D}, SmL d → piled (PyData.shownAll (toPyL d)) ≤ wtL d
  | [], _ => by simp only [toPyL, PyData.shownAll, wtL]; decide
  | d :: ds, h => by
    simp only [SmL] at h
    simp only [toPyL, PyData.shownAll, wtL]
    have h1 := Sm.wt h.1
    have h2 := SmL.wt h.2
    have e3 : ∀ (t : Str) r, piled (t :: r) = t.length + 2 + piled r := fun t r => by simp only [piled, List.map_cons, List.sum_cons] <;> omega
    rw [e3]
    omega
end
theorem eqOk_of {x y : D} (hx : Sm x) (hy : Sm y) (dx : dep x ≤ 64) (dy : dep y ≤ 64) : eqOk x y = true := by
  unfold eqOk SeqAt.shaped
  rw [hx.plain, hy.plain, hx.lay, hy.lay, dep_py, dep_py, decide_eq_true dx, decide_eq_true dy]; rfl
theorem dRepr_of {d : D} (h : Sm d) (hd : dep d ≤ 50) (hw : wt d ≤ szMax) : dRepr d = some (.str (PyData.shown (toPy d))) := by
  unfold dRepr
  rw [h.plain, h.shw, noDict, dep_py, Nat.ble_eq_true_of_le hd, Nat.ble_eq_true_of_le (Nat.le_trans h.wt hw)]; rfl
theorem eqb_lst {xs ys : List D} (h : eqOk (.lst xs) (.lst ys) = true) : dEqB (.lst xs) (.lst ys) = some (PyData.eqv (toPy (.lst xs)) (toPy (.lst ys))) := by
  show (if eqOk (.lst xs) (.lst ys) = true then some (PyData.eqv (toPy (.lst xs)) (toPy (.lst ys))) else none) = _
  rw [if_pos h]
theorem eqb_tup {xs ys : List D} (h : eqOk (.tup xs) (.tup ys) = true) : dEqB (.tup xs) (.tup ys) = some (PyData.eqv (toPy (.tup xs)) (toPy (.tup ys))) := by
  show (if eqOk (.tup xs) (.tup ys) = true then some (PyData.eqv (toPy (.tup xs)) (toPy (.tup ys))) else none) = _
  rw [if_pos h]
theorem eqv_nil (xs : List D) : PyData.eqv (toPy (.lst xs)) (toPy (.lst [])) = xs.isEmpty := by
  simp only [toPy, PyData.eqv]
  cases xs with
  | nil => simp only [toPyL, PyData.eqvAll, List.isEmpty_nil]
  | cons d ds => simp only [toPyL, PyData.eqvAll, List.isEmpty_cons]
theorem o_eqNil {xs : List D} {P : D → Prop} (h : Sm (.lst xs)) (hd : dep (.lst xs) ≤ 64) (q : P (.bl xs.isEmpty)) : owp (dEq (.lst xs) (.lst [])) P := by
  unfold dEq
  rw [eqb_lst (eqOk_of h (by simp only [Sm, SmL]) hd (by simp only [dep, depL]; decide)), eqv_nil, owpZ]
  exact q
theorem o_neNil {xs : List D} {P : D → Prop} (h : Sm (.lst xs)) (hd : dep (.lst xs) ≤ 64) (q : P (.bl (!xs.isEmpty))) : owp (dNe (.lst xs) (.lst [])) P := by
  unfold dNe
  rw [eqb_lst (eqOk_of h (by simp only [Sm, SmL]) hd (by simp only [dep, depL]; decide)), eqv_nil, owpZ]
  exact q
theorem sm_int {i : Int} (h1 : -1000000000000 ≤ i) (h2 : i ≤ 1000000000000) : Sm (.int i) := by
  simp only [Sm]
  exact Nat.lt_of_lt_of_le (show i.natAbs < 1000000000001 by omega) (by decide)
theorem o_cutL {xs : List D} {lo hi : Option Int} {P : D → Prop} (h : P (.lst (cutD xs lo hi))) : owp (dCut (.lst xs) lo hi) P := by rw [owpZ]; exact h
theorem o_cutT {xs : List D} {lo hi : Option Int} {P : D → Prop} (h : P (.tup (cutD xs lo hi))) : owp (dCut (.tup xs) lo hi) P := by rw [owpZ]; exact h
theorem o_addL {xs ys : List D} {P : D → Prop} (c : xs.length + ys.length ≤ szMax) (h : P (.lst (xs ++ ys))) : owp (dAdd (.lst xs) (.lst ys)) P := by
  rw [owpZ]
  show Z.owp (if xs.length + ys.length ≤ szMax then some (.lst (xs ++ ys)) else none) P
  rw [if_pos c]; exact h
theorem cutD_to (xs : List D) {k : Int} (hk : 0 ≤ k) : cutD xs none (some k) = xs.take k.toNat := by
  unfold cutD
  rw [show HT.sIx xs.length 0 none = 0 from rfl, show HT.sIx xs.length xs.length (some k) = min k.toNat xs.length by
    show (if k < 0 then _ else _) = _
    rw [if_neg (by omega)]]
  rw [List.drop_zero, Nat.sub_zero]
  rcases Nat.le_total k.toNat xs.length with h | h
  · rw [Nat.min_eq_left h]
  · rw [Nat.min_eq_right h, List.take_length, List.take_of_length_le h]
theorem cutD_from (xs : List D) {k : Int} (hk : 0 ≤ k) : cutD xs (some k) none = xs.drop k.toNat := by
  unfold cutD
  rw [show HT.sIx xs.length xs.length none = xs.length from rfl, show HT.sIx xs.length 0 (some k) = min k.toNat xs.length by
    show (if k < 0 then _ else _) = _
    rw [if_neg (by omega)]]
  rcases Nat.le_total k.toNat xs.length with h | h
  · rw [Nat.min_eq_left h, List.take_of_length_le (by rw [List.length_drop]; omega)]
  · rw [Nat.min_eq_right h, List.drop_length, List.drop_of_length_le h]; simp
theorem o_allT {xs : List D} {P : D → Prop} (h : ∀ d ∈ xs, d = .bl true) (q : P (.bl true)) : owp (dAll (.lst xs)) P := by
  have e : ∀ xs : List D, (∀ d ∈ xs, d = .bl true) → ∃ bs, blsOf xs = some bs ∧ bs.all id = true := fun xs => by
    induction xs with
    | nil => exact fun _ => ⟨[], rfl, rfl⟩
    | cons d ds ih =>
      intro h
      obtain ⟨bs, h1, h2⟩ := ih fun d hd => h d (List.mem_cons_of_mem _ hd)
      refine ⟨true :: bs, ?_, by rw [List.all_cons, h2]; rfl⟩
      rw [h d (List.mem_cons_self ..)]
      unfold blsOf
      rw [h1]; rfl
  obtain ⟨bs, h1, h2⟩ := e xs h
  have e2 : dAll (.lst xs) = (blsOf xs).map fun bs => .bl (bs.all id) := rfl
  rw [e2, h1, owpZ]
  show P (.bl (bs.all id))
  rw [h2]
  exact q
theorem smL_of {ds : List D} (h : ∀ d ∈ ds, Sm d) : SmL ds := by
  induction ds with
  | nil => simp only [SmL]
  | cons d ds ih => simp only [SmL]; exact ⟨h d (List.mem_cons_self ..), ih fun e he => h e (List.mem_cons_of_mem _ he)⟩
theorem depL_of {ds : List D} {k : Nat} (h : ∀ d ∈ ds, dep d ≤ k) : depL ds ≤ k := by
  induction ds with
  | nil => simp only [depL]; omega
  | cons d ds ih =>
    simp only [depL]
    have h1 := h d (List.mem_cons_self ..)
    have h2 := ih fun e he => h e (List.mem_cons_of_mem _ he)
    omega
theorem wtL_of {ds : List D} {k : Nat} (h : ∀ d ∈ ds, wt d + 2 ≤ k) : wtL ds ≤ ds.length * k := by
  induction ds with
  | nil => simp only [wtL]; omega
  | cons d ds ih =>
    simp only [wtL]
    have h1 := h d (List.mem_cons_self ..)
    have h2 := ih fun e he => h e (List.mem_cons_of_mem _ he)
    rw [List.length_cons, Nat.succ_mul]
    omega
end DL
namespace DL
open PySem PySem.Spec PyProof.Rows L2
/-! ### a list, a tuple, a text: what their iterators draw -/
inductive Sk where
  | lst (a : Addr) | tup (a : Addr) | str (z : Str) (t : Tok)
def Sk.val : Sk → Value
  | .lst a => .ref a
  | .tup a => .ref a
  | .str z t => .str z t
def Sk.ab : Sk → V
  | .lst a => .ref a
  | .tup a => .ref a
  | .str z _ => .str z
def Sk.St (it : Addr) : Sk → Nat → Heap → Prop
  | .lst a, i, h => h.IsListIter it a i
  | .tup a, i, h => h.IsTupleIter it a i
  | .str z t, i, h => h.IsStrIter it (strIterType z) z t i
def Sk.Sq (K : PySem.W.Frag) (H : Hp) : Sk → List V → Prop
  | .lst a, xs => SqL K H a xs
  | .tup a, xs => SqT K H a xs
  | .str z _, xs => xs = z.cps.toList.map fun c => V.str ⟨#[c]⟩
def Sk.fp : Sk → List Addr
  | .lst a => [a]
  | .tup a => [a]
  | .str _ _ => []
def Sk.G (its : Array Value) : Sk → Heap → Prop
  | .lst a, h => h.IsList a its
  | .tup a, h => h.IsTuple a its
  | .str _ _, _ => True
def Sk.n (its : Array Value) : Sk → Nat
  | .lst _ => its.size
  | .tup _ => its.size
  | .str z _ => z.cps.size
def Sk.P (its : Array Value) : Sk → Nat → Value → Prop
  | .lst _, i, v => its[i]? = some v
  | .tup _, i, v => its[i]? = some v
  | .str z _, i, v => ∃ c u, z.cps[i]? = some c ∧ v = .str ⟨#[c]⟩ u
def Sk.obj : Sk → Obj
  | .lst l => { cls := .type "list_iterator", data := .fields #[.ref l, .int 0 0] }
  | .tup l => { cls := .type "tuple_iterator", data := .fields #[.ref l, .int 0 0] }
  | .str z t => { cls := .type (strIterType z), data := .fields #[.str z t, .int 0 0] }
theorem Sk.begins (its : Array Value) : ∀ k : Sk, Begins k.val k.obj (k.G its)
  | .lst a => begins_list a its
  | .tup a => begins_tuple a its
  | .str z t => begins_text z t
theorem Sk.St0 {it : Addr} {h : Heap} : ∀ {k : Sk}, h.get? it = some k.obj → k.St it 0 h
  | .lst _, e => ⟨_, e, rfl, rfl⟩
  | .tup _, e => ⟨_, e, rfl, rfl⟩
  | .str _ _, e => ⟨_, e, rfl, rfl⟩
theorem Sk.St.obj {it : Addr} {i : Nat} {h : Heap} : ∀ {k : Sk}, k.St it i h → ∃ o vs, h.get? it = some o ∧ o.data = .fields vs
  | .lst _, ⟨o, e, _, d⟩ => ⟨o, _, e, d⟩
  | .tup _, ⟨o, e, _, d⟩ => ⟨o, _, e, d⟩
  | .str _ _, ⟨o, e, _, d⟩ => ⟨o, _, e, d⟩
theorem Sk.St.at {it : Addr} {i : Nat} {h h' : Heap} (k' : ∀ o, h.get? it = some o → h'.get? it = some o) : ∀ {k : Sk}, k.St it i h → k.St it i h'
  | .lst _, ⟨o, e, c⟩ => ⟨o, k' o e, c⟩
  | .tup _, ⟨o, e, c⟩ => ⟨o, k' o e, c⟩
  | .str _ _, ⟨o, e, c⟩ => ⟨o, k' o e, c⟩
theorem Sk.G.seq {its : Array Value} {h : Heap} : ∀ {k : Sk}, k.G its h → ∀ b ∈ k.fp, ∃ o vs n, h.get? b = some o ∧ o.data = .seq vs n
  | .lst a, ⟨o, e, _, n, d⟩, b, hb => by rw [List.mem_singleton.mp hb]; exact ⟨o, _, n, e, d⟩
  | .tup a, ⟨o, e, _, n, d⟩, b, hb => by rw [List.mem_singleton.mp hb]; exact ⟨o, _, n, e, d⟩
  | .str _ _, _, b, hb => nomatch hb
theorem Sk.draws {prog : Program} {w : World} {A : Around} (hh : A.handled = none) (it : Addr) (its : Array Value) : ∀ (k : Sk), (∀ b ∈ k.fp, b ≠ it) → Draws prog w A it (it :: k.fp) (k.n its) (k.P its) (fun i h => k.St it i h ∧ k.G its h)
  | .lst a, ne => Draws.list hh it a (ne a (by simp [Sk.fp])) its
  | .tup a, ne => Draws.tuple hh it a (ne a (by simp [Sk.fp])) its
  | .str z t, _ =>
    let D : Draws prog w A it [it] z.cps.size (fun i v => ∃ c u, z.cps[i]? = some c ∧ v = .str ⟨#[c]⟩ u) (fun i h => h.IsStrIter it (strIterType z) z t i) := Draws.text hh it z t
    { live := fun i h st => D.live i h st.1
      frame := fun i h h' st k => ⟨D.frame i h h' st.1 k, trivial⟩
      item := fun i s Q E hi st hQ => D.item i s Q E hi st.1 fun x h' tk p q b => hQ x h' tk p ⟨q, trivial⟩ b
      done := fun s Q E st hE => D.done s Q E st.1 hE }
theorem vals_get' {xs : List V} {us : List Value} {i : Nat} {u : Value} (r : Vals xs us) (h : us[i]? = some u) : ∃ x, xs[i]? = some x ∧ RelV x u := by
  have hl : i < xs.length := by rw [r.length]; exact (List.getElem?_eq_some_iff.mp h).1
  obtain ⟨u', h1, h2⟩ := r.get (List.getElem?_eq_getElem hl)
  rw [h] at h1
  cases h1
  exact ⟨_, List.getElem?_eq_getElem hl, h2⟩
/-- the reading's items, the model's items -/
theorem Sk.inv {X : Cx} {pins : List (Addr × Obj)} {σ : L2.St} {H : Hp} {s : Shared} {xs : List V} (I : Inv X pins σ H s) : ∀ {k : Sk}, k.Sq X.K H xs → ∃ its, k.G its s.heap ∧ k.n its = xs.length ∧ ∀ i u, k.P its i u → ∃ x, xs[i]? = some x ∧ RelV x u
  | .lst a, h => by
    obtain ⟨its, rv, p, hz⟩ := I.list h
    refine ⟨its.toArray, p.isList, by simpa [Sk.n] using rv.length.symm, fun i u q => ?_⟩
    have q : its[i]? = some u := by simpa [Sk.P] using q
    exact vals_get' rv q
  | .tup a, h => by
    obtain ⟨its, rv, p, hz⟩ := I.tuple h
    refine ⟨its.toArray, p, by simpa [Sk.n] using rv.length.symm, fun i u q => ?_⟩
    have q : its[i]? = some u := by simpa [Sk.P] using q
    exact vals_get' rv q
  | .str z t, h => by
    have h : xs = z.cps.toList.map fun c => V.str ⟨#[c]⟩ := h
    subst h
    refine ⟨#[], trivial, by simp [Sk.n], fun i u ⟨c, t', hc, e⟩ => ⟨.str ⟨#[c]⟩, ?_, ?_⟩⟩
    · rw [List.getElem?_map, Array.getElem?_toList, hc]; rfl
    · subst e; exact ⟨t', rfl⟩
/-! ### enumerate -/
def IteS (K : PySem.W.Frag) (k : Sk) : It :=
  ⟨fun i H => ∃ (xs : List V) (x : V), k.Sq K H xs ∧ xs[i]? = some x, fun i H v H' => ∃ T x, v = .ref T ∧ H T = none ∧ H' = upd H T (.tup [.int (i : Nat), x]) ∧ ∀ xs, k.Sq K H xs → xs[i]? = some x, fun i H => ∃ xs : List V, k.Sq K H xs ∧ xs.length = i⟩
theorem Sk.inj {X : Cx} {pins : List (Addr × Obj)} {σ : L2.St} {H : Hp} {s : Shared} {xs ys : List V} (I : Inv X pins σ H s) : ∀ {k : Sk}, k.Sq X.K H xs → k.Sq X.K H ys → xs = ys
  | .lst _, h, h' => I.list_inj h h'
  | .tup _, h, h' => I.tuple_inj h h'
  | .str _ _, h, h' => h.trans h'.symm
theorem turn_enumS {P : Program} {w : World} {K : PySem.W.Frag} {elts : List Expr} {kk : Nat} {tpos : Pos} (k : Sk) (e it : Addr) :
    Turn P w K (.Tuple elts kk tpos) (IteS K k) [e, it] e (fun i h => (∃ old, IsEnum h e it ((i : Nat) : Int) old) ∧ k.St it i h ∧ e ≠ it) where
  mem := by simp
  obj := fun i h st b hb => by
    obtain ⟨⟨old, he⟩, hi, _⟩ := st
    obtain ⟨o, vs, ho, hd⟩ := hi.obj
    have e' : b = e ∨ b = it := by simpa using hb
    rcases e' with z | z
    · rw [z]; exact ⟨_, he, fun v q => nomatch q⟩
    · rw [z]; exact ⟨o, ho, fun v q => by rw [hd] at q; cases q⟩
  keep := fun i h h' st k' => let ⟨⟨old, he⟩, hi, hne⟩ := st; ⟨⟨old, k' e (by simp) _ he⟩, hi.at fun o q => k' it (by simp) o q, hne⟩
  item := by
    intro X hP hw hK hc i pins s σ H E I hf st hg
    subst hP hw hK
    obtain ⟨⟨old, he⟩, hit, hne⟩ := st
    obtain ⟨xs, x, hq, hx⟩ := hg
    obtain ⟨its, hG, hn, hP⟩ := Sk.inv I hq
    obtain ⟨oi, vsi, hoi, hdi⟩ := hit.obj
    have sep : ∀ b ∈ k.fp, b ≠ it ∧ b ≠ e := fun b hb => by
      obtain ⟨o, vs, n, h1, h2⟩ := hG.seq b hb
      refine ⟨fun z => ?_, fun z => ?_⟩
      · rw [z, hoi] at h1; cases h1; rw [hdi] at h2; cases h2
      · rw [z, he] at h1; cases h1; cases h2
    have hel : e < s.heap.objs.size := Heap.lt_size he
    have hil : it < s.heap.objs.size := Heap.lt_size hoi
    have hi : i < k.n its := by rw [hn]; exact (List.getElem?_eq_some_iff.mp hx).1
    have D := Sk.draws (prog := X.prog) (w := X.w) (A := X.A.in1) (I.ok.hd hc) it its k fun b hb => (sep b hb).1
    refine wpAny_pyNext_enum_itemD D he ⟨hit, hG⟩ hi hne (fun q => ?_) fun u h' tk hPu ho hit' hT hsz hk => ?_
    · rcases List.mem_cons.mp q with z | z
      · exact hne z
      · exact (sep e z).2 rfl
    obtain ⟨y, hy, ru⟩ := hP i u hPu
    rw [hx] at hy
    cases hy
    refine ⟨_, rfl, wpAny_letOwnedTupleGo_enum (s := { s with heap := h', toks := tk + 1 }) ho fun h'' he' sb => ?_⟩
    have hT2 : h''.get? s.heap.objs.size = some { cls := .type "tuple", data := .seq #[.int i tk, u] } := (sb.2 _ (Nat.ne_of_gt hel)).trans hT
    have new : ObjOk X.prog X.w (upd H s.heap.objs.size (.tup [.int (i : Nat), x])) h'' s.heap.objs.size (.tup [.int (i : Nat), x]) :=
      ⟨by show 2 ≤ sizeLine; decide, [.int i tk, u], .cons ⟨_, rfl⟩ (.cons ru .nil), ⟨_, hT2, rfl, _, rfl⟩⟩
    have I1 : Inv X pins σ (upd H s.heap.objs.size (.tup [.int (i : Nat), x])) { s with heap := h'', toks := tk + 1 } :=
      I.turnedNew (ch := [e, it]) (fun b ob hb q => (sb.2 b (fun z => hb (by simp [z]))).trans (hk b ob (fun z => hb (by simp [z])) (fun z => hb (by simp [z])) q)) hf (Nat.le_refl _) new
    refine ⟨.ref s.heap.objs.size, _, I1, rfl, ⟨_, x, rfl, I.hok.fresh (Nat.le_refl _), rfl, fun ys hy => by rw [Sk.inj I hy hq]; exact hx⟩, ⟨⟨u, ?_⟩, hit'.1.at fun o q => (sb.2 it (Ne.symm hne)).trans q, hne⟩, fun b hb => ?_⟩
    · have e1 : ((i + 1 : Nat) : Int) = (i : Int) + 1 := by omega
      rw [e1]; exact he'
    · have hb' : b < s.heap.objs.size := by
        have e' : b = e ∨ b = it := by simpa using hb
        rcases e' with z | z
        · rw [z]; exact hel
        · rw [z]; exact hil
      rw [upd_ne (Nat.ne_of_lt hb')]
      exact (hf b hb).1
  done := by
    intro X hP hw hK hc i pins s σ H E I hf st hg
    subst hP hw hK
    obtain ⟨⟨old, he⟩, hit, hne⟩ := st
    obtain ⟨xs, hq, hx⟩ := hg
    obtain ⟨its, hG, hn, hP⟩ := Sk.inv I hq
    obtain ⟨oi, vsi, hoi, hdi⟩ := hit.obj
    have sep : ∀ b ∈ k.fp, b ≠ it := fun b hb z => by
      obtain ⟨o, vs, n, h1, h2⟩ := hG.seq b hb
      rw [z, hoi] at h1; cases h1; rw [hdi] at h2; cases h2
    obtain ⟨f0, f1, f2, f3, f4, f5⟩ := hf it (by simp)
    have D := Sk.draws (prog := X.prog) (w := X.w) (A := X.A.in1) (I.ok.hd hc) it its k sep
    have hi : i = k.n its := by rw [hn, hx]
    subst hi
    exact wpAny_pyNext_enum_endD D he ⟨hit, hG⟩ fun h' eb => ⟨rfl, I.turned (t' := s.toks) (fun b o hb q => eb b o hb q) f0 f1 f3 f4 f5⟩
  self := fun A i s Q E st h => let ⟨⟨_, he⟩, _⟩ := st; wpAny_pyIter_enum he h
set_option maxHeartbeats 1000000 in
theorem meets_enumerate_newB1 {v : Value} {o : Obj} {H : Heap → Prop} (B : Begins v o H) :
    Meets (Builtin.«enumerate.__new__» ⟨[.type "enumerate", v], []⟩) (fun _ R s => H s.heap ∧
      R (.ok (.ret (.ref (s.heap.push o).objs.size))) { s with heap := (s.heap.push o).push { cls := .type "enumerate", data := .fields #[.none, .bool false, .ref s.heap.objs.size, rawInt 0, .none, .none] } }) :=
  .of_wp fun prog w A R s h => by
    obtain ⟨hp, g, d, tk, os⟩ := s; obtain ⟨h1, h⟩ := h
    have hsub := sub_enumerate
    have q1 : ∀ {A' : Around} {E : Value → Shared → Prop} {Q : Value → Shared → Prop}, Q (.ref hp.objs.size) ⟨hp.push o, g, d, tk, os⟩ → wpAny (model prog w) A' (pyIter v) Q E ⟨hp, g, d, tk, os⟩ :=
      fun q => B.iter prog w _ _ ⟨hp, g, d, tk, os⟩ _ h1 q
    wp_walk using q1
    refine wpAny_stack_any fun st => wpAny_pure ?_
    split
    · rename_i c _ _ _ _ _
      cases (c == Value.type "enumerate")
      · wp_walk using q1
        exact ⟨_, rfl, h⟩
      · wp_walk using q1
        exact ⟨_, rfl, h⟩
    · wp_walk using q1
      exact ⟨_, rfl, h⟩
theorem enum_begins1 {prog : Program} {w : World} {A : Around} {E : Value → Shared → Prop} {s : Shared} {v : Value} {o : Obj} {H : Heap → Prop} {Q : Value → Shared → Prop} (B : Begins v o H) (h1 : H s.heap)
    (h : ∀ h', IsEnum h' (s.heap.objs.size + 1) s.heap.objs.size 0 .none → h'.get? s.heap.objs.size = some o → h'.objs.size = s.heap.objs.size + 2 →
      (∀ b o, s.heap.get? b = some o → h'.get? b = some o) → Q (.ref (s.heap.objs.size + 1)) { s with heap := h' }) :
    wpAny (model prog w) A (call (.type "enumerate") [v]) Q E s := by
  refine callType_new F.called_enumerate (by decide) (F.typeCall_enumerate_1 _) (F.newCall_enumerate_1 _) (fun obj => F.args_object_init_2 obj _) F.entry_enumerate_new
    (meets_enumerate_newB1 B) ⟨h1, ?_⟩
  have hz : (s.heap.push o).objs.size = s.heap.objs.size + 1 := Heap.size_push ..
  show _ ∧ _
  rw [hz]
  have he : IsEnum ((s.heap.push o).push { cls := .type "enumerate", data := .fields #[.none, .bool false, .ref s.heap.objs.size, rawInt 0, .none, .none] }) (s.heap.objs.size + 1) s.heap.objs.size 0 .none := by
    have := Heap.get?_push_size (s.heap.push o) (o := { cls := .type "enumerate", data := .fields #[.none, .bool false, .ref s.heap.objs.size, rawInt 0, .none, .none] }) rfl
    rw [hz] at this; exact this
  refine ⟨⟨_, he, rfl⟩, h _ he (Heap.get?_push_of_some _ (Heap.get?_push_size _ B.free)) (by rw [Heap.size_push, hz]) fun b o x => Heap.get?_push_of_some _ (Heap.get?_push_of_some _ x)⟩
/-- what stands in a reading as a walkable thing -/
def Wkb (K : PySem.W.Frag) (H : Hp) (v : V) (R : Sk → List V → Prop) : Prop :=
  (∃ a xs, v = .ref a ∧ SqL K H a xs ∧ R (.lst a) xs) ∨ (∃ a xs, v = .ref a ∧ SqT K H a xs ∧ R (.tup a) xs) ∨ ∃ z, v = .str z ∧ ∀ t, R (.str z t) (z.cps.toList.map fun c => V.str ⟨#[c]⟩)
theorem Wkb.sk {K : PySem.W.Frag} {H : Hp} {v : V} {u : Value} {R : Sk → List V → Prop} (h : Wkb K H v R) (r : RelV v u) : ∃ k xs, u = Sk.val k ∧ k.Sq K H xs ∧ R k xs := by
  rcases h with ⟨a, xs, rfl, h1, h2⟩ | ⟨a, xs, rfl, h1, h2⟩ | ⟨z, rfl, h2⟩
  · cases r; exact ⟨.lst a, xs, rfl, h1, h2⟩
  · cases r; exact ⟨.tup a, xs, rfl, h1, h2⟩
  · obtain ⟨t, rfl⟩ := r; exact ⟨.str z t, _, rfl, rfl, h2 t⟩
def iEnumS (K : PySem.W.Frag) (ta : TA) : TI := fun σ H R => ta σ H fun vs H1 => ∃ v, vs = [v] ∧ Wkb K H1 v fun k _ => R (IteS K k) H1
theorem pi_enumS {X : Cx} {e : Expr} {ta : TA} {p pos tpos : Pos} {elts : List Expr} {kk : Nat} (hg : Gl X "enumerate") (hm : X.mg "enumerate" = none) (ha : PA X [e] ta) (hs : starEach [e] X.env = [(false, eval e X.env)] := by rfl) :
    PI X (.Tuple elts kk tpos) (.Call (.Name "enumerate" p) [e] [] pos) (iEnumS X.K ta) := by
  refine ⟨fun pins s σ H R I h => ?_⟩
  refine Call_ (ld_blt I hg hm boot_enumerate (PyProof.Rows.callWith_type1 (thn (ha.run pos pins s σ H _ I h) fun us s1 ⟨vs, H1, I1, r1, q1⟩ => ?_) hs rfl))
  obtain ⟨v, ex, q1⟩ := q1
  subst ex
  cases r1 with
  | cons r rr =>
    cases rr
    obtain ⟨k, xs, rfl, hq, q⟩ := q1.sk r
    obtain ⟨its, hG, hn, hP⟩ := Sk.inv I1 hq
    refine enum_begins1 (k.begins its) hG fun h' he hit hsz hk => wpAny_pyIter_enum he ?_
    have I2 : Inv X pins σ H1 { s1 with heap := h' } := I1.kept (t' := s1.toks) hk
    refine ⟨s1.heap.objs.size + 1, [s1.heap.objs.size + 1, s1.heap.objs.size], _, _, H1, rfl, I2, turn_enumS k (s1.heap.objs.size + 1) s1.heap.objs.size, ⟨⟨.none, he⟩, Sk.St0 hit, Nat.succ_ne_self _⟩, fun b hb => ?_, q⟩
    have e' : b = s1.heap.objs.size + 1 ∨ b = s1.heap.objs.size := by simpa using hb
    have hle : s1.heap.objs.size ≤ b := by
      rcases e' with z | z
      · rw [z]; exact Nat.le_add_right _ _
      · rw [z]; exact Nat.le_refl _
    exact I1.fpOk hle (I1.hok.fresh hle)
/-! ### zip -/
def ItzS (K : PySem.W.Frag) (k l : Sk) : It :=
  ⟨fun i H => ∃ (xs ys : List V) (x y : V), k.Sq K H xs ∧ l.Sq K H ys ∧ xs[i]? = some x ∧ ys[i]? = some y,
    fun i H v H' => ∃ T x y, v = .ref T ∧ H T = none ∧ H' = upd H T (.tup [x, y]) ∧ (∀ xs, k.Sq K H xs → xs[i]? = some x) ∧ ∀ ys, l.Sq K H ys → ys[i]? = some y,
    fun i H => ∃ xs ys : List V, k.Sq K H xs ∧ l.Sq K H ys ∧ i = min xs.length ys.length⟩
theorem turn_zipS {P : Program} {w : World} {K : PySem.W.Frag} {elts : List Expr} {kk : Nat} {tpos : Pos} {k l : Sk} {z TI TO i1 i2 : Addr} (S : ZipSep2 z TI TO i1 i2 (i1 :: k.fp) (i2 :: l.fp)) :
    Turn P w K (.Tuple elts kk tpos) (ItzS K k l) [z, TI, TO, i1, i2] z (fun i h => IsZip h z TI TO .none ∧ IsTupOf2 h TI (.ref i1) (.ref i2) ∧ (∃ x y, IsTupOf2 h TO x y) ∧ k.St i1 i h ∧ l.St i2 i h) where
  mem := by simp
  obj := fun i h st c hc => by
    obtain ⟨hz, hTI, ⟨x, y, hTO⟩, h1, h2⟩ := st
    obtain ⟨o1, v1, e1, d1⟩ := h1.obj
    obtain ⟨o2, v2, e2, d2⟩ := h2.obj
    have e' : c = z ∨ c = TI ∨ c = TO ∨ c = i1 ∨ c = i2 := by simpa using hc
    rcases e' with q | q | q | q | q
    · rw [q]; exact ⟨_, hz, fun v q => nomatch q⟩
    · rw [q]; exact ⟨_, hTI, fun v q => nomatch q⟩
    · rw [q]; exact ⟨_, hTO, fun v q => nomatch q⟩
    · rw [q]; exact ⟨o1, e1, fun v q => by rw [d1] at q; cases q⟩
    · rw [q]; exact ⟨o2, e2, fun v q => by rw [d2] at q; cases q⟩
  keep := fun i h h' st k' => by
    obtain ⟨hz, hTI, ⟨x, y, hTO⟩, h1, h2⟩ := st
    exact ⟨k' z (by simp) _ hz, k' TI (by simp) _ hTI, ⟨x, y, k' TO (by simp) _ hTO⟩, h1.at fun o q => k' i1 (by simp) o q, h2.at fun o q => k' i2 (by simp) o q⟩
  item := by
    intro X hP hw hK hc i pins s σ H E I hf st hg
    subst hP hw hK
    obtain ⟨hz, hTI, ⟨x0, y0, hTO⟩, h1, h2⟩ := st
    obtain ⟨xs, ys, x, y, hqx, hqy, hx, hy⟩ := hg
    obtain ⟨its, hG1, hn1, hP1⟩ := Sk.inv I hqx
    obtain ⟨its2, hG2, hn2, hP2⟩ := Sk.inv I hqy
    obtain ⟨o1, v1, e1, d1⟩ := h1.obj
    obtain ⟨o2, v2, e2, d2⟩ := h2.obj
    have s1 : ∀ b ∈ k.fp, b ≠ i1 := fun b hb q => by
      obtain ⟨o, vs, n, q1, q2⟩ := hG1.seq b hb
      rw [q, e1] at q1; cases q1; rw [d1] at q2; cases q2
    have s2 : ∀ b ∈ l.fp, b ≠ i2 := fun b hb q => by
      obtain ⟨o, vs, n, q1, q2⟩ := hG2.seq b hb
      rw [q, e2] at q1; cases q1; rw [d2] at q2; cases q2
    have D1 := Sk.draws (prog := X.prog) (w := X.w) (A := X.A.in1) (I.ok.hd hc) i1 its k s1
    have D2 := Sk.draws (prog := X.prog) (w := X.w) (A := X.A.in1) (I.ok.hd hc) i2 its2 l s2
    have hi1 : i < k.n its := by rw [hn1]; exact (List.getElem?_eq_some_iff.mp hx).1
    have hi2 : i < l.n its2 := by rw [hn2]; exact (List.getElem?_eq_some_iff.mp hy).1
    have hzl : z < s.heap.objs.size := Heap.lt_size hz
    refine wpAny_pyNext_zipD2_item S D1 D2 hz hTI hTO ⟨h1, hG1⟩ ⟨h2, hG2⟩ hi1 hi2 fun u u2 h' tk hu hu2 z' TO' h1' h2' hT hsz hk => ?_
    obtain ⟨x', ex, ru⟩ := hP1 i u hu
    obtain ⟨y', ey, ru2⟩ := hP2 i u2 hu2
    rw [hx] at ex
    cases ex
    rw [hy] at ey
    cases ey
    refine ⟨_, rfl, wpAny_letOwnedTupleGo_zip (s := { s with heap := h', toks := tk }) z' fun h'' z'' sb => ?_⟩
    have hT2 : h''.get? s.heap.objs.size = some { cls := .type "tuple", data := .seq #[u, u2] } := (sb.2 _ (Nat.ne_of_gt hzl)).trans hT
    have new : ObjOk X.prog X.w (upd H s.heap.objs.size (.tup [x, y])) h'' s.heap.objs.size (.tup [x, y]) :=
      ⟨by show 2 ≤ sizeLine; decide, [u, u2], .cons ru (.cons ru2 .nil), ⟨_, hT2, rfl, _, rfl⟩⟩
    have I1 : Inv X pins σ (upd H s.heap.objs.size (.tup [x, y])) { s with heap := h'', toks := tk } :=
      I.turnedNew (t' := tk) (ch := [z, TI, TO, i1, i2]) (fun c o hb q => (sb.2 c (fun q' => hb (by simp [q']))).trans (hk c o (fun q' => hb (by simp [q'])) (fun q' => hb (by simp [q'])) (fun q' => hb (by simp [q'])) (fun q' => hb (by simp [q'])) q)) hf (Nat.le_refl _) new
    refine ⟨.ref s.heap.objs.size, _, I1, rfl, ⟨_, x, y, rfl, I.hok.fresh (Nat.le_refl _), rfl, fun q hq => by rw [Sk.inj I hq hqx]; exact hx, fun q hq => by rw [Sk.inj I hq hqy]; exact hy⟩, ⟨z'', ?_, ⟨u, u2, ?_⟩, ?_, ?_⟩, fun c hcm => ?_⟩
    · exact (sb.2 _ S.TIz).trans (hk _ _ S.TIz S.TITO S.TIi1 S.TIi2 hTI)
    · exact (sb.2 _ S.TOz).trans TO'
    · exact h1'.1.at fun o q => (sb.2 _ S.zi1.symm).trans q
    · exact h2'.1.at fun o q => (sb.2 _ S.zi2.symm).trans q
    · have hlt : c < s.heap.objs.size := by
        have e' : c = z ∨ c = TI ∨ c = TO ∨ c = i1 ∨ c = i2 := by simpa using hcm
        rcases e' with q | q | q | q | q
        · rw [q]; exact hzl
        · rw [q]; exact Heap.lt_size hTI
        · rw [q]; exact Heap.lt_size hTO
        · rw [q]; exact Heap.lt_size e1
        · rw [q]; exact Heap.lt_size e2
      rw [upd_ne (Nat.ne_of_lt hlt)]
      exact (hf c hcm).1
  done := by
    intro X hP hw hK hc i pins s σ H E I hf st hg
    subst hP hw hK
    obtain ⟨hz, hTI, ⟨x0, y0, hTO⟩, h1, h2⟩ := st
    obtain ⟨xs, ys, hqx, hqy, hend⟩ := hg
    obtain ⟨its, hG1, hn1, hP1⟩ := Sk.inv I hqx
    obtain ⟨its2, hG2, hn2, hP2⟩ := Sk.inv I hqy
    obtain ⟨o1, v1, e1, d1⟩ := h1.obj
    obtain ⟨o2, v2, e2, d2⟩ := h2.obj
    have s1 : ∀ b ∈ k.fp, b ≠ i1 := fun b hb q => by
      obtain ⟨o, vs, n, q1, q2⟩ := hG1.seq b hb
      rw [q, e1] at q1; cases q1; rw [d1] at q2; cases q2
    have s2 : ∀ b ∈ l.fp, b ≠ i2 := fun b hb q => by
      obtain ⟨o, vs, n, q1, q2⟩ := hG2.seq b hb
      rw [q, e2] at q1; cases q1; rw [d2] at q2; cases q2
    have D1 := Sk.draws (prog := X.prog) (w := X.w) (A := X.A.in1) (I.ok.hd hc) i1 its k s1
    have D2 := Sk.draws (prog := X.prog) (w := X.w) (A := X.A.in1) (I.ok.hd hc) i2 its2 l s2
    exact wpAny_pyNext_zipD2_end S D1 D2 hz hTI hTO ⟨h1, hG1⟩ ⟨h2, hG2⟩ (by omega) (by omega) (by omega) fun h' tk hk => ⟨rfl, I.turnedL (t' := tk) (ch := [z, TI, TO, i1, i2]) (fun c o hb q =>
      hk c o (fun q' => hb (by simp [q'])) (fun q' => hb (by simp [q'])) (fun q' => hb (by simp [q'])) (fun q' => hb (by simp [q'])) q) hf⟩
  self := fun A i s Q E st h => wpAny_pyIter_zip st.1 h
def iZipS (K : PySem.W.Frag) (ta : TA) : TI := fun σ H R => ta σ H fun vs H1 => ∃ v u, vs = [v, u] ∧ Wkb K H1 v fun k _ => Wkb K H1 u fun l _ => R (ItzS K k l) H1
theorem Sk.fp_lt {its : Array Value} {h : Heap} {k : Sk} (g : k.G its h) : ∀ b ∈ k.fp, b < h.objs.size := fun b hb => by
  obtain ⟨o, vs, n, q1, q2⟩ := g.seq b hb
  exact Heap.lt_size q1
theorem pi_zipS {X : Cx} {e e2 : Expr} {ta : TA} {p pos tpos : Pos} {elts : List Expr} {kk : Nat} (hg : Gl X "zip") (hm : X.mg "zip" = none) (ha : PA X [e, e2] ta)
    (hs : starEach [e, e2] X.env = (false, eval e X.env) :: starEach [e2] X.env := by rfl) (hpl : (backTo pos (starEach [e2] X.env)).any (·.1) = false := by rfl) :
    PI X (.Tuple elts kk tpos) (.Call (.Name "zip" p) [e, e2] [] pos) (iZipS X.K ta) := by
  refine ⟨fun pins s σ H R I h => ?_⟩
  refine Call_ (ld_blt I hg hm PyProof.Rows.boot_zip (PyProof.Rows.callWith_type1 (thn (ha.run pos pins s σ H _ I h) fun us s1 ⟨vs, H1, I1, r1, q1⟩ => ?_) hs hpl))
  obtain ⟨v, u, ex, q1⟩ := q1
  subst ex
  cases r1 with
  | cons r rr =>
    cases rr with
    | cons r' rr =>
      cases rr
      obtain ⟨k, xs, rfl, hqx, q1⟩ := q1.sk r
      obtain ⟨l, ys, rfl, hqy, q⟩ := q1.sk r'
      obtain ⟨its, hG1, hn1, hP1⟩ := Sk.inv I1 hqx
      obtain ⟨its2, hG2, hn2, hP2⟩ := Sk.inv I1 hqy
      refine zip_begins2 (k.begins its) (l.begins its2) hG1 hG2 fun h' hz hTI hTO h1 h2 hsz hk => wpAny_pyIter_zip hz ?_
      have I2 : Inv X pins σ H1 { s1 with heap := h' } := I1.kept (t' := s1.toks) hk
      refine ⟨s1.heap.objs.size + 4, [s1.heap.objs.size + 4, s1.heap.objs.size + 2, s1.heap.objs.size + 3, s1.heap.objs.size, s1.heap.objs.size + 1], _, _, H1, rfl, I2, turn_zipS (zip_sep2 (Sk.fp_lt hG1) (Sk.fp_lt hG2)), ⟨hz, hTI, ⟨_, _, hTO⟩, Sk.St0 h1, Sk.St0 h2⟩, fun c hcm => ?_, q⟩
      have e' : c = s1.heap.objs.size + 4 ∨ c = s1.heap.objs.size + 2 ∨ c = s1.heap.objs.size + 3 ∨ c = s1.heap.objs.size ∨ c = s1.heap.objs.size + 1 := by simpa using hcm
      have hle : s1.heap.objs.size ≤ c := by
        rcases e' with z | z | z | z | z
        · rw [z]; exact Nat.le_add_right _ _
        · rw [z]; exact Nat.le_add_right _ _
        · rw [z]; exact Nat.le_add_right _ _
        · rw [z]; exact Nat.le_refl _
        · rw [z]; exact Nat.le_add_right _ _
      exact I1.fpOk hle (I1.hok.fresh hle)
end DL
namespace DL
open PySem PySem.Spec PyProof.Rows L2
/-! ### enumerate, zip -/
section
variable {K : PySem.W.Frag} {mg : Str → Option Value} {F H : Hp}
theorem seq_wkb {d : D} {v : V} {ds : List D} {R : Sk → List V → Prop} (s : Same F H) (r : Rep K mg F d v) (e : seqOf d = some ds) (h : ∀ k xs, (∀ H', Same F H' → Sk.Sq K H' k xs) → RepL K mg F ds xs → R k xs) : Wkb K H v R := by
  unfold seqOf at e
  split at e
  · cases e
    obtain ⟨a, xs, rfl, h1, h2, h3⟩ := r
    exact .inl ⟨a, xs, rfl, .of (s _ _ h1), h (.lst a) xs (fun H' s' => .of (s' _ _ h1)) h3⟩
  · cases e
    obtain ⟨a, xs, rfl, h1, h2, h3⟩ := r
    exact .inr (.inl ⟨a, xs, rfl, .of (s _ _ h1), h (.tup a) xs (fun H' s' => .of (s' _ _ h1)) h3⟩)
  · cases e
    cases r
    exact .inr (.inr ⟨_, rfl, fun t => h (.str _ t) _ (fun _ _ => rfl) (RepL.mk (f := fun c => D.str ⟨#[c]⟩) (g := fun c => V.str ⟨#[c]⟩) (fun _ => by simp only [Rep]) _)⟩)
  · cases e
theorem wk_pair {J : It} {n : Nat} {G : Hp → Prop} {f g : Nat → Option V} {ps : List D} (w : Walk J n G (YPair f g)) (hG : ∀ H, Same F H → G H) (hn : ps.length = n)
    (h : ∀ i x y, i < n → f i = some x → g i = some y → ∃ d e, ps[i]? = some (.tup [d, e]) ∧ Rep K mg F d x ∧ Rep K mg F e y) : Wk K mg F J ps := by
  refine ⟨G, YPair f g, by rw [hn]; exact w, hG, fun i H x H' F1 hi y s1 s2 => ?_⟩
  obtain ⟨T, u, v, rfl, hT, rfl, e1, e2⟩ := y
  obtain ⟨d, e, ed, r1, r2⟩ := h i u v (by omega) e1 e2
  obtain ⟨x, r⟩ := new_tup (mg := mg) (ds := [d, e]) (xs := [u, v]) s2 hT (by show 2 ≤ sizeLine; decide) (by simp only [RepL]; exact ⟨u, _, rfl, Rep.same s1 r1, v, _, rfl, Rep.same s1 r2, rfl⟩)
  exact ⟨_, _, ed, x, r⟩
end
def enumD : Nat → List D → List D
  | _, [] => []
  | i, d :: ds => .tup [.int i, d] :: enumD (i + 1) ds
theorem enumD_len : ∀ (k : Nat) (ds : List D), (enumD k ds).length = ds.length
  | _, [] => rfl
  | k, _ :: ds => by unfold enumD; rw [List.length_cons, List.length_cons, enumD_len]
theorem enumD_get : ∀ (k : Nat) (ds : List D) (i : Nat), (enumD k ds)[i]? = ds[i]?.map fun d => .tup [.int ((k + i : Nat) : Int), d]
  | _, [], i => by unfold enumD; simp
  | k, d :: ds, 0 => by unfold enumD; simp
  | k, d :: ds, i + 1 => by
    unfold enumD
    rw [List.getElem?_cons_succ, List.getElem?_cons_succ, enumD_get (k + 1) ds i]
    rw [show k + 1 + i = k + (i + 1) by omega]
def zipD (ds es : List D) : List D := List.zipWith (fun a b => .tup [a, b]) ds es
def evEnum (m : M (List D)) : M (List D) := m.bind fun ds => fun σ => match ds with
  | [d] => (match seqOf d with
    | some xs => .ok (enumD 0 xs) σ
    | none => .bad)
  | _ => .bad
def evZip (m : M (List D)) : M (List D) := m.bind fun ds => fun σ => match ds with
  | [d, e] => (match seqOf d, seqOf e with
    | some xs, some ys => .ok (zipD xs ys) σ
    | _, _ => .bad)
  | _ => .bad
section
variable {X : Cx} {W : WX} {ml : M (List D)} {p pos tpos : Pos} {elts : List Expr} {kk : Nat} {a b : Expr}
theorem walk_enumS {K : PySem.W.Frag} {k : Sk} {xs : List V} : Walk (IteS K k) xs.length (fun H => k.Sq K H xs) (YPair (fun i => some (.int (i : Nat))) (fun i => xs[i]?)) := by
  refine ⟨fun i _ hi q => ⟨xs, xs[i], q, by simp [hi]⟩, fun _ q => ⟨xs, q, rfl⟩, fun i H v H' _ q y => ?_⟩
  obtain ⟨T, x, h1, h2, h3, h4⟩ := y
  exact ⟨T, .int (i : Nat), x, h1, h2, h3, rfl, h4 xs q⟩
theorem walk_zipS {K : PySem.W.Frag} {k l : Sk} {xs ys : List V} : Walk (ItzS K k l) (min xs.length ys.length) (fun H => k.Sq K H xs ∧ l.Sq K H ys) (YPair (fun i => xs[i]?) (fun i => ys[i]?)) := by
  refine ⟨fun i _ hi q => ?_, fun _ q => ⟨xs, ys, q.1, q.2, rfl⟩, fun i H v H' _ q y => ?_⟩
  · have h1 : i < xs.length := by omega
    have h2 : i < ys.length := by omega
    exact ⟨xs, ys, xs[i], ys[i], q.1, q.2, by simp [h1], by simp [h2]⟩
  · obtain ⟨T, x, z, h1, h2, h3, h4, h5⟩ := y
    exact ⟨T, x, z, h1, h2, h3, h4 xs q.1, h5 ys q.2⟩
theorem di_enum (hm : X.mg "enumerate" = none) (ha : DA X W [a] ml) (hg : Gl X "enumerate" := by rfl) (hs : starEach [a] X.env = [(false, eval a X.env)] := by rfl) :
    DI X W (.Tuple elts kk tpos) (.Call (.Name "enumerate" p) [a] [] pos) (evEnum ml) := by
  obtain ⟨t, q, ha⟩ := ha
  refine ⟨_, pi_enumS hg hm q hs, fun F H σ τ Q R h => ha F H σ τ _ R (dak' h fun ds σ1 vs F1 H1 R1 r1 t1 h => ?_)⟩
  match ds, h, r1 with
  | [d], h, r1 =>
    simp only [RepL] at r1
    obtain ⟨v, _, rfl, q1, rfl⟩ := r1
    dsimp only at h
    cases e : seqOf d with
    | none => rw [e] at h; exact False.elim h
    | some ds =>
      rw [e] at h
      refine ⟨v, rfl, seq_wkb R1.same q1 e fun k xs hk r => h _ F1 H1 R1 ?_ t1⟩
      refine wk_pair walk_enumS hk (by rw [enumD_len, r.len]) fun i x y hi e1 e2 => ?_
      cases e1
      obtain ⟨d', h1, h2⟩ := r.get' e2
      exact ⟨.int (i : Nat), d', by rw [enumD_get, h1, Nat.zero_add]; rfl, rfl, h2⟩
theorem di_zip (hm : X.mg "zip" = none) (ha : DA X W [a, b] ml) (hg : Gl X "zip" := by rfl) (hs : starEach [a, b] X.env = (false, eval a X.env) :: starEach [b] X.env := by rfl) (hpl : (backTo pos (starEach [b] X.env)).any (·.1) = false := by rfl) :
    DI X W (.Tuple elts kk tpos) (.Call (.Name "zip" p) [a, b] [] pos) (evZip ml) := by
  obtain ⟨t, q, ha⟩ := ha
  refine ⟨_, pi_zipS hg hm q hs hpl, fun F H σ τ Q R h => ha F H σ τ _ R (dak' h fun ds σ1 vs F1 H1 R1 r1 t1 h => ?_)⟩
  match ds, h, r1 with
  | [d, d'], h, r1 =>
    simp only [RepL] at r1
    obtain ⟨v, _, rfl, q1, w, _, rfl, q2, rfl⟩ := r1
    dsimp only at h
    cases e : seqOf d with
    | none => rw [e] at h; exact False.elim h
    | some ds =>
      cases e' : seqOf d' with
      | none => rw [e, e'] at h; exact False.elim h
      | some es =>
        rw [e, e'] at h
        refine ⟨v, w, rfl, seq_wkb R1.same q1 e fun k xs hk r => seq_wkb R1.same q2 e' fun l ys hl r' => h _ F1 H1 R1 ?_ t1⟩
        refine wk_pair walk_zipS (fun H s => ⟨hk H s, hl H s⟩) (by unfold zipD; rw [List.length_zipWith, r.len, r'.len]) fun i x y hi e1 e2 => ?_
        obtain ⟨a, h1, h2⟩ := r.get' e1
        obtain ⟨b, h3, h4⟩ := r'.get' e2
        exact ⟨a, b, by unfold zipD; rw [List.getElem?_zipWith, h1, h3], h2, h4⟩
end
/-! ### texts -/
def tx (l : List Nat) : Str := ⟨l.toArray⟩
theorem tx_tl (z : Str) : tx z.cps.toList = z := by unfold tx; rw [Array.toArray_toList]
theorem tl_tx (l : List Nat) : (tx l).cps.toList = l := rfl
def isStr : D → Bool
  | .str _ => true
  | _ => false
def dCnt : D → List D → Option D
  | .str z, [.str y] => (match y.cps.toList with
    | [c] => some (.int (z.cps.toList.count c : Nat))
    | _ => none)
  | _, _ => none
def strsOf : List D → Option (List Str)
  | [] => some []
  | .str i :: r => (strsOf r).map (i :: ·)
  | _ :: _ => none
def dJoin : D → List D → Option D
  | .str a, [x] => (match x with
    | .lst ds => (strsOf ds).bind fun ys => if (ys.map (·.length)).sum + ys.length * a.length ≤ szMax then some (.str (tx (TL.joinL a.cps.toList (ys.map (·.cps.toList))))) else none
    | _ => none)
  | _, _ => none
def dSplit : D → List D → Option D
  | .str z, [.str y] => (match y.cps.toList with
    | [c] => if c < 256 ∧ z.length ≤ 500000 then some (.lst ((TL.spl [c] 0 [] z.cps.toList).map fun l => .str (tx l))) else none
    | _ => none)
  | _, _ => none
section
variable {K : PySem.W.Frag} {mg : Str → Option Value}
theorem tyV_str {F H : Hp} {x : D} {u : V} (s : Same F H) (r : Rep K mg F x u) (h : isStr x = true) : tyV K "str" u H := by
  cases x <;> first | (cases h; done) | (cases r; rfl)
theorem one_sign {y : Str} {c : Nat} (h : y.cps.toList = [c]) : y = ⟨#[c]⟩ := by
  rw [← tx_tl y, h]; rfl
theorem cnt_count (c : Nat) : ∀ l : List Nat, cnt c l = (l.count c : Nat)
  | [] => rfl
  | a :: l => by
    rw [cnt_cons, cnt_count c l, List.count_cons]
    by_cases h : a = c
    · subst h; simp; omega
    · simp [h]
theorem v_cnt : VMeth K mg "str" (fun x xs H Q => ∃ a b, x = .str a ∧ xs = [.str b] ∧ Q (.int (Txt.count a b)) H) isStr dCnt := by
  refine ⟨fun F H x u s r h => tyV_str s r h, fun F H x u xs us d Q s rx rl e k => ?_⟩
  unfold dCnt at e
  split at e
  · rename_i z y
    split at e
    · rename_i c hc
      cases e
      cases rx
      simp only [RepL, Rep] at rl
      obtain ⟨v, _, rfl, rfl, rfl⟩ := rl
      refine ⟨z, y, rfl, rfl, ?_⟩
      rw [one_sign hc, count_cnt, cnt_count]
      exact k _ F H (Ext.refl s) rfl
    · cases e
  · cases e
theorem strsOf_rep {F : Hp} : ∀ {ds : List D} {xs : List V} {ns : List Str}, RepL K mg F ds xs → strsOf ds = some ns → xs = ns.map V.str
  | [], xs, ns, h, e => by simp only [RepL] at h; subst h; cases e; rfl
  | .str i :: ds, xs, ns, h, e => by
    simp only [RepL] at h
    obtain ⟨x, r, rfl, h1, h2⟩ := h
    unfold strsOf at e
    cases q : strsOf ds with
    | none => rw [q] at e; cases e
    | some m =>
      rw [q] at e
      cases e
      have h1 : x = .str i := by simpa only [Rep] using h1
      rw [h1, strsOf_rep h2 q]; rfl
  | .non :: _, _, _, _, e => by cases e
  | .bl _ :: _, _, _, _, e => by cases e
  | .int _ :: _, _, _, _, e => by cases e
  | .tup _ :: _, _, _, _, e => by cases e
  | .lst _ :: _, _, _, _, e => by cases e
  | .dk _ _ :: _, _, _, _, e => by cases e
  | .dt _ _ :: _, _, _, _, e => by cases e
  | .ins _ _ _ :: _, _, _, _, e => by cases e
  | .scr _ :: _, _, _, _, e => by cases e
def rJoin (K : PySem.W.Frag) : V → List V → Hp → VK → Prop := fun x xs H Q => ∃ a p, ∃ ys : List Str, x = .str a ∧ xs = [.ref p] ∧ (SqL K H p (ys.map V.str) ∨ SqT K H p (ys.map V.str)) ∧
    (ys.map (·.length)).sum + ys.length * a.length ≤ 16777216 ∧ Q (.str (Txt.join a ys)) H
theorem v_join : VMeth K mg "str" (rJoin K) isStr dJoin := by
  refine ⟨fun F H x u s r h => tyV_str s r h, fun F H x u xs us d Q s rx rl e k => ?_⟩
  unfold dJoin at e
  split at e
  · rename_i a x
    split at e
    · rename_i ds
      cases q : strsOf ds with
      | none => rw [q] at e; cases e
      | some ys =>
        rw [q] at e
        have e : (if (ys.map (·.length)).sum + ys.length * a.length ≤ szMax then some (D.str (tx (TL.joinL a.cps.toList (ys.map (·.cps.toList))))) else none) = some d := e
        split at e
        · rename_i hz
          cases e
          cases rx
          simp only [RepL, Rep] at rl
          obtain ⟨v, _, rfl, ⟨b, zs, rfl, hb, hz', hr⟩, rfl⟩ := rl
          rw [strsOf_rep hr q] at hb
          refine ⟨a, b, ys, rfl, rfl, .inl (.of (s _ _ hb)), Nat.le_trans hz (by decide), ?_⟩
          have e2 : Txt.join a ys = tx (TL.joinL a.cps.toList (ys.map (·.cps.toList))) := by
            rw [TL.join_eq]
            have := TL.tl_join a ys
            rw [← tx_tl (Str.join a ys)]
            exact congrArg tx this
          rw [e2]
          exact k _ F H (Ext.refl s) rfl
        · cases e
    · cases e
  · cases e
def rSplit : V → List V → Hp → VK → Prop := fun x xs H Q => ∃ a b, x = .str a ∧ xs = [.str b] ∧ (b.length == 0) = false ∧ a.length + 2 ≤ sizeLine ∧ rNewStrs (Txt.split a b) H Q
theorem v_split : VMeth K mg "str" rSplit isStr dSplit := by
  refine ⟨fun F H x u s r h => tyV_str s r h, fun F H x u xs us d Q s rx rl e k => ?_⟩
  unfold dSplit at e
  split at e
  · rename_i z y
    split at e
    · rename_i c hc
      split at e
      · rename_i hz
        cases e
        cases rx
        simp only [RepL, Rep] at rl
        obtain ⟨v, _, rfl, rfl, rfl⟩ := rl
        have hy := one_sign hc
        subst hy
        refine ⟨z, ⟨#[c]⟩, rfl, rfl, rfl, sz_ok (by have := hz.2; unfold szMax; omega), fun p hp => ?_⟩
        have hk : ¬ Builtin.Str.strKind z < Builtin.Str.strKind ⟨#[c]⟩ := TL.kind_ok (by simp [hz.1])
        have e2 := TL.split_spl z ⟨#[c]⟩ (fun z => nomatch z) hk
        have e3 : Txt.split z ⟨#[c]⟩ = (TL.spl [c] 0 [] z.cps.toList).map tx := by
          have : ((Txt.split z ⟨#[c]⟩).map TL.tl).map tx = (TL.spl [c] 0 [] z.cps.toList).map tx := by rw [e2]
          rw [List.map_map] at this
          rw [← this]
          rw [show (tx ∘ TL.tl) = id from funext fun z => tx_tl z, List.map_id]
        have hl : (Txt.split z ⟨#[c]⟩).length ≤ sizeLine := Nat.le_trans (PyProof.Rows.split_le z _) (sz_ok (by have := hz.2; unfold szMax; omega))
        rw [e3]
        rw [e3] at hl
        obtain ⟨x, r⟩ := new_lst (K := K) (F := F) (mg := mg) (ds := (TL.spl [c] 0 [] z.cps.toList).map fun l => .str (tx l)) (xs := ((TL.spl [c] 0 [] z.cps.toList).map tx).map V.str) s hp (by rw [List.length_map]; exact hl) (by
          rw [List.map_map]
          exact RepL.mk (f := fun l => D.str (tx l)) (g := V.str ∘ tx) (fun _ => by simp only [Rep, Function.comp_apply]) _)
        exact k _ _ _ x r
      · cases e
    · cases e
  · cases e
end
section
variable {X : Cx} {W : WX} {e o : Expr} {es : List Expr} {ma : M D} {ml : M (List D)} {apos cpos : Pos}
theorem b_cnt (ho : DV X W o ma) (ha : DA X W (e :: es) ml) (hbase : attributeBase o "count" X.env (eval o X.env) = eval o X.env := by rfl)
    (hfew : ((backTo cpos (starEach (e :: es) X.env)).all (fun x => !x.1) && (backToKw cpos (keywordEach [] X.env)).all (fun x => x.1.isSome)
      && decide ((e :: es).length + ([] : List Keyword).length + (if ([] : List Keyword).isEmpty then 0 else 1) < 30)) = true := by rfl)
    (hline : (apos.endLine == cpos.line) = true := by rfl) (hs : starEach (e :: es) X.env = (false, eval e X.env) :: starEach es X.env := by rfl) (hplain : (backTo cpos (starEach es X.env)).any (·.1) = false := by rfl) :
    DV X W (.Call (.Attribute o "count" apos) (e :: es) [] cpos) (evBm isStr dCnt ma ml) := dv_bm PySem.F.plainAttrs_str PySem.F.slot_str_count PySem.F.type_str_count mt_count v_cnt ho ha hbase hfew hline hs hplain
theorem b_join (ho : DV X W o ma) (ha : DA X W (e :: es) ml) (hbase : attributeBase o "join" X.env (eval o X.env) = eval o X.env := by rfl)
    (hfew : ((backTo cpos (starEach (e :: es) X.env)).all (fun x => !x.1) && (backToKw cpos (keywordEach [] X.env)).all (fun x => x.1.isSome)
      && decide ((e :: es).length + ([] : List Keyword).length + (if ([] : List Keyword).isEmpty then 0 else 1) < 30)) = true := by rfl)
    (hline : (apos.endLine == cpos.line) = true := by rfl) (hs : starEach (e :: es) X.env = (false, eval e X.env) :: starEach es X.env := by rfl) (hplain : (backTo cpos (starEach es X.env)).any (·.1) = false := by rfl) :
    DV X W (.Call (.Attribute o "join" apos) (e :: es) [] cpos) (evBm isStr dJoin ma ml) := dv_bm PySem.F.plainAttrs_str PySem.F.slot_str_join PySem.F.type_str_join mt_join v_join ho ha hbase hfew hline hs hplain
theorem b_split (ho : DV X W o ma) (ha : DA X W (e :: es) ml) (hbase : attributeBase o "split" X.env (eval o X.env) = eval o X.env := by rfl)
    (hfew : ((backTo cpos (starEach (e :: es) X.env)).all (fun x => !x.1) && (backToKw cpos (keywordEach [] X.env)).all (fun x => x.1.isSome)
      && decide ((e :: es).length + ([] : List Keyword).length + (if ([] : List Keyword).isEmpty then 0 else 1) < 30)) = true := by rfl)
    (hline : (apos.endLine == cpos.line) = true := by rfl) (hs : starEach (e :: es) X.env = (false, eval e X.env) :: starEach es X.env := by rfl) (hplain : (backTo cpos (starEach es X.env)).any (·.1) = false := by rfl) :
    DV X W (.Call (.Attribute o "split" apos) (e :: es) [] cpos) (evBm isStr dSplit ma ml) := dv_bm PySem.F.plainAttrs_str PySem.F.slot_str_split PySem.F.type_str_split mt_split v_split ho ha hbase hfew hline hs hplain
end
end DL
namespace DL
open PySem PySem.Spec PyProof.Rows L2
/-! ### repr of data that holds instances of own classes -/
section
variable (rp : D → Option Str)
mutual
def dTxt : D → Option Str
  | .non => some "None"
  | .bl b => some (PyData.shown (.bool b))
  | .int i => if i.natAbs.log2 < 1920 then some (PyData.shown (.int i)) else none
  | .str z => if (PyData.shown (.str z)).length ≤ szMax then some (PyData.shown (.str z)) else none
  | .tup xs => (dTxtL xs).map tupleText
  | .lst xs => (dTxtL xs).map listText
  | .ins c ns vs => rp (.ins c ns vs)
  | .dk _ _ => none
  | .dt _ _ => none
  | .scr _ => none
def dTxtL : List D → Option (List Str)
  | [] => some []
  | d :: ds => (dTxt d).bind fun t => (dTxtL ds).map fun ts => t :: ts
end
end
mutual
/-- how deep lists and tuples lie -/
def lv : D → Nat
  | .tup xs => lvL xs + 1
  | .lst xs => lvL xs + 1
  | .non => 0
  | .bl _ => 0
  | .int _ => 0
  | .str _ => 0
  | .ins _ _ _ => 0
  | .dk _ _ => 0
  | .dt _ _ => 0
  | .scr _ => 0
def lvL : List D → Nat
  | [] => 0
  | d :: ds => max (lv d) (lvL ds)
end
mutual
def okR : D → Bool
  | .tup xs => okRL xs
  | .lst xs => okRL xs
  | .non => true
  | .bl _ => true
  | .int _ => true
  | .str _ => true
  | .ins _ _ _ => true
  | .dk _ _ => false
  | .dt _ _ => false
  | .scr _ => false
def okRL : List D → Bool
  | [] => true
  | d :: ds => okR d && okRL ds
end
mutual
theorem dTxt_ok {rp : D → Option Str} : ∀ {d : D} {t : Str}, dTxt rp d = some t → okR d = true
  | .non, _, _ => rfl
  | .bl _, _, _ => rfl
  | .int _, _, _ => rfl
  | .str _, _, _ => rfl
  | .ins _ _ _, _, _ => rfl
  | .tup xs, t, h => by
    simp only [dTxt] at h
    obtain ⟨ts, h1, _⟩ := Option.map_eq_some_iff.mp h
    simp only [okR]
    exact dTxtL_ok h1
  | .lst xs, t, h => by
    simp only [dTxt] at h
    obtain ⟨ts, h1, _⟩ := Option.map_eq_some_iff.mp h
    simp only [okR]
    exact dTxtL_ok h1
  | .dk _ _, _, h => by simp [dTxt] at h
  | .dt _ _, _, h => by simp [dTxt] at h
  | .scr _, _, h => by simp [dTxt] at h
theorem dTxtL_ok {rp : D → Option Str} : ∀ {ds : List D} {ts : List Str}, dTxtL rp ds = some ts → okRL ds = true
  | [], _, _ => rfl
  | d :: ds, ts, h => by
    simp only [dTxtL] at h
    obtain ⟨t, h1, h2⟩ := Option.bind_eq_some_iff.mp h
    obtain ⟨r, h3, _⟩ := Option.map_eq_some_iff.mp h2
    simp only [okRL, Bool.and_eq_true]
    exact ⟨dTxt_ok h1, dTxtL_ok h3⟩
end
section
variable {K : PySem.W.Frag} {mg : Str → Option Value} {F : Hp}
mutual
theorem lv_eq : ∀ {d d' : D} {v : V}, okR d = true → okR d' = true → Rep K mg F d v → Rep K mg F d' v → lv d = lv d'
  | .non, d', v, _, ok, h, h' => by cases h; cases d' <;> first | rfl | (cases h'; done) | (simp [okR] at ok; done) | (simp only [Rep] at h'; obtain ⟨a, xs, e, _⟩ := h'; cases e) | (simp only [Rep] at h'; obtain ⟨a, C, dx, xs, e, _⟩ := h'; cases e)
  | .bl b, d', v, _, ok, h, h' => by cases h; cases d' <;> first | rfl | (cases h'; done) | (simp [okR] at ok; done) | (simp only [Rep] at h'; obtain ⟨a, xs, e, _⟩ := h'; cases e) | (simp only [Rep] at h'; obtain ⟨a, C, dx, xs, e, _⟩ := h'; cases e)
  | .int b, d', v, _, ok, h, h' => by cases h; cases d' <;> first | rfl | (cases h'; done) | (simp [okR] at ok; done) | (simp only [Rep] at h'; obtain ⟨a, xs, e, _⟩ := h'; cases e) | (simp only [Rep] at h'; obtain ⟨a, C, dx, xs, e, _⟩ := h'; cases e)
  | .str b, d', v, _, ok, h, h' => by cases h; cases d' <;> first | rfl | (cases h'; done) | (simp [okR] at ok; done) | (simp only [Rep] at h'; obtain ⟨a, xs, e, _⟩ := h'; cases e) | (simp only [Rep] at h'; obtain ⟨a, C, dx, xs, e, _⟩ := h'; cases e)
  | .dk _ _, _, _, ok, _, _, _ => by simp [okR] at ok
  | .dt _ _, _, _, ok, _, _, _ => by simp [okR] at ok
  | .scr _, _, _, ok, _, _, _ => by simp [okR] at ok
  | .ins c ns vs, d', v, _, ok, h, h' => by
    simp only [Rep] at h
    obtain ⟨a, C, dx, xs, rfl, h1, h2, _⟩ := h
    cases d' <;> first
      | rfl
      | (cases h'; done)
      | (simp [okR] at ok; done)
      | (simp only [Rep] at h'; obtain ⟨b, ys, e, e2, _⟩ := h'; cases e; rw [h2] at e2; cases e2)
  | .tup ds, d', v, ok0, ok, h, h' => by
    simp only [Rep] at h
    obtain ⟨a, xs, rfl, h2, _, hr⟩ := h
    cases d' <;> first
      | (cases h'; done)
      | (simp [okR] at ok; done)
      | (simp only [Rep] at h'; obtain ⟨b, C, dx, ys, e, _, e2, _⟩ := h'; cases e; rw [h2] at e2; cases e2; done)
      | skip
    · simp only [Rep] at h'
      obtain ⟨b, ys, e, e2, _, hr'⟩ := h'
      cases e; rw [h2] at e2; cases e2
      simp only [lv]
      simp only [okR] at ok0 ok
      rw [lvL_eq ok0 ok hr hr']
    · simp only [Rep] at h'
      obtain ⟨b, ys, e, e2, _⟩ := h'
      cases e; rw [h2] at e2; cases e2
  | .lst ds, d', v, ok0, ok, h, h' => by
    simp only [Rep] at h
    obtain ⟨a, xs, rfl, h2, _, hr⟩ := h
    cases d' <;> first
      | (cases h'; done)
      | (simp [okR] at ok; done)
      | (simp only [Rep] at h'; obtain ⟨b, C, dx, ys, e, _, e2, _⟩ := h'; cases e; rw [h2] at e2; cases e2; done)
      | skip
    · simp only [Rep] at h'
      obtain ⟨b, ys, e, e2, _⟩ := h'
      cases e; rw [h2] at e2; cases e2
    · simp only [Rep] at h'
      obtain ⟨b, ys, e, e2, _, hr'⟩ := h'
      cases e; rw [h2] at e2; cases e2
      simp only [lv]
      simp only [okR] at ok0 ok
      rw [lvL_eq ok0 ok hr hr']
theorem lvL_eq : ∀ {ds ds' : List D} {xs : List V}, okRL ds = true → okRL ds' = true → RepL K mg F ds xs → RepL K mg F ds' xs → lvL ds = lvL ds'
  | [], ds', xs, _, _, h, h' => by
    simp only [RepL] at h
    subst h
    cases ds' with
    | nil => rfl
    | cons d ds => simp only [RepL] at h'; obtain ⟨_, _, e, _⟩ := h'; cases e
  | d :: ds, ds', xs, ok0, ok, h, h' => by
    simp only [RepL] at h
    obtain ⟨x, r, rfl, h1, h2⟩ := h
    cases ds' with
    | nil => simp only [RepL] at h'; cases h'
    | cons d' ds' =>
      simp only [RepL] at h'
      obtain ⟨_, _, e, h3, h4⟩ := h'
      cases e
      simp only [okRL, Bool.and_eq_true] at ok0 ok
      simp only [lvL]
      rw [lv_eq ok0.1 ok.1 h1 h3, lvL_eq ok0.2 ok.2 h2 h4]
end
theorem lv_mem : ∀ {ds : List D} {d : D}, d ∈ ds → lv d ≤ lvL ds
  | _ :: ds, d, h => by
    simp only [lvL]
    rcases List.mem_cons.mp h with rfl | h
    · omega
    · have := lv_mem (ds := ds) h; omega
end
/-- which reprs are under way -/
def GD (K : PySem.W.Frag) (mg : Str → Option Value) (g : List Code) (F : Hp) (n : Nat) : Prop := ∀ id v rest kw, Code.builtin id ⟨v :: rest, kw⟩ ∈ g → ∃ a d, v = .ref a ∧ okR d = true ∧ Rep K mg F d (.ref a) ∧ n < lv d
theorem GD.same {K : PySem.W.Frag} {mg : Str → Option Value} {g : List Code} {F F' : Hp} {n : Nat} (s : Same F F') (h : GD K mg g F n) : GD K mg g F' n := fun id v rest kw hm =>
  let ⟨a, d, e, ok, r, l⟩ := h id v rest kw hm; ⟨a, d, e, ok, Rep.same s r, l⟩
theorem GD.le {K : PySem.W.Frag} {mg : Str → Option Value} {g : List Code} {F : Hp} {n m : Nat} (s : m ≤ n) (h : GD K mg g F n) : GD K mg g F m := fun id v rest kw hm =>
  let ⟨a, d, e, ok, r, l⟩ := h id v rest kw hm; ⟨a, d, e, ok, r, by omega⟩
theorem GD.cons {K : PySem.W.Frag} {mg : Str → Option Value} {g : List Code} {F : Hp} {n : Nat} {a : Addr} {d : D} {id : String} {rest : List Value} {kw : List (Str × Value)} (h : GD K mg g F (n + 1)) (ok : okR d = true) (r : Rep K mg F d (.ref a)) (e : lv d = n + 1) : GD K mg (.builtin id ⟨.ref a :: rest, kw⟩ :: g) F n := by
  intro id' v rest' kw' hm
  rcases List.mem_cons.mp hm with q | hm
  · cases q; exact ⟨a, d, rfl, ok, r, by omega⟩
  · obtain ⟨b, d', q, ok', r', l⟩ := h _ _ _ _ hm
    exact ⟨b, d', q, ok', r', by omega⟩
theorem GD.clear {K : PySem.W.Frag} {mg : Str → Option Value} {g : List Code} {F : Hp} {n : Nat} {a : Addr} {d : D} (h : GD K mg g F n) (ok : okR d = true) (r : Rep K mg F d (.ref a)) (e : lv d = n) : Clear g a := by
  intro id v rest kw hm q
  obtain ⟨b, d', q', ok', r', l⟩ := h _ _ _ _ hm
  rw [q] at q'
  cases q'
  have := lv_eq ok ok' r r'
  omega
/-- room within nested reprs -/
structure RA (X : Cx) (k n : Nat) (A : Around) : Prop where
  fr : A.frames = some X.stack
  hd : A.handled = none
  dp : A.depth + n + 3 * k + 12 < recursionLimit
  un : A.units + n + 16 * k + 220 < cLine
theorem list_depth {A : Around} {args : Args} : (A.under (.builtin "list.__repr__.loop" args)).depth ≤ A.depth + 1 := by
  first | (simp [Around.under, Code.weight, Code.isCreation, Code.isGuard, Code.isCaller, Code.frames, Code.isFrame, guardIds]; done) | (simp [Around.under, Code.weight, Code.isCreation, Code.isGuard, Code.isCaller, Code.frames, Code.isFrame, guardIds]; split <;> omega)
theorem tup_depth {A : Around} {args : Args} : (A.under (.builtin "tuple.__repr__" args)).depth ≤ A.depth + 1 := by
  first | (simp [Around.under, Code.weight, Code.isCreation, Code.isGuard, Code.isCaller, Code.frames, Code.isFrame, guardIds]; done) | (simp [Around.under, Code.weight, Code.isCreation, Code.isGuard, Code.isCaller, Code.frames, Code.isFrame, guardIds]; split <;> omega)
end DL
namespace DL
open PySem PySem.Spec PyProof.Rows L2
open Sem (wp)
open Builtin
open Builtin.List
/-- the classes' own __repr__ -/
def RpC (X : Cx) (rp : D → Option Str) (k : Nat) : Prop := ∀ c ns vs t, rp (.ins c ns vs) = some t → ∃ C f sem σ', X.mg c = some (.ref C) ∧ PySem.W.findIn X.K (.ref C) "__repr__" = some (some (.ref f)) ∧ PySem.W.isFn X.K (.ref f) = true ∧
  OkFn X.prog X.w X.K X.mg X.base k f ["self"] sem ∧ sem [.d (.ins c ns vs)] = .ok (.d (.str t)) σ'
/-- the repr of one thing -/
def RpI (X : Cx) (k : Nat) (d : D) (t : Str) : Prop :=
  ∀ (base : Nat) (A : Around) (g : List Code) (pins : List (Addr × Obj)) (σ : L2.St) (F H : Hp) (s : Shared) (u : Value) (v : V) (E : Value → Shared → Prop), base + t.length ≤ sizeLine → RA X k (lv d) A → A.guards = some g → GD X.K X.mg g F (lv d) →
    Inv X pins σ H s → Same F H → Rep X.K X.mg F d v → RelV v u → wpAny (model X.prog X.w) A (pyReprUnder base u) (fun t' s' => t' = t ∧ ∃ F' H', Inv X pins σ H' s' ∧ Ext F H F' H') E s
section
variable {X : Cx} {rp : D → Option Str} {k : Nat}
theorem RpI.scalar {d : D} {t : Str} (h : ∀ u v F, Rep X.K X.mg F d v → RelV v u → ReprIs X.prog X.w u t) : RpI X k d t := by
  intro base A g pins σ F H s u v E hb ra hg gd I sm r rv
  exact h u v F r rv base hb A E s _ fun tk => ⟨rfl, F, H, I.tok tk, Ext.refl sm⟩
theorem callOwn {A : Around} {f : Addr} {pins : List (Addr × Obj)} {σ : L2.St} {F H : Hp} {s : Shared} {E : Value → Shared → Prop} {sem : List Sl → Res Sl} {d : D} {t : Str} {σ' : List Sl} {a : Addr} (G : OkFn X.prog X.w X.K X.mg X.base k f ["self"] sem) (hs : sem [.d d] = .ok (.d (.str t)) σ')
    (hr : Room k A) (hf : A.frames = some X.stack) (I : Inv X pins σ H s) (sm : Same F H) (r : Rep X.K X.mg F d (.ref a)) :
    wpAny (model X.prog X.w) A (call (.ref f) [.ref a]) (fun w s' => ∃ tk, w = .str t tk ∧ ∃ F' H', Inv X pins σ H' s' ∧ Ext F H F' H') E s := by
  obtain ⟨fd, G, _, hb⟩ := G
  have sp : spD X.K X.mg sem [.ref a] H (fun v H' => v = .str t ∧ ∃ F', Ext F H F' H') (fun _ _ _ => False) := by
    have R0 : Rl X.K X.mg F H [] [] := ⟨rfl, sm, fun i x e => by simp at e, fun i o e => by simp at e, fun i j o o' b e => by simp at e⟩
    have := spD_d (f := sem) (W := fun _ _ _ _ => False) (ds := [d]) (vs := [.ref a]) (σ := []) (τ := []) (Q := fun v H' => v = .str t ∧ ∃ F', Ext F H F' H') R0 (by simp only [RepL]; exact ⟨_, _, rfl, r, rfl⟩) (by
      show OkE _ _ _ _ _ _ _ _ (match sem [.d d] with
        | .ok r _ => .ok r []
        | .ex e _ => .ex e []
        | .bad => .bad)
      rw [hs]
      intro v F' H' R' rs nd tr
      have no : ∀ b, ¬ Own [] [] b := fun b ⟨i, o, e, _⟩ => by simp at e
      exact ⟨rs, F', tr.fz, fun b o e => tr.keep b o e (no b), R'.same, fun b e => (tr.new b e).elim .inl fun z => z.elim .inr fun z => absurd z (no b)⟩)
    exact this
  have hl : ([.ref a] : List Value).length = ["self"].length := rfl
  have e0 := I.env0
  refine wpAny_call (codeAny_mono (G.run A X.stack s H ⟨[.ref a], []⟩ [.ref a] [.ref a] _ _ hr ⟨hf, e0.mod, e0.bs, e0.bsz, e0.funs, e0.frf, e0.hok, e0.bare⟩ (by simpa using hb s [.ref a] I.kIn hl) (.cons rfl .nil) sp) fun r s' hq => ?_)
  cases r with
  | error e =>
    obtain ⟨_, _, _, _, _, _, _, _, _, _, _, _, h⟩ := hq
    exact h.elim
  | ok fl =>
    cases fl with
    | ret u =>
      obtain ⟨v, H', I', rv, ev, F', x⟩ := I.after hq
      subst ev
      obtain ⟨tk, rfl⟩ := rv
      exact ⟨tk, rfl, F', H', I', x⟩
    | next => exact False.elim hq
    | brk => exact False.elim hq
    | cont => exact False.elim hq
theorem RpI.ins (P : RpC X rp k) {c : Str} {ns : List Str} {vs : List D} {t : Str} (h : rp (.ins c ns vs) = some t) : RpI X k (.ins c ns vs) t := by
  intro base A g pins σ F H s u v E hb ra hg gd I sm r rv
  obtain ⟨C, f, sem, σ', hm, hs, hf, G, es⟩ := P c ns vs t h
  have r0 := r
  simp only [Rep] at r
  obtain ⟨a, C', dx, xs, rfl, hm', ha, _⟩ := r
  rw [hm] at hm'
  cases hm'
  cases rv
  obtain ⟨ox, od, J, _⟩ := StX.insC_at I (.inr ⟨dx, _, sm _ _ ha⟩)
  have un := ra.un
  refine wpAny_pyReprUnder_ref (by omega) ?_
  unfold pyReprObjUnder pyReprObjBy
  refine wpAny_bind (wpAny_cRoomFor (by omega) ?_)
  refine wpAny_bind (wpAny_bind (J.type.here ((PySem.W.looks_findIn I.kIn hs).here ?_)))
  show wpAny _ _ (if (some (Value.ref f)).isNone = true then _ else _) _ _ _
  rw [if_neg (by simp)]
  have fin : wpAny (model X.prog X.w) A (call (.ref f) ([.ref a] ++ []) >>= fun v => pure (some v)) (fun r s' => wpAny (model X.prog X.w) A (match r with
      | some r => do
        if ← isInstance r (.type "str") then pure r else
          raiseError "TypeError" s!"__repr__ returned non-string (type {← typeNameOf r})"
      | none => unsupported "repr:special-get-raises") (fun v s' => ∃ x u, v = Value.str x u ∧ (x = t ∧ ∃ F' H', Inv X pins σ H' s' ∧ Ext F H F' H')) E s') E s := by
    refine wpAny_bind (wpAny_mono (callOwn (E := E) G es ⟨ra.hd, by have := ra.dp; omega, by omega⟩ ra.fr I sm r0) (fun w s' hw => ?_) fun _ _ x => x)
    obtain ⟨tk, rfl, F', H', I', x⟩ := hw
    refine wpAny_pure ?_
    exact wpAny_bind (wpAny_isInstance (T := "str") (b := true) rfl isSubtype_str_str (wpAny_pure ⟨t, tk, rfl, rfl, F', H', I', x⟩))
  refine wpAny_bind ?_
  simp only [callSpecialIfBoundBy?, bindSpecialIfBound?]
  refine wpAny_holding (wpAny_bind (wpAny_bind (wpAny_bind (J.type.here ((PySem.W.looks_findIn I.kIn hs).here ?_)))))
  refine wpAny_bind (wpAny_askSetting (wpAny_ite ?_))
  split
  · exact wpAny_bind ((PySem.W.bind_fn I.kIn _ (beq_iff_eq.mp hf)).here (wpAny_pure (by exact fin)))
  · exact wpAny_tryCatch (wpAny_bind ((PySem.W.bind_fn I.kIn _ (beq_iff_eq.mp hf)).here (wpAny_pure (by exact fin))))
end
/-! the list's loop -/
section
variable {X : Cx} {k : Nat} {pins : List (Addr × Obj)} {σ : L2.St}
theorem repin {P : Addr} {o o' : Obj} {H : Hp} {s : Shared} {h' : Heap} {t' : Nat} (fp : FpOk X pins H P) (I : Inv X ((P, o) :: pins) σ H s) (kp : ∀ b ob, b ≠ P → s.heap.get? b = some ob → h'.get? b = some ob) (hP : h'.get? P = some o') (hd : ∀ v, o'.data ≠ .cell v) :
    Inv X ((P, o') :: pins) σ H { s with heap := h', toks := t' } := by
  obtain ⟨f0, f1, f2, f3, f4, f5⟩ := fp
  have I1 : Inv X pins σ H { s with heap := h', toks := t' } := (ClX.unpin I).turned kp f0 f1 f3 f4 f5
  refine I1.pins_of fun p hp => ?_
  rcases List.mem_cons.mp hp with rfl | hp
  · exact ⟨hP, f0, f1, f2, hd⟩
  · exact I1.pin p (List.mem_append_right _ hp)
theorem list_loopI {a P : Addr} {ds : List D} {ts : List Str} {xs : List V} {F H : Hp} {base : Nat} {A : Around} {g : List Code} {n : Nat} {R : Result → Shared → Prop} (hl : lvL ds ≤ n) (hg : A.guards = some g) (gd : GD X.K X.mg g F (n + 1)) (ra : RA X k (n + 1) A) (ok : okRL ds = true) (ea : lvL ds = n)
    (hlen : ts.length = ds.length) (rl : RepL X.K X.mg F ds xs) (ha : F a = some (.lst xs)) (hz : xs.length ≤ sizeLine) (fp : ∀ H', H' P = none → FpOk X pins H' P)
    (hT : ∀ (i : Nat) (d : D), ds[i]? = some d → ∃ t, ts[i]? = some t ∧ RpI X k d t)
    (hR : ∀ s' u F' H', Inv X pins σ H' s' → Ext F H F' H' → R (.ok (.ret (.str (listText ts) u))) s')
    (hsz : base + (listText ts).length ≤ sizeLine) :
    ∀ (m i : Nat) (s : Shared) (F1 H1 : Hp) (acc : Array Value) (c : Nat) (done : List (Str × Tok)), ds.length - i = m → i ≤ ds.length → Inv X ((P, { cls := .type "list", dict := none, data := .seq acc c, slots := #[] }) :: pins) σ H1 s → Ext F H F1 H1 →
    acc.toList = strValues done → done.map (·.1) = ts.take i →
    codeAny (model X.prog X.w) A (.builtin "list.__repr__.loop" ⟨[.ref a, rawInt i, .ref P, rawInt ((base + piled (ts.take i) : Nat) : Int)], []⟩) R s := by
  have hX : (listText ts).length = (textFrom 0 "[" ts).length + 1 := by
    show (textFrom 0 "[" ts ++ "]").length = _
    rw [strLen_append]; rfl
  have hL := textFrom_len ts 0 "["
  have hsz1 : ds.length ≤ sizeLine := by
    have h1 := hL.1
    rw [if_neg (Nat.lt_irrefl 0)] at h1
    omega
  have hsz2 : ∀ t ∈ ts, t.length ≤ sizeLine := fun t ht => by
    have h2 := hL.2.1 t ht
    omega
  have hsz3 : (listText ts).length ≤ sizeLine := by omega
  have hp3 := piled_le_listText ts
  have hlx := rl.len
  intro m
  induction m with
  | zero =>
    intro i s F1 H1 acc c done hk hi I ex hacc hdone
    have hin : i = ds.length := by omega
    obtain ⟨its, rv, p, _⟩ := I.list (.of (ex.sm _ _ (ex.fz _ _ ha)) : SqL X.K H1 a xs)
    obtain ⟨o, ho, _, no, hd⟩ := p.isList
    have hil : its.length = ds.length := by rw [← rv.length, hlx]
    refine codeAny_builtin PySem.F.entry_list_repr_loop ?_
    show wpAny _ _ («list.__repr__.loop» ⟨[.ref a, .int i 0, .ref P, .int ((base + piled (ts.take i) : Nat) : Int) 0], []⟩) _ _ s
    rw [repr_loop_tree]
    refine wpAny_bind (wpAny_listItems ho hd ?_)
    have hnone : its.toArray[(i : Int).toNat]? = none := by simp [hin, hil]
    simp only [hnone]
    unfold reprEnd
    refine wpAny_bind (wpAny_listItems (ClX.pin_at I) rfl ?_)
    rw [hacc, repr_fold]
    refine wpAny_bind (wpAny_pure ?_)
    have hall : done.map (·.1) = ts := by rw [hdone, hin, ← hlen, List.take_length]
    rw [hall]
    refine wpAny_bind (wpAny_mkStr (wpAny_pure ?_) hsz3)
    exact hR _ _ F1 H1 (ClX.unpin (I.tok _)) ex
  | succ m ih =>
    intro i s F1 H1 acc c done hk hi I ex hacc hdone
    have hlt : i < ds.length := by omega
    obtain ⟨t, ht, hrep⟩ := hT i ds[i] (by simp [hlt])
    obtain ⟨its, rv, p, _⟩ := I.list (.of (ex.sm _ _ (ex.fz _ _ ha)) : SqL X.K H1 a xs)
    obtain ⟨o, ho, _, no, hd⟩ := p.isList
    have hil : its.length = ds.length := by rw [← rv.length, hlx]
    obtain ⟨x, hx, rx⟩ := rl.get (i := i) (d := ds[i]) (by simp [hlt])
    obtain ⟨u, hu, ru⟩ := rv.get hx
    have hp1 := piled_take_succ ht
    have hp2 := piled_take_le ts (i + 1)
    refine codeAny_builtin PySem.F.entry_list_repr_loop ?_
    show wpAny _ _ («list.__repr__.loop» ⟨[.ref a, .int i 0, .ref P, .int ((base + piled (ts.take i) : Nat) : Int) 0], []⟩) _ _ s
    rw [repr_loop_tree]
    refine wpAny_bind (wpAny_listItems ho hd ?_)
    have hsome : its.toArray[(i : Int).toNat]? = some u := by simpa using hu
    simp only [hsome]
    rw [Int.toNat_natCast]
    have hm : lv ds[i] ≤ n := Nat.le_trans (lv_mem (List.getElem_mem hlt)) hl
    have un := units_under_list_loop A ⟨[.ref a, .int i 0, .ref P, .int ((base + piled (ts.take i) : Nat) : Int) 0], []⟩
    have dpp := list_depth (A := A) (args := ⟨[.ref a, .int i 0, .ref P, .int ((base + piled (ts.take i) : Nat) : Int) 0], []⟩)
    have ra' : RA X k (lv ds[i]) (A.under (.builtin "list.__repr__.loop" ⟨[.ref a, .int i 0, .ref P, .int ((base + piled (ts.take i) : Nat) : Int) 0], []⟩)) :=
      ⟨by first | exact ra.fr | (simpa [Around.under, Code.envs, Code.isFrame, pushEnvs] using ra.fr), ra.hd, by have := ra.dp; omega, by have := ra.un; rw [un]; omega⟩
    have ok' : okR (.lst ds) = true := by simpa only [okR] using ok
    have gd' := (gd.same ex.fz).cons (a := a) (id := "list.__repr__.loop") (rest := [.int i 0, .ref P, .int ((base + piled (ts.take i) : Nat) : Int) 0]) (kw := []) ok' (d := .lst ds) (by simp only [Rep]; exact ⟨a, xs, rfl, ex.fz _ _ ha, hz, RepL.same ex.fz rl⟩) (by simp only [lv]; omega)
    refine wpAny_bind (wpAny_holding (wpAny_mono (hrep (base + piled (ts.take i) + 1) _ _ _ σ F1 H1 s u x _ (by omega) ra' (guards_under_guard (isGuard_list_loop _) hg) (gd'.le hm) I ex.sm (Rep.same ex.fz rx) ru) (fun t' s' hq => ?_) fun _ _ x => x))
    obtain ⟨rfl, F2, H2, I2, ex2⟩ := hq
    have ex' := ex.trans ex2
    refine wpAny_bind (wpAny_mkStr ?_ (hsz2 t' (List.mem_of_getElem? ht)))
    refine wpAny_bind ?_
    show wpAny _ _ (updateSeq P _) _ _ _
    have hasz : acc.size ≤ sizeLine := by
      have e1 : acc.toList.length = acc.size := by simp
      have e2 : (strValues done).length = done.length := by simp [strValues]
      have e3 : done.length = (ts.take i).length := by rw [← hdone, List.length_map]
      have e4 : (ts.take i).length ≤ i := by rw [List.length_take]; omega
      rw [hacc] at e1; omega
    have hP := ClX.pin_at I2
    refine wpAny_updateSeq hP rfl (wpAny_pure ⟨PySem.F.quiet_list_repr_loop _, ?_⟩) hasz
    have e1 : ((i : Int) + 1) = ((i + 1 : Nat) : Int) := by omega
    have e2 : base + piled (ts.take i) + (t'.length + 2) = base + piled (ts.take (i + 1)) := by omega
    rw [e1, e2]
    refine ih (i + 1) _ F2 H2 (acc.push (.str t' s'.toks)) _ (done ++ [(t', s'.toks)]) (by omega) hlt (repin (fp _ (ClX.pin_un I2)) (I2.tok (s'.toks + 1)) (fun b ob hb e => ?_) (Heap.get?_update_self _ hP rfl) (fun v z => nomatch z)) ex' (by simp [hacc, strValues]) (by simp [List.take_add_one, ht, hdone])
    exact (Heap.get?_update_other _ _ (fun h : P = b => hb h.symm)).trans e
end
section
variable {X : Cx} {k : Nat} {pins : List (Addr × Obj)} {σ : L2.St}
theorem fp_new {H : Hp} {s : Shared} {P : Addr} (I : Inv X pins σ H s) (hP : s.heap.objs.size ≤ P) : ∀ H', H' P = none → FpOk X pins H' P := fun H' h => I.fpOk hP h
theorem list_atI {a : Addr} {ds : List D} {ts : List Str} {xs : List V} {F H : Hp} {base : Nat} {A : Around} {g : List Code} {s : Shared} {R : Result → Shared → Prop} (hg : A.guards = some g) (gd : GD X.K X.mg g F (lvL ds + 1)) (ra : RA X k (lvL ds + 1) A) (ok : okRL ds = true)
    (hlen : ts.length = ds.length) (rl : RepL X.K X.mg F ds xs) (ha : F a = some (.lst xs)) (hz : xs.length ≤ sizeLine) (hne : ds ≠ []) (I : Inv X pins σ H s) (sm : Same F H)
    (hT : ∀ (i : Nat) (d : D), ds[i]? = some d → ∃ t, ts[i]? = some t ∧ RpI X k d t)
    (hR : ∀ s' u F' H', Inv X pins σ H' s' → Ext F H F' H' → R (.ok (.ret (.str (listText ts) u))) s')
    (hsz : base + (listText ts).length ≤ sizeLine) :
    wpAny (model X.prog X.w) A.in1 (Builtin.listReprAt base ⟨[.ref a], []⟩) (fun fin s' => match fin with | .done f => R (.ok f) s' | .again c' => c'.quiet = true ∧ codeAny (model X.prog X.w) A c' R s') (fun e s' => R (.error e) s') s := by
  obtain ⟨its, rv, p, _⟩ := I.list (.of (sm _ _ ha) : SqL X.K H a xs)
  obtain ⟨o, ho, _, no, hd⟩ := p.isList
  have hlx := rl.len
  have hil : its.length = ds.length := by rw [← rv.length, hlx]
  cases its with
  | nil => exact absurd (List.length_eq_zero_iff.mp hil.symm) hne
  | cons y its =>
    have ok' : okR (.lst ds) = true := by simpa only [okR] using ok
    have hca : Clear g a := gd.clear ok' (d := .lst ds) (by simp only [Rep]; exact ⟨a, xs, rfl, ha, hz, rl⟩) (by simp only [lv])
    refine wpAny_list_repr_head (A := A.in1) hg (fun v rest kw hm => listSameRef_of_ne (hca _ _ _ _ hm)) ho hd ?_
    refine wpAny_bind (m := newList []) (wpAny_newObj_type ?_)
    refine wpAny_pure ⟨PySem.F.quiet_list_repr_loop _, ?_⟩
    have fp := fp_new I (Nat.le_refl _)
    have I1 : Inv X ((s.heap.objs.size, { cls := .type "list", dict := none, data := .seq #[] 0, slots := #[] }) :: pins) σ H { s with heap := s.heap.push { cls := .type "list", data := .seq #[] 0 } } := by
      have I0 : Inv X pins σ H { s with heap := s.heap.push { cls := .type "list", data := .seq #[] 0 } } := I.kept (t' := s.toks) fun b u q => Heap.get?_push_of_some _ q
      have f := fp H (I.hok.fresh (Nat.le_refl _))
      refine I0.pins_of fun p hp => ?_
      rcases List.mem_cons.mp hp with rfl | hp
      · exact ⟨Heap.get?_push_size _ rfl, f.1, f.2.1, f.2.2.1, fun v z => nomatch z⟩
      · exact I0.pin p (List.mem_append_right _ hp)
    exact list_loopI (P := s.heap.objs.size) (Nat.le_refl _) hg gd ra ok rfl hlen rl ha hz fp hT hR hsz _ 0 _ F H #[] _ [] rfl (Nat.zero_le _) I1 (Ext.refl sm) rfl (by simp)
/-! tuples -/
def RpL (X : Cx) (k : Nat) : List D → List Str → Prop
  | [], ts => ts = []
  | d :: ds, ts => ∃ t r, ts = t :: r ∧ RpI X k d t ∧ RpL X k ds r
theorem RpL.len : ∀ {ds : List D} {ts : List Str}, RpL X k ds ts → ts.length = ds.length
  | [], ts, h => by simp only [RpL] at h; rw [h]; rfl
  | d :: ds, ts, h => by
    simp only [RpL] at h
    obtain ⟨t, r, rfl, _, h2⟩ := h
    rw [List.length_cons, List.length_cons, RpL.len h2]
theorem RpL.get : ∀ {ds : List D} {ts : List Str}, RpL X k ds ts → ∀ (i : Nat) (d : D), ds[i]? = some d → ∃ t, ts[i]? = some t ∧ RpI X k d t
  | [], ts, h, i, d, e => by simp at e
  | d :: ds, ts, h, i, d', e => by
    simp only [RpL] at h
    obtain ⟨t, r, rfl, h1, h2⟩ := h
    cases i with
    | zero => simp at e; subst e; exact ⟨t, rfl, h1⟩
    | succ i =>
      obtain ⟨t', e1, e2⟩ := RpL.get h2 i d' (by simpa using e)
      exact ⟨t', by simpa using e1, e2⟩
theorem tup_foldI {A : Around} {g : List Code} {E : Value → Shared → Prop} {n : Nat} (hg : A.guards = some g) (ra : RA X k n A) : ∀ (l : List Value) (ds : List D) (xs : List V) (ts : List Str) (acc : Array Str) (m : Nat) (s : Shared) (F H : Hp) (Q : (Array Str × Nat) → Shared → Prop),
    GD X.K X.mg g F n → lvL ds ≤ n → Vals xs l → RepL X.K X.mg F ds xs → RpL X k ds ts → m + piled ts ≤ sizeLine → Inv X pins σ H s → Same F H →
    (∀ s' F' H', Inv X pins σ H' s' → Ext F H F' H' → Q ⟨acc ++ ts.toArray, m + piled ts⟩ s') → wpAny (model X.prog X.w) A (forIn l (⟨acc, m⟩ : (Array Str × Nat)) tupBody) Q E s := by
  intro l
  induction l with
  | nil =>
    intro ds xs ts acc m s F H Q gd hl rv rl rt hn I sm h
    cases rv
    have := rl.len
    cases ds with
    | cons d ds => simp at this
    | nil =>
      simp only [RpL] at rt
      subst rt
      have h0 := h s F H I (Ext.refl sm)
      simp only [List.forIn_nil]
      exact wpAny_pure (by simpa [piled] using h0)
  | cons u l ih =>
    intro ds xs ts acc m s F H Q gd hl rv rl rt hn I sm h
    cases rv with
    | cons ru rv =>
      rename_i x xs
      cases ds with
      | nil => simp only [RepL] at rl; cases rl
      | cons d ds =>
        simp only [RepL] at rl
        obtain ⟨_, _, e, rx, rl⟩ := rl
        cases e
        simp only [RpL] at rt
        obtain ⟨t, ts, rfl, hx, rt⟩ := rt
        simp only [lvL] at hl
        rw [piled_cons] at hn
        rw [List.forIn_cons]
        refine wpAny_bind (wpAny_bind (wpAny_mono (hx (m + 1) A g _ σ F H s u x _ (by omega) ⟨ra.fr, ra.hd, by have := ra.dp; omega, by have := ra.un; omega⟩ hg (gd.le (by omega)) I sm rx ru) (fun t' s' hq => ?_) fun _ _ z => z))
        obtain ⟨rfl, F2, H2, I2, ex⟩ := hq
        refine wpAny_pure ?_
        refine ih ds xs ts (acc.push t') (m + (t'.length + 2)) _ F2 H2 Q (gd.same ex.fz) (by omega) rv (RepL.same ex.fz rl) rt (by omega) I2 ex.sm fun s3 F3 H3 I3 ex3 => ?_
        have h1 := h s3 F3 H3 I3 (ex.trans ex3)
        have e : m + piled (t' :: ts) = m + (t'.length + 2) + piled ts := by rw [piled_cons]; omega
        rw [e] at h1
        simpa using h1
theorem tup_atI {a : Addr} {ds : List D} {ts : List Str} {xs : List V} {F H : Hp} {base : Nat} {A : Around} {g : List Code} {s : Shared} {R : Result → Shared → Prop} {id : String} {rest : List Value}
    (hcg : (Code.builtin id ⟨.ref a :: rest, []⟩).isGuard = true) (hcu : (A.under (.builtin id ⟨.ref a :: rest, []⟩)).units = A.units + 1) (hcd : (A.under (.builtin id ⟨.ref a :: rest, []⟩)).depth ≤ A.depth + 1) (hcf : (A.under (.builtin id ⟨.ref a :: rest, []⟩)).frames = A.frames)
    (hg : A.guards = some g) (gd : GD X.K X.mg g F (lvL ds + 1)) (ra : RA X k (lvL ds + 1) A) (ok : okRL ds = true) (rl : RepL X.K X.mg F ds xs) (ha : F a = some (.tup xs)) (hz : xs.length ≤ sizeLine) (I : Inv X pins σ H s) (sm : Same F H) (rt : RpL X k ds ts)
    (hR : ∀ s' u F' H', Inv X pins σ H' s' → Ext F H F' H' → R (.ok (.ret (.str (tupleText ts) u))) s')
    (hsz : base + (tupleText ts).length ≤ sizeLine) :
    wpOwn (model X.prog X.w) A (.builtin id ⟨.ref a :: rest, []⟩) (Builtin.tupleReprAt base ⟨[.ref a], []⟩) (fun fin s' => match fin with | .done f => R (.ok f) s' | .again c' => c'.quiet = true ∧ codeAny (model X.prog X.w) A c' R s') (fun e s' => R (.error e) s') s := by
  obtain ⟨its, rv, ⟨o, ho, hc, n, hd⟩, _⟩ := I.tuple (.of (sm _ _ ha) : SqT X.K H a xs)
  have ok' : okR (.tup ds) = true := by simpa only [okR] using ok
  have rep : Rep X.K X.mg F (.tup ds) (.ref a) := by simp only [Rep]; exact ⟨a, xs, rfl, ha, hz, rl⟩
  have hca : Clear g a := gd.clear ok' (d := .tup ds) rep (by simp only [lv])
  have hlen : ts.length = its.length := by rw [rt.len, rl.len, rv.length]
  have hp := piled_le_tupleText ts
  have hsz0 : (tupleText ts).length ≤ sizeLine := by omega
  rw [tuple_repr_tree, tupleReprUnderWay_eq]
  refine wpOwn_bind (wpOwn_stackTailAny hg (tupGuardF_off _) (tupGuardF_pos _) ?_)
  have hn : (g.any fun c => tupGuardF (.ref a) (c, default)) = false := by
    rw [List.any_eq_false]
    intro c hcm
    rw [tupGuardF_of_clear hca c hcm]
    exact Bool.false_ne_true
  rw [hn]
  refine wpOwn_of_wpAny ?_
  show wpAny _ _ (tupleReprRest base (.ref a)) _ _ s
  unfold tupleReprRest Builtin.Tuple.tupleItemsOf
  refine wpAny_bind (wpAny_bind (wpAny_seqItems ho hd (wpAny_pure ?_)))
  rw [← Array.forIn_toList]
  refine wpAny_bind (tup_foldI (n := lvL ds) (guards_under_guard hcg hg) ⟨by rw [hcf]; exact ra.fr, ra.hd, by have := ra.dp; omega, by have := ra.un; rw [hcu]; omega⟩ _ ds xs ts _ _ _ F H _ (gd.cons ok' rep (by simp only [lv])) (Nat.le_refl _) rv rl rt (by omega) I sm fun s' F' H' I' ex => ?_)
  refine wpAny_bind (wpAny_mkStr (wpAny_pure ?_) (by simpa [tupleText, hlen] using hsz0))
  have h1 := hR _ s'.toks F' H' (I'.tok (s'.toks + 1)) ex
  simpa [tupleText, hlen] using h1
end
section
variable {X : Cx} {k : Nat} {rp : D → Option Str}
theorem dTxt_tupLen {ts : List Str} : (tupleText ts).length = (tupleText ts).length := rfl
theorem RpI.list_ {ds : List D} {ts : List Str} (ok : okRL ds = true) (rt : RpL X k ds ts) : RpI X k (.lst ds) (listText ts) := by
  intro base A g pins σ F H s u v E hb ra hg gd I sm r rv
  have r0 := r
  simp only [Rep] at r
  obtain ⟨a, xs, rfl, ha, hz, rl⟩ := r
  cases rv
  have un := ra.un
  simp only [lv] at un gd ra
  obtain ⟨its, rv, p, _⟩ := I.list (.of (sm _ _ ha) : SqL X.K H a xs)
  obtain ⟨o, ho, hc, no, hd⟩ := p.isList
  refine wpAny_pyReprUnder_ref (by omega) ?_
  by_cases hne : ds = []
  · subst hne
    simp only [RpL] at rt
    subst rt
    have e0 : its = [] := List.length_eq_zero_iff.mp (by rw [← rv.length, ← rl.len]; rfl)
    subst e0
    rw [listText_nil]
    exact wpAny_pyReprObjUnder_list_empty ⟨o, ho, hc⟩ (by omega) ho hd ⟨_, _, rfl, rfl, F, H, I.tok _, Ext.refl sm⟩
  · refine wpAny_pyReprObjUnder_twin (twin := "list.__repr__.under") ⟨o, ho, hc⟩ PySem.F.slot_list_repr.toG rfl (by omega) ?_
    exact call_twin_plain PySem.F.plain_list_repr_under PySem.F.entry_list_repr_under PySem.F.check_list_repr_under ⟨o, ho, hc⟩ PySem.F.slot_list_repr.toG (PySem.F.args_list_repr_1 _)
      (list_atI (R := callEnd _ E) hg gd ra ok rt.len rl ha hz hne I sm rt.get (fun s' u F' H' I' ex => ⟨⟨_, _, rfl⟩, _, _, rfl, rfl, F', H', I', ex⟩) hb)
theorem tupU_depth {A : Around} {args : Args} : (A.under (.builtin "tuple.__repr__.under" args)).depth ≤ A.depth + 1 := by
  first | (simp [Around.under, Code.weight, Code.isCreation, Code.isGuard, Code.isCaller, Code.frames, Code.isFrame, guardIds]; done) | (simp [Around.under, Code.weight, Code.isCreation, Code.isGuard, Code.isCaller, Code.frames, Code.isFrame, guardIds]; split <;> omega)
theorem RpI.tup_ {ds : List D} {ts : List Str} (ok : okRL ds = true) (rt : RpL X k ds ts) : RpI X k (.tup ds) (tupleText ts) := by
  intro base A g pins σ F H s u v E hb ra hg gd I sm r rv
  simp only [Rep] at r
  obtain ⟨a, xs, rfl, ha, hz, rl⟩ := r
  cases rv
  have un := ra.un
  simp only [lv] at un gd ra
  obtain ⟨its, rv, ⟨o, ho, hc, no, hd⟩, _⟩ := I.tuple (.of (sm _ _ ha) : SqT X.K H a xs)
  refine wpAny_pyReprUnder_ref (by omega) ?_
  refine wpAny_pyReprObjUnder_twin (twin := "tuple.__repr__.under") ⟨o, ho, hc⟩ PySem.F.slot_tuple_repr rfl (by omega) ?_
  exact call_twin_own (PySem.F.quiet_tuple_repr_under _) PySem.F.entry_tuple_repr_under PySem.F.check_tuple_repr_under ⟨o, ho, hc⟩ PySem.F.slot_tuple_repr (PySem.F.args_tuple_repr_1 _)
    (tup_atI (R := callEnd _ E) (isGuard_tuple_repr_under _) (units_under_tuple_repr_under _ _) tupU_depth (by first | rfl | (simp [Around.under, Code.envs, Code.isFrame, pushEnvs])) hg gd ra ok rl ha hz I sm rt (fun s' u F' H' I' ex => ⟨⟨_, _, rfl⟩, _, _, rfl, rfl, F', H', I', ex⟩) hb)
mutual
theorem rp_main (P : RpC X rp k) : ∀ {d : D} {t : Str}, dTxt rp d = some t → RpI X k d t
  | .non, t, h => by
    simp only [dTxt, Option.some.injEq] at h
    subst h
    exact RpI.scalar fun u v F r rv => by cases r; cases rv; exact ReprIs.none
  | .bl b, t, h => by
    simp only [dTxt, Option.some.injEq] at h
    subst h
    refine RpI.scalar fun u v F r rv => ?_
    cases r; cases rv
    simp only [PyData.shown]
    exact ReprIs.bool b
  | .int i, t, h => by
    simp only [dTxt] at h
    split at h
    · rename_i hi
      cases h
      refine RpI.scalar fun u v F r rv => ?_
      cases r
      obtain ⟨tk, rfl⟩ := rv
      simp only [PyData.shown]
      exact ReprIs.int tk hi
    · cases h
  | .str z, t, h => by
    simp only [dTxt] at h
    split at h
    · rename_i hi
      cases h
      refine RpI.scalar fun u v F r rv => ?_
      cases r
      obtain ⟨tk, rfl⟩ := rv
      simp only [PyData.shown] at hi ⊢
      exact ReprIs.str z tk (sz_ok hi)
    · cases h
  | .ins c ns vs, t, h => by
    simp only [dTxt] at h
    exact RpI.ins P h
  | .tup xs, t, h => by
    simp only [dTxt] at h
    obtain ⟨ts, h1, rfl⟩ := Option.map_eq_some_iff.mp h
    exact RpI.tup_ (dTxtL_ok h1) (rp_mainL P h1)
  | .lst xs, t, h => by
    simp only [dTxt] at h
    obtain ⟨ts, h1, rfl⟩ := Option.map_eq_some_iff.mp h
    exact RpI.list_ (dTxtL_ok h1) (rp_mainL P h1)
  | .dk _ _, _, h => by simp [dTxt] at h
  | .dt _ _, _, h => by simp [dTxt] at h
  | .scr _, _, h => by simp [dTxt] at h
theorem rp_mainL (P : RpC X rp k) : ∀ {ds : List D} {ts : List Str}, dTxtL rp ds = some ts → RpL X k ds ts
  | [], ts, h => by
    simp only [dTxtL, Option.some.injEq] at h
    subst h
    simp only [RpL]
  | d :: ds, ts, h => by
    simp only [dTxtL] at h
    obtain ⟨t, h1, h2⟩ := Option.bind_eq_some_iff.mp h
    obtain ⟨r, h3, rfl⟩ := Option.map_eq_some_iff.mp h2
    simp only [RpL]
    exact ⟨t, r, rfl, rp_main P h1, rp_mainL P h3⟩
end
def rReprX (K : PySem.W.Frag) (mg : Str → Option Value) (rp : D → Option Str) : List V → Hp → VK → Prop := fun us H Q => ∃ v d F t, us = [v] ∧ Same F H ∧ Rep K mg F d v ∧ dTxt rp d = some t ∧ t.length ≤ szMax ∧ lv d ≤ 50 ∧ ∀ F' H', Ext F H F' H' → Q (.str t) H'
theorem gd_nil {K : PySem.W.Frag} {mg : Str → Option Value} {F : Hp} {n : Nat} : GD K mg [] F n := fun _ _ _ _ h => nomatch h
theorem call_reprX {j : Nat} (hr : Room j X.A) (hk : k + 20 ≤ j) (hG : X.A.guards = some []) (P : RpC X rp k) : CallR X (.builtin "repr") (rReprX X.K X.mg rp) := by
  intro pins s σ H xs us Q I r h
  obtain ⟨v, d, F, t, rfl, sm, rd, ht, hz, hl, q⟩ := h
  obtain ⟨u, rfl, ru⟩ := r.one
  have dp := hr.dp
  have un := hr.un
  have hz' := sz_ok hz
  have fr : X.A.in1.frames = some X.stack := I.ok.frames
  have fin : ∀ s' F' H', Inv X pins σ H' s' → Ext F H F' H' → ∀ tk, EP X pins σ Q (.str t tk) s' := fun s' F' H' I' ex tk => ⟨.str t, H', I', ⟨tk, rfl⟩, q F' H' ex⟩
  have fin0 : ∀ tk u', EP X pins σ Q (.str t u') { s with toks := tk } := fun tk u' => fin _ F H (I.tok tk) (Ext.refl sm) u'
  cases d with
  | non =>
    simp only [dTxt, Option.some.injEq] at ht
    subst ht
    cases rd; cases ru
    exact PySem.P.repr_of_none (fin0 _ _)
  | bl b =>
    simp only [dTxt, Option.some.injEq, PyData.shown] at ht
    subst ht
    cases rd; cases ru
    exact PySem.P.repr_of_bool (fin0 _ _)
  | int i =>
    simp only [dTxt] at ht
    split at ht
    · rename_i hi
      simp only [PyData.shown, Option.some.injEq] at ht
      subst ht
      cases rd
      obtain ⟨tk, rfl⟩ := ru
      exact PySem.P.repr_of_int hi (fin0 _ _)
    · cases ht
  | str z =>
    simp only [dTxt] at ht
    split at ht
    · rename_i hi
      simp only [PyData.shown, Option.some.injEq] at ht
      subst ht
      cases rd
      obtain ⟨tk, rfl⟩ := ru
      exact PySem.P.repr_of_str (fin0 _ _) hz'
    · cases ht
  | ins c ns vs =>
    have rd0 := rd
    simp only [dTxt] at ht
    obtain ⟨C, f, sem, σ', hm, hs, hf, G, es⟩ := P c ns vs t ht
    simp only [Rep] at rd
    obtain ⟨a, C', dx, xs, rfl, hm', ha, _⟩ := rd
    rw [hm] at hm'
    cases hm'
    cases ru
    obtain ⟨ox, od, J, _⟩ := StX.insC_at I (.inr ⟨dx, _, sm _ _ ha⟩)
    obtain ⟨m, fr'⟩ := I.fr
    refine PySem.W.repr_K (by show X.A.units + 1 < cLine; omega) fr' I.mod.kin J hs hf (wpAny_mono (callOwn G es ⟨hr.hd, by show X.A.depth + _ + _ < _; omega, by show X.A.units + 1 + _ + _ < _; omega⟩ fr I sm rd0) (fun w s' hw => ?_) fun _ _ x => x)
    obtain ⟨tk, rfl, F', H', I', x⟩ := hw
    exact fin s' F' H' I' x tk
  | tup ds =>
    simp only [dTxt] at ht
    obtain ⟨ts, h1, rfl⟩ := Option.map_eq_some_iff.mp ht
    simp only [Rep] at rd
    obtain ⟨a, xs, rfl, ha, hz2, rl⟩ := rd
    cases ru
    simp only [lv] at hl
    obtain ⟨its, rv, ⟨o, ho, hc, no, hd⟩, _⟩ := I.tuple (.of (sm _ _ ha) : SqT X.K H a xs)
    refine call_repr_slot (by omega) ⟨o, ho, hc⟩ PySem.F.slot_tuple_repr ?_
    exact wpAny_call (codeAny_call_builtin_own (Code.quiet_builtin _ (by decide +kernel)) PySem.F.entry_tuple_repr (PySem.F.slot_tuple_repr.check _ _ _ _ _ _ _ _ ⟨o, ho, hc⟩ (PySem.F.args_tuple_repr_1 _)
      (tup_atI (base := 0) (R := callEnd _ _) (isGuard_tuple_repr _) (units_under_tuple_repr _ _) tup_depth (by first | rfl | (simp [Around.under, Code.envs, Code.isFrame, pushEnvs])) hG gd_nil ⟨fr, hr.hd, by show X.A.depth + _ + _ + _ < _; omega, by show X.A.units + 1 + _ + _ + _ < _; omega⟩ (dTxtL_ok h1) rl ha hz2 I sm (rp_mainL P h1)
        (fun s' u F' H' I' ex => ⟨_, _, rfl, fin s' F' H' I' ex u⟩) (by omega))))
  | lst ds =>
    simp only [dTxt] at ht
    obtain ⟨ts, h1, rfl⟩ := Option.map_eq_some_iff.mp ht
    simp only [Rep] at rd
    obtain ⟨a, xs, rfl, ha, hz2, rl⟩ := rd
    cases ru
    simp only [lv] at hl
    obtain ⟨its, rv, p, _⟩ := I.list (.of (sm _ _ ha) : SqL X.K H a xs)
    obtain ⟨o, ho, hc, no, hd⟩ := p.isList
    refine call_repr_slot (by omega) ⟨o, ho, hc⟩ PySem.F.slot_list_repr.toG ?_
    by_cases hne : ds = []
    · subst hne
      simp only [dTxtL, Option.some.injEq] at h1
      subst h1
      have e0 : its = [] := List.length_eq_zero_iff.mp (by rw [← rv.length, ← rl.len]; rfl)
      subst e0
      rw [listText_nil] at fin0
      exact call_list_repr_empty ⟨o, ho, hc⟩ ho hd ⟨_, _, rfl, fin0 _ _⟩
    · exact wpAny_call (codeAny_call_builtin PySem.F.slot_list_repr.plain PySem.F.entry_list_repr (PySem.F.slot_list_repr.check _ _ _ _ _ _ _ _ ⟨o, ho, hc⟩ (PySem.F.args_list_repr_1 _)
        (list_atI (base := 0) (R := callEnd _ _) hG gd_nil ⟨fr, hr.hd, by show X.A.depth + _ + _ + _ < _; omega, by show X.A.units + 1 + _ + _ + _ < _; omega⟩ (dTxtL_ok h1) (rp_mainL P h1).len rl ha hz2 hne I sm (rp_mainL P h1).get
          (fun s' u F' H' I' ex => ⟨_, _, rfl, fin s' F' H' I' ex u⟩) (by omega))))
  | dk _ _ => simp [dTxt] at ht
  | dt _ _ => simp [dTxt] at ht
  | scr _ => simp [dTxt] at ht
end
def dReprX (rp : D → Option Str) (d : D) : Option D := match dTxt rp d with
  | some t => if t.length ≤ szMax ∧ lv d ≤ 50 then some (.str t) else none
  | none => none
theorem v_reprX {K : PySem.W.Frag} {mg : Str → Option Value} {rp : D → Option Str} : VCall K mg (rReprX K mg rp) (f1 (dReprX rp)) := by
  intro F H xs us d Q s r e k
  unfold f1 at e
  split at e
  · rename_i x
    simp only [RepL] at r
    obtain ⟨u, r1, rfl, h1, rfl⟩ := r
    unfold dReprX at e
    split at e
    · rename_i t ht
      split at e
      · rename_i hc
        cases e
        exact ⟨u, x, F, t, rfl, s, h1, ht, hc.1, hc.2, fun F' H' ex => k _ F' H' ex rfl⟩
      · cases e
    · cases e
  · cases e
section
variable {X : Cx} {W : WX} {e : Expr} {ma : M D} {p pos : Pos} {k j : Nat} {rp : D → Option Str}
theorem b_reprX (hr : Room j X.A) (hk : k + 20 ≤ j) (hG : X.A.guards = some []) (P : RpC X rp k) (hm : X.mg ("repr" : Str) = none) (ha : DV X W e ma) (hg : Gl X ("repr" : Str) := by rfl) (he : starEach [e] X.env = (false, eval e X.env) :: starEach [] X.env := by rfl) (hpl : (backTo pos (starEach [] X.env)).any (·.1) = false := by rfl) : DV X W (.Call (.Name ("repr" : Str) p) [e] [] pos) (evL (f1 (dReprX rp)) (evCons ma evNil)) :=
  dv_callB (call_reprX hr hk hG P) v_reprX hg hm bt_repr (da_cons ha da_nil he) (by decide +kernel) (by decide +kernel) he hpl
end
end DL
namespace DL
open PySem PySem.Spec PyProof.Rows L2
/-! ### numbers as texts, f-strings -/
/-- the figures of a number below 100 -/
def figs (n : Nat) : List Nat := if n < 10 then [48 + n] else [48 + n / 10, 48 + n % 10]
def dStr : D → Option D
  | .int i => if 0 ≤ i ∧ i < 100 then some (.str (tx (figs i.toNat))) else none
  | _ => none
def dFmt : D → Option D
  | .str y => if y.length ≤ szMax then some (.str y) else none
  | .int i => if 0 ≤ i ∧ i < 100 then some (.str (tx (figs i.toNat))) else none
  | _ => none
theorem figs_num {n : Nat} (h : n < 100) : TL.numL n = figs n := by
  unfold figs
  by_cases h1 : n < 10
  · rw [if_pos h1, TL.numL_lt h1]
  · rw [if_neg h1, TL.numL_step (by omega), TL.numL_lt (n := n / 10) (by omega)]
    rfl
theorem str_num {i : Int} (h0 : 0 ≤ i) (h1 : i < 100) : (Str.ofString (toString i) : Str) = tx (figs i.toNat) := by
  obtain ⟨n, rfl⟩ := Int.eq_ofNat_of_zero_le h0
  have e := TL.tl_num n
  rw [figs_num (by omega)] at e
  rw [← tx_tl (Str.ofString (toString ((n : Nat) : Int)))]
  show tx (TL.tl _) = _
  rw [e]; rfl
theorem log_small {i : Int} (h0 : 0 ≤ i) (h1 : i < 100) : i.natAbs.log2 < 1920 := Nat.lt_of_le_of_lt (Nat.log2_le_self _) (by omega)
theorem v_str {K : PySem.W.Frag} {mg : Str → Option Value} : VCall K mg (fun xs H Q => ∃ i, xs = [.int i] ∧ i.natAbs.log2 < 1920 ∧ Q (.str (toString i)) H) (f1 dStr) := by
  intro F H xs us d Q s r e k
  unfold f1 at e
  split at e
  · rename_i x
    simp only [RepL] at r
    obtain ⟨u, r1, rfl, h1, rfl⟩ := r
    unfold dStr at e
    split at e
    · split at e
      · rename_i i hc
        cases e
        cases h1
        refine ⟨i, rfl, log_small hc.1 hc.2, ?_⟩
        have := str_num hc.1 hc.2
        show Q (.str (Str.ofString (toString i))) H
        rw [this]
        exact k _ F H (Ext.refl s) rfl
      · cases e
    · cases e
  · cases e
section
variable {X : Cx} {W : WX} {e : Expr} {es : List Expr} {ma : M D} {p pos : Pos}
theorem b_str (hm : X.mg ("str" : Str) = none) (ha : DV X W e ma) (hg : Gl X ("str" : Str) := by rfl) (he : starEach [e] X.env = (false, eval e X.env) :: starEach [] X.env := by rfl) (hpl : (backTo pos (starEach [] X.env)).any (·.1) = false := by rfl) : DV X W (.Call (.Name ("str" : Str) p) [e] [] pos) (evL (f1 dStr) (evCons ma evNil)) :=
  dv_callTy call_str_int v_str hg hm bt_str (da_cons ha da_nil he) (by decide +kernel) (by decide +kernel) he hpl
theorem dv_fmt (ha : DV X W e ma) : DV X W (.FormattedValue e (-1) none pos) (ev1 dFmt ma) := by
  obtain ⟨ta, pa, ha⟩ := ha
  refine ⟨_, pe_fmt pa, fun F H σ τ Q R h => ?_⟩
  unfold ev1 at h
  rw [asS_bind] at h
  refine ha F H σ τ _ R (dvk h fun x σ1 v F1 H1 R1 r1 h => ?_)
  obtain ⟨d, ed, h2⟩ := okl (v := v) h
  unfold dFmt at ed
  split at ed
  · split at ed
    · rename_i y hz
      cases ed
      cases r1
      exact .inl ⟨y, rfl, sz_ok hz, okd h2 R1 (Ext.refl R1.same) rfl⟩
    · cases ed
  · split at ed
    · rename_i i hc
      cases ed
      cases r1
      refine .inr ⟨i, rfl, log_small hc.1 hc.2, ?_⟩
      have := str_num hc.1 hc.2
      show Q (.str (Str.ofString (toString i))) H1
      rw [this]
      exact okd h2 R1 (Ext.refl R1.same) rfl
    · cases ed
  · cases ed
/-- the parts of an f-string -/
def evJ0 (acc : Str) : M D := fun σ => .ok (.str acc) σ
def evJc (m : M D) (r : Str → M D) (acc : Str) : M D := m.bind fun d => fun σ => match d with
  | .str y => if (acc ++ y).length ≤ szMax then r (acc ++ y) σ else .bad
  | _ => .bad
def DJ (X : Cx) (W : WX) (es : List Expr) (r : Str → M D) : Prop := ∃ ts, PJ X es ts ∧ ∀ F H σ τ acc Q, Rl X.K X.mg F H σ τ → OkE X.K X.mg W σ τ F H Q (asS (r acc) σ) → tJs ts acc τ H (fun out H1 => Q (.str out) H1)
theorem dj_nil : DJ X W [] evJ0 := ⟨[], .nil, fun F H σ τ acc Q R h => okd h R (Ext.refl R.same) rfl⟩
theorem dj_cons {r : Str → M D} (ha : DV X W e ma) (hr : DJ X W es r) : DJ X W (e :: es) (evJc ma r) := by
  obtain ⟨ta, pa, ha⟩ := ha
  obtain ⟨ts, pj, hr⟩ := hr
  refine ⟨ta :: ts, .cons pa pj, fun F H σ τ acc Q R h => ?_⟩
  unfold evJc at h
  rw [asS_bind] at h
  refine ha F H σ τ _ R (dvk h fun x σ1 v F1 H1 R1 r1 h => ?_)
  cases x with
  | str y =>
    cases r1
    by_cases hz : (acc ++ y).length ≤ szMax
    · refine ⟨y, rfl, sz_ok hz, hr F1 H1 σ1 τ _ Q R1 ?_⟩
      unfold asS at h ⊢
      dsimp only at h
      rw [if_pos hz] at h
      exact h
    · unfold asS at h
      dsimp only at h
      rw [if_neg hz] at h
      exact h.elim
  | _ => exact False.elim h
theorem dv_joined {e2 : Expr} {r : Str → M D} (h : DJ X W (e :: e2 :: es) r) : DV X W (.JoinedStr (e :: e2 :: es) pos) (r Str.empty) := by
  obtain ⟨ts, pj, h⟩ := h
  exact ⟨_, pe_joined pj, fun F H σ τ Q R q => h F H σ τ _ Q R q⟩
end
/-! ### int(..) of one figure, of a truth value -/
def dInt : D → Option D
  | .str z => (match z.cps.toList with
    | [c] => if 48 ≤ c ∧ c ≤ 57 then some (.int ((c : Int) - 48)) else none
    | _ => none)
  | .bl b => some (.int (if b then 1 else 0))
  | _ => none
end DL
namespace DL
open PySem PySem.Spec PyProof.Rows L2
def txR (r : Res Sl) : Option Str := match r with
  | .ok (.d (.str t)) _ => some t
  | _ => none
theorem txR_some {r : Res Sl} {t : Str} (h : txR r = some t) : ∃ σ, r = .ok (.d (.str t)) σ := by
  unfold txR at h
  split at h
  · cases h; exact ⟨_, rfl⟩
  · cases h
theorem OkFn.mono {P : Program} {w : World} {K : PySem.W.Frag} {mg : Str → Option Value} {base : Heap} {j k : Nat} {a : Addr} {ps : List Str} {sem : List Sl → Res Sl} (h : OkFn P w K mg base j a ps sem) (l : j ≤ k) : OkFn P w K mg base k a ps sem := by
  obtain ⟨fd, F, a, b⟩ := h
  exact ⟨fd, F.mono l, a, b⟩
end DL
namespace DL
open PySem
/-! ### the plain law's rules for texts, enumerate, zip -/
section
variable {α : Type} {E : Ex → List Sl → Prop} {σ : List Sl}
theorem w_Bm {g : D → Bool} {f : D → List D → Option D} {ma : M D} {ml : M (List D)} {Q : D → List Sl → Prop} (h : wp (ma σ) E fun x σ1 => g x = true ∧ wp (ml σ1) E fun xs σ2 => owp (f x xs) fun d => Q d σ2) : wp (evBm g f ma ml σ) E Q :=
  wp_bind (wp_mono h (fun x σ1 h => by
    try dsimp only
    rw [if_pos h.1]
    exact wp_bind (wp_mono h.2 (fun _ _ h => w_lift h) fun _ _ h => h)) fun _ _ h => h)
theorem w_Enum {m : M (List D)} {Q : List D → List Sl → Prop} (h : wp (m σ) E fun ds σ1 => ∃ d xs, ds = [d] ∧ seqOf d = some xs ∧ Q (enumD 0 xs) σ1) : wp (evEnum m σ) E Q := wp_bind (wp_mono h (fun ds σ1 h => by
    obtain ⟨d, xs, rfl, e, h⟩ := h
    dsimp only
    rw [e]
    exact wp_ok h) fun _ _ h => h)
theorem w_Zip {m : M (List D)} {Q : List D → List Sl → Prop} (h : wp (m σ) E fun ds σ1 => ∃ d e xs ys, ds = [d, e] ∧ seqOf d = some xs ∧ seqOf e = some ys ∧ Q (zipD xs ys) σ1) : wp (evZip m σ) E Q := wp_bind (wp_mono h (fun ds σ1 h => by
    obtain ⟨d, e, xs, ys, rfl, e1, e2, h⟩ := h
    dsimp only
    rw [e1, e2]
    exact wp_ok h) fun _ _ h => h)
theorem w_Jc {m : M D} {r : Str → M D} {acc : Str} {Q : D → List Sl → Prop} (h : wp (m σ) E fun d σ1 => ∃ y, d = .str y ∧ (acc ++ y).length ≤ szMax ∧ wp (r (acc ++ y) σ1) E Q) : wp (evJc m r acc σ) E Q := wp_bind (wp_mono h (fun d σ1 h => by
    obtain ⟨y, rfl, h1, h2⟩ := h
    dsimp only
    rw [if_pos h1]
    exact h2) fun _ _ h => h)
theorem w_J0 {acc : Str} {Q : D → List Sl → Prop} (h : Q (.str acc) σ) : wp (evJ0 acc σ) E Q := by
  unfold evJ0
  exact wp_ok h
theorem a_tr {b : Bool} {A : Prop} (e : b = true) (h : A) : b = true ∧ A := ⟨e, h⟩
theorem x_zip {a b : D} {xs ys : List D} {P : List D → List D → Prop} (e1 : seqOf a = some xs) (e2 : seqOf b = some ys) (h : P xs ys) : ∃ d e xs ys, [a, b] = [d, e] ∧ seqOf d = some xs ∧ seqOf e = some ys ∧ P xs ys := ⟨_, _, _, _, rfl, e1, e2, h⟩
theorem x_enum {a : D} {xs : List D} {P : List D → Prop} (e1 : seqOf a = some xs) (h : P xs) : ∃ d xs, [a] = [d] ∧ seqOf d = some xs ∧ P xs := ⟨_, _, rfl, e1, h⟩
theorem x_js {b : Str} {P : Str → Prop} (h : P b) : ∃ y, D.str b = .str y ∧ P y := ⟨_, rfl, h⟩
end
/-- a loop over a range -/
theorem forR_inv {E : Ex → List Sl → Prop} {s : D → List Sl → Option (List Sl)} {body : M Fl} {Q : Fl → List Sl → Prop} (I : Nat → List Sl → Prop) {lo : Int} {n : Nat} {σ : List Sl} (h0 : I 0 σ)
    (hs : ∀ i σ, i < n → I i σ → owp (s (.int (lo + i)) σ) fun σ1 => wp (body σ1) E fun f σ2 => kLp (I (i + 1)) Q f σ2) (hd : ∀ σ, I n σ → Q .nx σ) : wp (forL s body (rng lo n) σ) E Q := by
  have hl : (rng lo n).length = n := rng_len
  refine forL_inv I (rng lo n) 0 σ h0 (fun i d σ hi hI => ?_) fun σ hI => hd σ (by rw [hl, Nat.zero_add] at hI; exact hI)
  obtain ⟨h1, rfl⟩ := rng_get hi
  rw [Nat.zero_add] at hI ⊢
  exact hs i σ h1 hI
/-- the part of a list between two places -/
def cutA {α : Type} (xs : List α) (lo hi : Option Int) : List α := (xs.drop (HT.sIx xs.length 0 lo)).take (HT.sIx xs.length xs.length hi - HT.sIx xs.length 0 lo)
theorem cutD_A (xs : List D) (lo hi : Option Int) : cutD xs lo hi = cutA xs lo hi := rfl
theorem six_nat {n d : Nat} {k : Int} (h : 0 ≤ k) : HT.sIx n d (some k) = min k.toNat n := by
  show (if k < 0 then _ else _) = _
  rw [if_neg (by omega)]
theorem cutA_mid {α : Type} (xs : List α) {i j : Int} (h0 : 0 ≤ i) (h1 : i ≤ j) (h2 : j ≤ xs.length) : cutA xs (some i) (some j) = (xs.drop i.toNat).take (j - i).toNat := by
  unfold cutA
  rw [six_nat h0, six_nat (by omega), Nat.min_eq_left (by omega), Nat.min_eq_left (by omega)]
  congr 1
  omega
theorem cutA_over {α : Type} (xs : List α) {i j : Int} (h0 : 0 ≤ i) (h1 : i ≤ j) : cutA xs (some i) (some j) = (xs.drop i.toNat).take (j - i).toNat := by
  unfold cutA
  rw [six_nat h0, six_nat (by omega)]
  rcases Nat.le_total i.toNat xs.length with h | h
  · rw [Nat.min_eq_left h]
    rcases Nat.le_total j.toNat xs.length with h2 | h2
    · rw [Nat.min_eq_left h2]; congr 1; omega
    · rw [Nat.min_eq_right h2, List.take_of_length_le (by rw [List.length_drop]; omega), List.take_of_length_le (by rw [List.length_drop]; omega)]
  · rw [Nat.min_eq_right h, List.drop_length, List.drop_of_length_le h, List.take_nil, List.take_nil]
theorem cutA_to {α : Type} (xs : List α) {k : Int} (hk : 0 ≤ k) : cutA xs none (some k) = xs.take k.toNat := by
  unfold cutA
  rw [six_nat hk, show HT.sIx xs.length 0 none = 0 from rfl, List.drop_zero, Nat.sub_zero]
  rcases Nat.le_total k.toNat xs.length with h | h
  · rw [Nat.min_eq_left h]
  · rw [Nat.min_eq_right h, List.take_length, List.take_of_length_le h]
theorem cutA_from {α : Type} (xs : List α) {k : Int} (hk : 0 ≤ k) : cutA xs (some k) none = xs.drop k.toNat := by
  unfold cutA
  rw [six_nat hk, show HT.sIx xs.length xs.length none = xs.length from rfl]
  rcases Nat.le_total k.toNat xs.length with h | h
  · rw [Nat.min_eq_left h, List.take_of_length_le (by rw [List.length_drop]; omega)]
  · rw [Nat.min_eq_right h, List.drop_length, List.drop_of_length_le h]; simp
/-- the last k -/
theorem cutA_last {α : Type} (xs : List α) {k : Int} (hk : 0 < k) : cutA xs (some (-k)) none = xs.drop (xs.length - k.toNat) := by
  unfold cutA
  have e : HT.sIx xs.length 0 (some (-k)) = xs.length - k.toNat := by
    show (if -k < 0 then (-k + (xs.length : Int)).toNat else _) = _
    rw [if_pos (by omega)]; omega
  rw [e, show HT.sIx xs.length xs.length none = xs.length from rfl, List.take_of_length_le (by rw [List.length_drop]; omega)]
section
variable {P : D → Prop} {l m : List Nat}
theorem tx_inj {l m : List Nat} (h : tx l = tx m) : l = m := by
  have := congrArg (fun z : Str => z.cps.toList) h
  exact this
theorem tx_app (l m : List Nat) : tx l ++ tx m = tx (l ++ m) := PySem.Str.ext' (by
  show l.toArray ++ m.toArray = (l ++ m).toArray
  simp)
theorem tx_len (l : List Nat) : (tx l).length = l.length := rfl
theorem cut_tx (lo hi : Option Int) : L2.cutS (tx l) lo hi = tx (cutA l lo hi) := rfl
theorem o_lenS (hl : l.length ≤ szMax) (h : P (.int l.length)) : owp (dLen (.str (tx l))) P := by
  show owp (if (tx l).length ≤ szMax then some (.int (tx l).length) else none) P
  rw [if_pos (by rw [tx_len]; exact hl), owpZ]; exact h
theorem o_cutS {lo hi : Option Int} (hl : l.length ≤ szMax) (h : P (.str (tx (cutA l lo hi)))) : owp (dCut (.str (tx l)) lo hi) P := by
  show owp (if (tx l).length ≤ szMax then some (.str (L2.cutS (tx l) lo hi)) else none) P
  rw [if_pos (by rw [tx_len]; exact hl), owpZ]; exact h
theorem o_cntS {y : Str} {c : Nat} (hy : y.cps.toList = [c]) (h : P (.int (l.count c : Nat))) : owp (dCnt (.str (tx l)) [.str y]) P := by
  unfold dCnt
  dsimp only
  rw [hy, owpZ]
  exact h
theorem o_addS {y : Str} (hy : y = tx m) (hl : l.length + m.length ≤ szMax) (h : P (.str (tx (l ++ m)))) : owp (dAdd (.str (tx l)) (.str y)) P := by
  subst hy
  show owp (if (tx l).length + (tx m).length ≤ szMax then some (.str (tx l ++ tx m)) else none) P
  rw [if_pos (by rw [tx_len, tx_len]; exact hl), tx_app, owpZ]; exact h
theorem strsOf_tx : ∀ ls : List (List Nat), strsOf (ls.map fun l => .str (tx l)) = some (ls.map tx)
  | [] => rfl
  | l :: ls => by
    rw [List.map_cons]
    show (strsOf _).map _ = _
    rw [strsOf_tx ls]; rfl
theorem joinL_flat : ∀ ls : List (List Nat), TL.joinL [] ls = ls.flatten
  | [] => rfl
  | [l] => by simp [TL.joinL]
  | l :: k :: r => by
    rw [TL.joinL, joinL_flat (k :: r)]; simp
theorem o_join0 {y : Str} {ls : List (List Nat)} (hy : y.cps.toList = []) (hl : ls.flatten.length ≤ szMax) (h : P (.str (tx ls.flatten))) : owp (dJoin (.str y) [.lst (ls.map fun l => .str (tx l))]) P := by
  unfold dJoin
  dsimp only
  rw [strsOf_tx]
  have e : y.length = 0 := by
    show y.cps.size = 0
    rw [← Array.length_toList, hy]; rfl
  show owp (if ((ls.map tx).map (·.length)).sum + (ls.map tx).length * y.length ≤ szMax then some (D.str (tx (TL.joinL y.cps.toList ((ls.map tx).map (·.cps.toList))))) else none) P
  have e2 : ((ls.map tx).map (·.length)).sum = ls.flatten.length := by
    rw [List.map_map, List.length_flatten]
    congr 1
  have e3 : (ls.map tx).map (·.cps.toList) = ls := by
    rw [List.map_map]
    conv => rhs; rw [← List.map_id ls]
    congr 1
  rw [if_pos (by rw [e2, e, Nat.mul_zero]; exact hl), hy, e3, joinL_flat, owpZ]
  exact h
theorem sgn_tx (l : List Nat) : sgnD (tx l) = l.map fun c => .str (tx [c]) := rfl
theorem o_mulS {y : Str} {c : Nat} {k : Int} (hy : y = tx [c]) (h0 : 0 ≤ k) (h1 : k < 1000000) (h : P (.str (tx (List.replicate k.toNat c)))) : owp (dMul (.str y) (.int k)) P := by
  subst hy
  show owp (if k < 1000000 ∧ -1000000 < k ∧ (tx [c]).length * k.toNat ≤ szMax then some (.str ⟨(List.replicate k.toNat (tx [c]).cps.toList).flatten.toArray⟩) else none) P
  rw [if_pos ⟨h1, by omega, by show 1 * k.toNat ≤ szMax; unfold szMax; omega⟩]
  have e : (List.replicate k.toNat (tx [c]).cps.toList).flatten = List.replicate k.toNat c := by
    show (List.replicate k.toNat [c]).flatten = _
    induction k.toNat with
    | zero => rfl
    | succ n ih => rw [List.replicate_succ, List.replicate_succ, List.flatten_cons, ih]; rfl
  rw [owpZ]
  show P _
  rw [e]
  exact h
theorem o_eqTx : owp (dEq (.str (tx l)) (.str (tx m))) P ↔ P (.bl (l == m)) := by
  have e : (tx l == tx m) = (l == m) := by
    rw [Bool.eq_iff_iff, beq_iff_eq, beq_iff_eq]
    exact ⟨tx_inj, fun h => by rw [h]⟩
  rw [owpZ]
  show P (.bl (tx l == tx m)) ↔ _
  rw [e]
end
end DL
local macro_rules | `(tactic| walk_at "vstep") => `(tactic| first
  | with_reducible refine DL.w_Bm ?_
  | with_reducible refine DL.w_Enum ?_
  | with_reducible refine DL.w_Zip ?_
  | with_reducible refine DL.w_Jc ?_
  | with_reducible refine DL.w_J0 ?_
  | ((with_reducible refine DL.a_tr ?e ?_); (case e => rfl))
  | ((with_reducible refine DL.x_enum ?e ?_); (case e => rfl))
  | ((with_reducible refine DL.x_zip ?e ?e2 ?_); (case e => rfl); (case e2 => rfl))
  | with_reducible refine DL.x_js ?_
  | ((with_reducible refine DL.o_lenS ?e ?_); (case e => walk_at "len_ok"))
  | ((with_reducible refine DL.o_cutS ?e ?_); (case e => walk_at "len_ok"))
  | ((with_reducible refine DL.o_cntS (c := ?c) ?e ?_); (case e => rfl)))
namespace DL
open PySem
/-! ### data whose text is bounded -/
def TxB (rp : D → Option Str) (d : D) (n k : Nat) : Prop := ∃ t, dTxt rp d = some t ∧ t.length ≤ n ∧ lv d ≤ k
section
variable {rp : D → Option Str} {n k n' k' : Nat}
theorem TxB.mono {d : D} (h : TxB rp d n k) (h1 : n ≤ n') (h2 : k ≤ k') : TxB rp d n' k' := by
  obtain ⟨t, a, b, c⟩ := h
  exact ⟨t, a, Nat.le_trans b h1, Nat.le_trans c h2⟩
theorem TxB.non : TxB rp .non 4 0 := ⟨_, rfl, by decide, by simp only [lv]; exact Nat.le_refl _⟩
theorem TxB.bl {b : Bool} : TxB rp (.bl b) 5 0 := ⟨_, rfl, by cases b <;> decide, by simp only [lv]; exact Nat.le_refl _⟩
theorem TxB.int {i : Int} (h1 : -1000000000000 ≤ i) (h2 : i ≤ 1000000000000) : TxB rp (.int i) 61 0 := by
  refine ⟨PyData.shown (.int i), ?_, ?_, by simp only [lv]; exact Nat.le_refl _⟩
  · simp only [dTxt]
    refine if_pos ?_
    have : i.natAbs < 2 ^ 41 := Nat.lt_of_lt_of_le (show i.natAbs < 1000000000001 by omega) (by decide)
    by_cases h0 : i.natAbs = 0
    · rw [h0]; decide
    · exact Nat.lt_trans ((Nat.log2_lt h0).mpr this) (by decide)
  · have := Sm.wt (sm_int h1 h2)
    simp only [toPy, DL.wt] at this
    exact this
theorem TxB.str {z : Str} (h : PyData.strOk z = true) (hn : DL.wt (.str z) ≤ n) (hm : n ≤ szMax) : TxB rp (.str z) n 0 := by
  have := Sm.wt (d := .str z) (by simp only [Sm]; exact h)
  simp only [toPy] at this
  refine ⟨PyData.shown (.str z), ?_, Nat.le_trans this hn, by simp only [lv]; exact Nat.le_refl _⟩
  simp only [dTxt]
  exact if_pos (Nat.le_trans this (Nat.le_trans hn hm))
theorem TxB.ins {c : Str} {ns : List Str} {vs : List D} {t : Str} (h : rp (.ins c ns vs) = some t) (hn : t.length ≤ n) : TxB rp (.ins c ns vs) n 0 :=
  ⟨t, by simp only [dTxt]; exact h, hn, by simp only [lv]; exact Nat.le_refl _⟩
theorem TxB.all : ∀ {ds : List D}, (∀ d ∈ ds, TxB rp d n k) → ∃ ts, dTxtL rp ds = some ts ∧ piled ts ≤ (n + 2) * ds.length ∧ lvL ds ≤ k
  | [], _ => ⟨[], by simp only [dTxtL], Nat.zero_le _, by simp only [lvL]; omega⟩
  | d :: ds, h => by
    obtain ⟨t, a, b, c⟩ := h d (List.mem_cons_self ..)
    obtain ⟨ts, a2, b2, c2⟩ := TxB.all fun e he => h e (List.mem_cons_of_mem _ he)
    refine ⟨t :: ts, by simp only [dTxtL, a, a2]; rfl, ?_, by simp only [lvL]; omega⟩
    have e3 : piled (t :: ts) = t.length + 2 + piled ts := by simp only [piled, List.map_cons, List.sum_cons] <;> omega
    rw [e3, List.length_cons, Nat.mul_add]
    omega
theorem TxB.lst {ds : List D} (h : ∀ d ∈ ds, TxB rp d n k) : TxB rp (.lst ds) ((n + 2) * ds.length + 2) (k + 1) := by
  obtain ⟨ts, a, b, c⟩ := TxB.all h
  refine ⟨listText ts, by simp only [dTxt, a]; rfl, ?_, by simp only [lv]; omega⟩
  have := listText_le ts
  omega
theorem TxB.tup {ds : List D} (h : ∀ d ∈ ds, TxB rp d n k) : TxB rp (.tup ds) ((n + 2) * ds.length + 4) (k + 1) := by
  obtain ⟨ts, a, b, c⟩ := TxB.all h
  refine ⟨tupleText ts, by simp only [dTxt, a]; rfl, ?_, by simp only [lv]; omega⟩
  have := tupleText_le ts
  omega
theorem TxB.repr {d : D} (h : TxB rp d n k) (h1 : n ≤ szMax) (h2 : k ≤ 50) : ∃ y, dReprX rp d = some (.str y) := by
  obtain ⟨t, a, b, c⟩ := h
  refine ⟨t, ?_⟩
  unfold dReprX
  rw [a]
  exact if_pos ⟨Nat.le_trans b h1, Nat.le_trans c h2⟩
end
end DL
namespace DL
open PySem PySem.Spec PyProof.Rows L2
/-! ### sorted of pairs -/
def pairOf : D → Option (Int × Int)
  | .tup [.int i, .int j] => some (i, j)
  | _ => none
def pairsOf : List D → Option (List (Int × Int))
  | [] => some []
  | d :: ds => (pairOf d).bind fun p => (pairsOf ds).map fun l => p :: l
def pD (p : Int × Int) : D := .tup [.int p.1, .int p.2]
def insP (p : Int × Int) : List (Int × Int) → List (Int × Int)
  | [] => [p]
  | q :: l => if SrtO.lexB q p = true then q :: insP p l else p :: q :: l
def srtP : List (Int × Int) → List (Int × Int)
  | [] => []
  | p :: l => insP p (srtP l)
def dSrt : D → Option D
  | .lst xs => (pairsOf xs).map fun l => .lst ((srtP l).map pD)
  | _ => none
theorem insP_perm (p : Int × Int) (l : List (Int × Int)) : (insP p l).Perm (p :: l) := by
  induction l with
  | nil => exact .refl _
  | cons q l ih =>
    unfold insP
    split
    · exact (ih.cons q).trans (List.Perm.swap p q l)
    · exact .refl _
theorem srtP_perm (l : List (Int × Int)) : (srtP l).Perm l := by
  induction l with
  | nil => exact .refl _
  | cons p l ih => exact (insP_perm p _).trans (ih.cons p)
theorem lex_tr {a b c : Int × Int} (h1 : SrtO.lexB b a = false) (h2 : SrtO.lexB c b = false) : SrtO.lexB c a = false := by
  have h1 := SrtO.lexB_no.mp h1
  have h2 := SrtO.lexB_no.mp h2
  refine SrtO.lexB_no.mpr ?_
  omega
theorem lex_as {a b : Int × Int} (h : SrtO.lexB a b = true) : SrtO.lexB b a = false := by
  have h := SrtO.lexB_iff.mp h
  refine SrtO.lexB_no.mpr ?_
  omega
theorem insP_srt {p : Int × Int} {l : List (Int × Int)} (h : SrtO.Srtd SrtO.lexB l) : SrtO.Srtd SrtO.lexB (insP p l) := by
  induction l with
  | nil => exact SrtO.srtd_one p
  | cons q l ih =>
    obtain ⟨h1, h2⟩ := List.pairwise_cons.mp h
    unfold insP
    split
    · rename_i hc
      refine List.pairwise_cons.mpr ⟨fun y hy => ?_, ih h2⟩
      rcases List.mem_cons.mp ((insP_perm p l).mem_iff.mp hy) with rfl | hy
      · exact lex_as hc
      · exact h1 y hy
    · rename_i hc
      have hc : SrtO.lexB q p = false := by cases e : SrtO.lexB q p with
        | true => exact absurd e hc
        | false => rfl
      refine List.pairwise_cons.mpr ⟨fun y hy => ?_, h⟩
      rcases List.mem_cons.mp hy with rfl | hy
      · exact hc
      · exact lex_tr hc (h1 y hy)
theorem srtP_srt (l : List (Int × Int)) : SrtO.Srtd SrtO.lexB (srtP l) := by
  induction l with
  | nil => exact List.Pairwise.nil
  | cons p l ih => exact insP_srt ih
theorem srtd_uniq : ∀ {l m : List (Int × Int)}, SrtO.Srtd SrtO.lexB l → SrtO.Srtd SrtO.lexB m → l.Perm m → l = m
  | [], m, _, _, h => (List.Perm.eq_nil h.symm).symm
  | x :: l, [], _, _, h => absurd h.length_eq (by simp)
  | x :: l, y :: m, hl, hm, h => by
    obtain ⟨a1, a2⟩ := List.pairwise_cons.mp hl
    obtain ⟨b1, b2⟩ := List.pairwise_cons.mp hm
    have h1 : SrtO.lexB x y = false := by
      rcases List.mem_cons.mp (h.mem_iff.mp (List.mem_cons_self (a := x) (l := l))) with e | hx
      · rw [e]; exact SrtO.lexB_no.mpr (by omega)
      · exact b1 x hx
    have h2 : SrtO.lexB y x = false := by
      rcases List.mem_cons.mp (h.mem_iff.mpr (List.mem_cons_self (a := y) (l := m))) with e | hx
      · rw [e]; exact SrtO.lexB_no.mpr (by omega)
      · exact a1 y hx
    have e : x = y := by
      have h1 := SrtO.lexB_no.mp h1
      have h2 := SrtO.lexB_no.mp h2
      exact Prod.ext (by omega) (by omega)
    subst e
    rw [srtd_uniq a2 b2 h.cons_inv]
theorem srtP_eq {l m : List (Int × Int)} (h : SrtO.Srtd SrtO.lexB m) (p : m.Perm l) : srtP l = m := srtd_uniq (srtP_srt l) h ((srtP_perm l).trans p.symm)
section
variable {K : PySem.W.Frag} {mg : Str → Option Value} {F : Hp}
/-- the two ints that lie at a place -/
def prF (F : Hp) (v : V) : Int × Int := match v with
  | .ref t => (match F t with
    | some (.tup [.int i, .int j]) => (i, j)
    | _ => (0, 0))
  | _ => (0, 0)
theorem rep_pair {d : D} {p : Int × Int} {v : V} (h : pairOf d = some p) (r : Rep K mg F d v) : d = pD p ∧ prF F v = p ∧ ∃ t, v = .ref t ∧ F t = some (.tup [.int p.1, .int p.2]) := by
  unfold pairOf at h
  split at h
  · cases h
    simp only [Rep, RepL] at r
    obtain ⟨a, xs, rfl, h1, _, x, r, rfl, rfl, y, r2, rfl, rfl, rfl⟩ := r
    exact ⟨rfl, by unfold prF; dsimp only; rw [h1], a, rfl, h1⟩
  · cases h
theorem rep_pairs : ∀ {ds : List D} {l : List (Int × Int)} {vs : List V}, pairsOf ds = some l → RepL K mg F ds vs → (∀ x ∈ vs, ∃ t, x = .ref t ∧ F t = some (.tup [.int (prF F x).1, .int (prF F x).2])) ∧ vs.map (prF F) = l
  | [], l, vs, h, r => by
    simp only [RepL] at r
    subst r
    cases h
    exact ⟨(fun x hx => nomatch hx), rfl⟩
  | d :: ds, l, vs, h, r => by
    simp only [RepL] at r
    obtain ⟨x, r, rfl, r1, r2⟩ := r
    unfold pairsOf at h
    obtain ⟨p, hp, h⟩ := Option.bind_eq_some_iff.mp h
    obtain ⟨l', hl, rfl⟩ := Option.map_eq_some_iff.mp h
    obtain ⟨e1, e2, t, e3, e4⟩ := rep_pair hp r1
    obtain ⟨i1, i2⟩ := rep_pairs hl r2
    refine ⟨fun y hy => ?_, by rw [List.map_cons, e2, i2]⟩
    rcases List.mem_cons.mp hy with rfl | hy
    · exact ⟨t, e3, by rw [e2]; exact e4⟩
    · exact i1 y hy
theorem repL_pairs : ∀ {ys : List V}, (∀ x ∈ ys, ∃ t, x = .ref t ∧ F t = some (.tup [.int (prF F x).1, .int (prF F x).2])) → RepL K mg F ((ys.map (prF F)).map pD) ys
  | [], _ => by simp only [List.map_nil, RepL]
  | y :: ys, h => by
    obtain ⟨t, e1, e2⟩ := h y (List.mem_cons_self ..)
    simp only [List.map_cons, RepL]
    refine ⟨y, ys, rfl, ?_, repL_pairs fun x hx => h x (List.mem_cons_of_mem _ hx)⟩
    simp only [pD, Rep, RepL]
    exact ⟨t, _, e1, e2, by simp only [List.length_cons, List.length_nil]; decide, _, _, rfl, rfl, _, _, rfl, rfl, rfl⟩
theorem v_sorted : VCall1P K mg (rSortedPO K) dSrt := by
  intro F H x u d Q s rx e k
  unfold dSrt at e
  split at e
  · obtain ⟨l, hl, rfl⟩ := Option.map_eq_some_iff.mp e
    obtain ⟨a, vs, rfl, h1, h2, h3⟩ := rx.lst s
    obtain ⟨i1, i2⟩ := rep_pairs hl h3
    refine ⟨a, vs, prF F, rfl, .inl (.inl h1), fun x hx => ?_, fun ys p hs hb hn => ?_⟩
    · obtain ⟨t, e1, e2⟩ := i1 x hx
      exact ⟨t, e1, s _ _ e2⟩
    · have e3 : srtP l = ys.map (prF F) := srtP_eq (SrtO.srtd_map hs) (by rw [← i2]; exact hb.perm.map _)
      have r : RepL K mg F ((srtP l).map pD) ys := by
        rw [e3]
        exact repL_pairs fun x hx => i1 x (hb.perm.mem_iff.mp hx)
      obtain ⟨x, r⟩ := new_lst (mg := mg) s hn (by rw [hb.len]; exact h2) r
      exact k _ _ _ x r
  · cases e
end
section
variable {X : Cx} {W : WX} {L : List Nat} {e a b : Expr} {es : List Expr} {ma mb : M D} {ml : M (List D)} {p pos : Pos} {x : Str}
theorem b_sorted (hm : X.mg ("sorted" : Str) = none) (ha : DV X W e ma) (hg : Gl X ("sorted" : Str) := by rfl) (he : starEach [e] X.env = (false, eval e X.env) :: starEach [] X.env := by rfl) (hpl : (backTo pos (starEach [] X.env)).any (·.1) = false := by rfl) : DV X W (.Call (.Name ("sorted" : Str) p) [e] [] pos) (evL (f1 dSrt) (evCons ma evNil)) :=
  dv_callB cr_sortedPO v_sorted.call hg hm bt_sorted (da_cons ha da_nil he) (by decide +kernel) (by decide +kernel) he hpl
theorem b_sortP (j : Nat) {y : Str} {py : Pos} (hm : X.mg ("sorted" : Str) = none) (hN : X.N[j]? = some y) (hvi : Vis X.env.scope y) (hg : Gl X ("sorted" : Str) := by rfl)
    (hd : (y == ("__debug__" : Str)) = false := by decide +kernel) (hcd : (y == ("__classdict__" : Str)) = false := by decide +kernel)
    (he : starEach (.Name y py :: []) X.env = (false, eval (.Name y py) X.env) :: starEach [] X.env := by rfl) (hpl : (backTo pos (starEach [] X.env)).any (·.1) = false := by rfl) : DV X W (.Call (.Name ("sorted" : Str) p) (.Name y py :: []) [] pos) (evLenP dSrt j) :=
  dv_callB1P j cr_sortedPO v_sorted hg hm bt_sorted hN hvi hd hcd (by decide +kernel) (by decide +kernel) he hpl
end
section
variable {P : D → Prop}
theorem pairsOf_map (l : List (Int × Int)) : pairsOf (l.map pD) = some l := by
  induction l with
  | nil => rfl
  | cons p l ih => rw [List.map_cons]; unfold pairsOf; rw [ih]; rfl
/-- the plain law: sorted of pairs is the one sorted list -/
theorem o_srt {l m : List (Int × Int)} (hm : SrtO.Srtd SrtO.lexB m) (hp : m.Perm l) (h : P (.lst (m.map pD))) : owp (dSrt (.lst (l.map pD))) P := by
  unfold dSrt
  dsimp only
  rw [pairsOf_map, Option.map_some, srtP_eq hm hp, owpZ]
  exact h
end
section
variable {σ : List Sl}
theorem lc_go {vs : List Nat} {s : D → List Sl → Option (List Sl)} {tt : M Bool} {te : M D} (I : Nat → List D → List Sl → Prop) : ∀ (ds : List D) (k : Nat) (acc : List D) (σ : List Sl), acc.length ≤ k → k + ds.length ≤ szMax → I k acc σ →
    (∀ i d acc σ, ds[i]? = some d → acc.length ≤ k + i → I (k + i) acc σ → owp (s d (wipeS σ vs)) fun σ1 => wp (tt σ1) (fun _ _ => False) fun b σ2 => (b = false → I (k + i + 1) acc σ2) ∧ (b = true → wp (te σ2) (fun _ _ => False) fun y σ3 => I (k + i + 1) (acc ++ [y]) σ3)) →
    ∃ acc' σ', lcL vs s tt te ds acc σ = some (acc', σ') ∧ acc'.length ≤ k + ds.length ∧ I (k + ds.length) acc' σ'
  | [], k, acc, σ, ha, _, h, _ => ⟨acc, σ, rfl, ha, h⟩
  | d :: ds, k, acc, σ, ha, hl, h, hs => by
    have h0 := hs 0 d acc σ rfl ha h
    have go : ∀ acc2 σ2, acc2.length ≤ k + 1 → I (k + 1) acc2 σ2 → ∃ acc' σ', lcL vs s tt te ds acc2 σ2 = some (acc', σ') ∧ acc'.length ≤ k + 1 + ds.length ∧ I (k + 1 + ds.length) acc' σ' := fun acc2 σ2 h1 h2 => lc_go I ds (k + 1) acc2 σ2 h1 (by rw [List.length_cons] at hl; omega) h2 fun i e acc σ he h3 h4 => by
      have := hs (i + 1) e acc σ (by simpa using he) (by omega) (by rw [show k + (i + 1) = k + 1 + i by omega]; exact h4)
      rw [show k + (i + 1) = k + 1 + i by omega] at this
      exact this
    rw [List.length_cons, show k + (ds.length + 1) = k + 1 + ds.length by omega]
    rw [owpZ] at h0
    unfold lcL
    cases e : s d (wipeS σ vs) with
    | none => rw [e] at h0; exact h0.elim
    | some σ1 =>
      rw [e] at h0
      have h0 : wp (tt σ1) (fun _ _ => False) _ := h0
      rw [wpZ] at h0
      dsimp only
      cases e2 : tt σ1 with
      | bad => rw [e2] at h0; exact h0.elim
      | ex x σ2 => rw [e2] at h0; exact h0.elim
      | ok b σ2 =>
        rw [e2] at h0
        cases b with
        | false => exact go acc σ2 (by omega) (h0.1 rfl)
        | true =>
          have h1 := h0.2 rfl
          rw [wpZ] at h1
          dsimp only
          cases e3 : te σ2 with
          | bad => rw [e3] at h1; exact h1.elim
          | ex x σ2 => rw [e3] at h1; exact h1.elim
          | ok y σ3 =>
            rw [e3] at h1
            dsimp only
            rw [if_pos (by rw [List.length_cons] at hl; omega)]
            exact go (acc ++ [y]) σ3 (by rw [List.length_append]; simp; omega) h1
/-- a list comprehension whose parts may write -/
theorem lc_inv {vs : List Nat} {s : D → List Sl → Option (List Sl)} {tt : M Bool} {te : M D} (I : Nat → List D → List Sl → Prop) {ds : List D} (hl : ds.length ≤ szMax) (h0 : I 0 [] σ)
    (hs : ∀ i d acc σ, ds[i]? = some d → acc.length ≤ i → I i acc σ → owp (s d (wipeS σ vs)) fun σ1 => wp (tt σ1) (fun _ _ => False) fun b σ2 => (b = false → I (i + 1) acc σ2) ∧ (b = true → wp (te σ2) (fun _ _ => False) fun y σ3 => I (i + 1) (acc ++ [y]) σ3)) :
    ∃ acc σ', lcL vs s tt te ds [] σ = some (acc, σ') ∧ acc.length ≤ ds.length ∧ I ds.length acc σ' := by
  have := lc_go (vs := vs) (s := s) (tt := tt) (te := te) I ds 0 [] σ (Nat.le_refl _) (by omega) h0 fun i d acc σ h1 h2 h3 => by
    rw [Nat.zero_add] at *
    exact hs i d acc σ h1 h2 h3
  rw [Nat.zero_add] at this
  exact this
end
theorem o_ext {ds xs : List D} {P : List D → Prop} (e : ds.length + xs.length ≤ szMax) (h : P (ds ++ xs)) : owp (extD ds [.lst xs]) P := by
  unfold extD
  dsimp only
  rw [if_pos e, owpZ]
  exact h
end DL
namespace DL
open PySem PySem.Spec PyProof.Rows L2
/-! ### dicts: keys -/
theorem un1 {n c : Nat} (h : n + 64 < c) : n + 1 < c := by omega
def keyOf : D → Option Key
  | .int i => some (.inl i)
  | .str z => some (.inr z)
  | _ => none
def keysOf : List D → Option (List Key)
  | [] => some []
  | d :: ds => (keyOf d).bind fun k => (keysOf ds).map fun ks => k :: ks
section
variable {κ : Type} [DecidableEq κ] {α β : Type}
def anyK (ks : List κ) (k : κ) : Bool := ks.any fun j => decide (j = k)
def setK : List κ → List α → κ → α → List α
  | j :: ks, d :: ds, k, y => (if j = k then y else d) :: setK ks ds k y
  | _, _, _, _ => []
def getK : List κ → List α → κ → Option α
  | j :: ks, d :: ds, k => if j = k then some d else getK ks ds k
  | _, _, _ => none
theorem any_zip {k : κ} : ∀ {ks : List κ} {xs : List V}, ks.length = xs.length → ((ks.zip xs).any fun kv => decide (kv.1 = k)) = anyK ks k
  | [], [], _ => rfl
  | j :: ks, x :: xs, h => by
    unfold anyK
    rw [List.zip_cons_cons, List.any_cons, List.any_cons, any_zip (ks := ks) (xs := xs) (by simpa using h)]; rfl
  | [], _ :: _, h => by cases h
  | _ :: _, [], h => by cases h
theorem map_zip {k : κ} {v : V} : ∀ {ks : List κ} {xs : List V}, ks.length = xs.length → (ks.zip xs).map (fun kv => if kv.1 = k then (kv.1, v) else kv) = ks.zip (setK ks xs k v)
  | [], [], _ => rfl
  | j :: ks, x :: xs, h => by
    rw [List.zip_cons_cons, List.map_cons, map_zip (ks := ks) (xs := xs) (by simpa using h), show setK (j :: ks) (x :: xs) k v = (if j = k then v else x) :: setK ks xs k v from rfl, List.zip_cons_cons]
    congr 1
    dsimp only
    split <;> rfl
  | [], _ :: _, h => by cases h
  | _ :: _, [], h => by cases h
theorem len_set {k : κ} {y : α} : ∀ {ks : List κ} {ds : List α}, ks.length = ds.length → (setK ks ds k y).length = ks.length
  | [], [], _ => rfl
  | j :: ks, d :: ds, h => by
    unfold setK
    rw [List.length_cons, List.length_cons, len_set (ks := ks) (ds := ds) (by simpa using h)]
  | [], _ :: _, h => by cases h
  | _ :: _, [], h => by cases h
theorem val_zip {k : κ} : ∀ {ks : List κ} {xs : List V}, ks.length = xs.length → valV (ks.zip xs) k = getK ks xs k
  | [], [], _ => rfl
  | j :: ks, x :: xs, h => by
    rw [List.zip_cons_cons]
    unfold getK
    by_cases e : j = k
    · rw [if_pos e, valV_pos e]
    · rw [if_neg e, valV_neg e, val_zip (ks := ks) (xs := xs) (by simpa using h)]
  | [], _ :: _, h => by cases h
  | _ :: _, [], h => by cases h
/-- behind d[k] = y -/
def dPutK (ks : List κ) (k : κ) : List κ := if anyK ks k = true then ks else ks ++ [k]
def dPutV (ks : List κ) (ds : List α) (k : κ) (y : α) : List α := if anyK ks k = true then setK ks ds k y else ds ++ [y]
theorem put_zip {k : κ} {v : V} {ks : List κ} {xs : List V} (h : ks.length = xs.length) : putK (ks.zip xs) k v = (dPutK ks k).zip (dPutV ks xs k v) := by
  unfold putK dPutK dPutV
  rw [any_zip h, map_zip h]
  split
  · rfl
  · rw [List.zip_append h]; rfl
theorem len_put {k : κ} {y : α} {ks : List κ} {ds : List α} (h : ks.length = ds.length) : (dPutK ks k).length = (dPutV ks ds k y).length := by
  unfold dPutK dPutV
  split
  · rw [len_set h]
  · rw [List.length_append, List.length_append, h]; rfl
variable {K : PySem.W.Frag} {mg : Str → Option Value} {F : Hp}
theorem rep_set {k : κ} {y : D} {v : V} (r : Rep K mg F y v) : ∀ {ks : List κ} {ds : List D} {xs : List V}, RepL K mg F ds xs → RepL K mg F (setK ks ds k y) (setK ks xs k v)
  | [], ds, xs, h => by
    have e1 : setK ([] : List κ) ds k y = [] := by cases ds <;> rfl
    have e2 : setK ([] : List κ) xs k v = [] := by cases xs <;> rfl
    rw [e1, e2]
    simp only [RepL]
  | j :: ks, [], xs, h => by
    simp only [RepL] at h
    subst h
    simp only [setK, RepL]
  | j :: ks, d :: ds, xs, h => by
    simp only [RepL] at h
    obtain ⟨x, q, rfl, h1, h2⟩ := h
    simp only [setK, RepL]
    refine ⟨_, _, rfl, ?_, rep_set r h2⟩
    split
    · exact r
    · exact h1
theorem RepL.snoc {ds : List D} {xs : List V} {y : D} {v : V} (h : RepL K mg F ds xs) (r : Rep K mg F y v) : RepL K mg F (ds ++ [y]) (xs ++ [v]) := by
  induction ds generalizing xs with
  | nil =>
    simp only [RepL] at h
    subst h
    simp only [List.nil_append, RepL]
    exact ⟨_, _, rfl, r, rfl⟩
  | cons d ds ih =>
    simp only [RepL] at h
    obtain ⟨x, q, rfl, h1, h2⟩ := h
    simp only [List.cons_append, RepL]
    exact ⟨_, _, rfl, h1, ih h2⟩
theorem rep_put {k : κ} {y : D} {v : V} {ks : List κ} {ds : List D} {xs : List V} (h : RepL K mg F ds xs) (r : Rep K mg F y v) : RepL K mg F (dPutV ks ds k y) (dPutV ks xs k v) := by
  unfold dPutV
  split
  · exact rep_set r h
  · exact RepL.snoc h r
theorem rep_get {k : κ} {z : D} {w : V} (r : Rep K mg F z w) : ∀ {ks : List κ} {ds : List D} {xs : List V}, RepL K mg F ds xs → Rep K mg F ((getK ks ds k).getD z) ((getK ks xs k).getD w)
  | [], ds, xs, h => by
    have e1 : getK ([] : List κ) ds k = none := by cases ds <;> rfl
    have e2 : getK ([] : List κ) xs k = none := by cases xs <;> rfl
    rw [e1, e2]
    exact r
  | j :: ks, [], xs, h => by
    simp only [RepL] at h
    subst h
    simp only [getK]
    exact r
  | j :: ks, d :: ds, xs, h => by
    simp only [RepL] at h
    obtain ⟨x, q, rfl, h1, h2⟩ := h
    simp only [getK]
    split
    · exact h1
    · exact rep_get r h2
end
section
variable {K : PySem.W.Frag} {mg : Str → Option Value} {F H : Hp}
theorem key_rep {d : D} {k : Key} {v : V} (h : keyOf d = some k) (r : Rep K mg F d v) : v = kV k := by
  cases d with
  | int i => cases h; exact r
  | str z => cases h; exact r
  | _ => cases h
theorem keys_rep : ∀ {ds : List D} {ks : List Key} {xs : List V}, keysOf ds = some ks → RepL K mg F ds xs → xs = ks.map kV
  | [], ks, xs, h, r => by
    cases h
    simp only [RepL] at r
    subst r; rfl
  | d :: ds, ks, xs, h, r => by
    simp only [RepL] at r
    obtain ⟨x, q, rfl, r1, r2⟩ := r
    unfold keysOf at h
    obtain ⟨k, hk, h⟩ := Option.bind_eq_some_iff.mp h
    obtain ⟨ks', hks, rfl⟩ := Option.map_eq_some_iff.mp h
    rw [key_rep hk r1, keys_rep hks r2]; rfl
/-! d[k] = y, d a slot's own dict -/
def setD : O → D → D → Option O
  | .dt ks ds, .tup es, y => (keysOf es).bind fun k => if ks.length < szMax then some (.dt (dPutK ks k) (dPutV ks ds k y)) else none
  | .dk ks ds, i, y => (keyOf i).bind fun k => if ks.length < szMax then some (.dk (dPutK ks k) (dPutV ks ds k y)) else none
  | _, _, _ => none
def rSetD : V → V → V → Hp → (Hp → Prop) → Prop := fun x y v H Q => ∃ a H', x = .ref a ∧ DPut H a y v H' ∧ Q H'
theorem set_dict {X : Cx} (hu : X.A.units + 1 < cLine) : PSet X rSetD := by
  intro pins s σ H o i v ov iv u Q I ro ri rv h
  obtain ⟨a, H', rfl, g, q⟩ := h
  obtain rfl : ov = Value.ref a := ro
  exact d_setItem hu I g ri rv fun s' I' => ⟨H', I', q⟩
theorem szl {n : Nat} (h : n < szMax) : n < sizeLine := Nat.lt_of_lt_of_le h (sz_ok (Nat.le_refl _))
theorem v_setD : VSet K mg rSetD setD := by
  intro F H o z i y a iv v Q s fa at_ ri ry e k
  unfold setD at e
  split at e
  · rename_i ks ds es
    obtain ⟨k', hk, e⟩ := Option.bind_eq_some_iff.mp e
    split at e
    · rename_i hl
      cases e
      obtain ⟨xs, h1, h2, h3⟩ := at_
      simp only [Rep] at ri
      obtain ⟨b, ys, rfl, h4, _, h5⟩ := ri
      have e5 := keys_rep hk h5
      subst e5
      refine ⟨a, _, rfl, DPut.t h1 (s _ _ h4) (by rw [List.length_zip, ← h2, Nat.min_self]; exact szl hl), k _ ?_⟩
      rw [put_zip h2]
      exact ⟨_, upd_same, len_put h2, rep_put h3 ry⟩
    · cases e
  · rename_i ks ds
    obtain ⟨k', hk, e⟩ := Option.bind_eq_some_iff.mp e
    split at e
    · rename_i hl
      cases e
      obtain ⟨xs, h1, h2, h3⟩ := at_
      have e5 := key_rep hk ri
      subst e5
      refine ⟨a, _, rfl, DPut.k h1 (by rw [List.length_zip, ← h2, Nat.min_self]; exact szl hl), k _ ?_⟩
      rw [put_zip h2]
      exact ⟨_, upd_same, len_put h2, rep_put h3 ry⟩
    · cases e
  · cases e
/-! d.get(k, z) -/
def isDct : D → Bool
  | .dt _ _ => true
  | .dk _ _ => true
  | _ => false
def getDD : D → D → D → Option D
  | .dt ks ds, .tup es, z => (keysOf es).map fun k => (getK ks ds k).getD z
  | .dk ks ds, i, z => (keyOf i).map fun k => (getK ks ds k).getD z
  | _, _, _ => none
theorem dct_is {x : D} {v : V} (s : Same F H) (h : isDct x = true) (r : RepP K mg F H x v) : ∃ a, v = .ref a ∧ IsD H a := by
  rcases r with r | ⟨o, a, rfl, rfl, r⟩
  · cases x with
    | dt ks ds =>
      simp only [Rep] at r
      obtain ⟨a, xs, rfl, h1, _⟩ := r
      exact ⟨a, rfl, .inr ⟨_, Rd.same s h1⟩⟩
    | dk ks ds =>
      simp only [Rep] at r
      obtain ⟨a, xs, rfl, h1, _⟩ := r
      exact ⟨a, rfl, .inl ⟨_, Rd.same s h1⟩⟩
    | _ => cases h
  · cases o with
    | dt ks ds =>
      obtain ⟨xs, h1, _⟩ := r
      exact ⟨a, rfl, .inr ⟨_, .inl h1⟩⟩
    | dk ks ds =>
      obtain ⟨xs, h1, _⟩ := r
      exact ⟨a, rfl, .inl ⟨_, .inl h1⟩⟩
    | lst xs => cases h
    | ins c ns vs => cases h
theorem RepP.dt {ks : List (List Key)} {ds : List D} {v : V} (s : Same F H) (h : RepP K mg F H (.dt ks ds) v) : ∃ a xs, v = .ref a ∧ Rd H a (.dT (ks.zip xs)) ∧ ks.length = xs.length ∧ RepL K mg F ds xs := by
  rcases h with ⟨a, xs, h1, h2, h3, h4⟩ | ⟨o, a, h1, h2, h3⟩
  · exact ⟨a, xs, h1, Rd.same s h2, h3, h4⟩
  · cases o with
    | dt ks' ds' =>
      cases h1
      obtain ⟨xs, q1, q2, q3⟩ := h3
      exact ⟨a, xs, h2, .inl q1, q2, q3⟩
    | _ => cases h1
theorem RepP.dk {ks : List Key} {ds : List D} {v : V} (s : Same F H) (h : RepP K mg F H (.dk ks ds) v) : ∃ a xs, v = .ref a ∧ Rd H a (.dK (ks.zip xs)) ∧ ks.length = xs.length ∧ RepL K mg F ds xs := by
  rcases h with ⟨a, xs, h1, h2, h3, h4⟩ | ⟨o, a, h1, h2, h3⟩
  · exact ⟨a, xs, h1, Rd.same s h2, h3, h4⟩
  · cases o with
    | dk ks' ds' =>
      cases h1
      obtain ⟨xs, q1, q2, q3⟩ := h3
      exact ⟨a, xs, h2, .inl q1, q2, q3⟩
    | _ => cases h1
theorem dget_of {x k z d : D} {a : Addr} {y w : V} (s : Same F H) (rx : RepP K mg F H x (.ref a)) (rk : Rep K mg F k y) (rz : Rep K mg F z w) (e : getDD x k z = some d) :
    ∃ o, DGet H a y o ∧ Rep K mg F d (o.getD w) := by
  unfold getDD at e
  split at e
  · rename_i ks ds es z
    obtain ⟨k', hk, rfl⟩ := Option.map_eq_some_iff.mp e
    obtain ⟨a', xs, q, h1, h2, h3⟩ := rx.dt s
    cases q
    simp only [Rep] at rk
    obtain ⟨b, ys, rfl, h4, _, h5⟩ := rk
    have e5 := keys_rep hk h5
    subst e5
    refine ⟨_, .inr ⟨_, k', b, h1, rfl, s _ _ h4, rfl⟩, ?_⟩
    rw [val_zip h2]
    exact rep_get rz h3
  · rename_i ks ds z
    obtain ⟨k', hk, rfl⟩ := Option.map_eq_some_iff.mp e
    obtain ⟨a', xs, q, h1, h2, h3⟩ := rx.dk s
    cases q
    have e5 := key_rep hk rk
    subst e5
    refine ⟨_, .inl ⟨_, k', h1, rfl, rfl⟩, ?_⟩
    rw [val_zip h2]
    exact rep_get rz h3
  · cases e
end
end DL
namespace DL
open PySem PySem.Spec PyProof.Rows L2
def evDT0 : M Sl := fun σ => .ok (.o (.dt [] [])) σ
def evDK0 : M Sl := fun σ => .ok (.o (.dk [] [])) σ
def gAt (g : D → Bool) (σ : List Sl) (j : Nat) : Bool := match σ[j]? with
  | some (.d x) => g x
  | some (.o o) => g o.frz
  | _ => false
def evGetP (j : Nat) (me mf : M D) : M D := fun σ => if gAt isDct σ j = true then (me.bind fun k => mf.bind fun z => pkAt (fun c => getDD c k z) j) σ else .bad
def evGet (mc me mf : M D) : M D := mc.bind fun c => if isDct c = true then me.bind fun k => mf.bind fun z => lift (getDD c k z) else M.bad
section
variable {X : Cx} {W : WX} {L : List Nat} {o e f a b : Expr} {es : List Expr} {mo me mf ma mb : M D} {ml : M (List D)} {p pos apos cpos py : Pos} {x y : Str}
theorem do_dnewT : DO X W (.Dict [] [] pos) evDT0 :=
  ⟨_, pe_dnewT, fun F H σ τ Q R q p np => okO q R np ⟨[], upd_same, rfl, by simp only [RepL]⟩⟩
theorem do_dnewK : DO X W (.Dict [] [] pos) evDK0 :=
  ⟨_, pe_dnewK, fun F H σ τ Q R q p np => okO q R np ⟨[], upd_same, rfl, by simp only [RepL]⟩⟩
theorem gAt_ok {K : PySem.W.Frag} {mg : Str → Option Value} {F H : Hp} {σ : List Sl} {τ : List (Option V)} {g : D → Bool} {j : Nat} (R : Rl K mg F H σ τ) (h : gAt g σ j = true) : ∃ x v0, τ[j]? = some (some v0) ∧ RepP K mg F H x v0 ∧ g x = true := by
  unfold gAt at h
  cases e : σ[j]? with
  | none => rw [e] at h; cases h
  | some s =>
    rw [e] at h
    cases s with
    | un => cases h
    | d x =>
      obtain ⟨v, h1, h2⟩ := R.val j x e
      exact ⟨x, v, h1, .inl h2, h⟩
    | o o =>
      obtain ⟨a, h1, h2, _⟩ := R.own j o e
      exact ⟨o.frz, .ref a, h1, .inr ⟨o, a, rfl, rfl, h2⟩, h⟩
/-- x.get(e, f), x a slot -/
theorem dv_dget2P (j : Nat) (hu : X.A.units + 1 < cLine) (hN : X.N[j]? = some y) (hvi : Vis X.env.scope y) (he : DV X W e me) (hf : DV X W f mf)
    (hd : (y == ("__debug__" : Str)) = false := by decide +kernel) (hcd : (y == ("__classdict__" : Str)) = false := by decide +kernel)
    (h1 : attributeBase (.Name y py) "get" X.env (eval (.Name y py) X.env) = eval (.Name y py) X.env := by rfl)
    (h2 : ((backTo cpos (starEach [e, f] X.env)).all (fun x => !x.1) && (backToKw cpos (keywordEach [] X.env)).all (fun x => x.1.isSome)
    && decide (([e, f] : List Expr).length + ([] : List Keyword).length + (if ([] : List Keyword).isEmpty then 0 else 1) < 30)) = true := by rfl)
    (h3 : (apos.endLine == cpos.line) = true := by rfl) (h4 : backTo cpos (starEach [e, f] X.env) = [(false, eval e X.env), (false, eval f X.env)] := by rfl) :
    DV X W (.Call (.Attribute (.Name y py) "get" apos) [e, f] [] cpos) (evGetP j me mf) := by
  obtain ⟨te, pe, he⟩ := he
  obtain ⟨tf, pf, hf⟩ := hf
  refine ⟨_, pe_dget2 hu (pe_var hN hvi hd hcd) pe pf ⟨h1, h2, h3, h4⟩, fun F H σ τ Q R h => ?_⟩
  unfold asS evGetP at h
  by_cases hg : gAt isDct σ j = true
  case neg => rw [if_neg hg] at h; exact False.elim h
  rw [if_pos hg] at h
  obtain ⟨x0, v0, et, r0, g0⟩ := gAt_ok R hg
  obtain ⟨a, rfl, ia⟩ := dct_is R.same g0 r0
  refine ⟨_, et, a, rfl, ia, he F H σ τ _ R ?_⟩
  have h : OkE X.K X.mg W σ τ F H Q (asS (M.bind me fun k => M.bind mf fun z => pkAt (fun c => getDD c k z) j) σ) := h
  unfold asS M.bind at h
  unfold asS
  cases e1 : me σ with
  | bad => rw [e1] at h; exact h
  | ex x σ1 => rw [e1] at h; exact h
  | ok k σ1 =>
    rw [e1] at h
    intro y1 F1 H1 R1 r1 _ t1
    have h := OkE.later t1.noR h
    dsimp only at h
    refine hf F1 H1 σ1 τ _ R1 ?_
    unfold asS
    cases e2 : mf σ1 with
    | bad => rw [e2] at h; exact h
    | ex x σ2 => rw [e2] at h; exact h
    | ok z σ2 =>
      rw [e2] at h
      intro w1 F2 H2 R2 r2 _ t2
      have h := OkE.later t2.noR h
      obtain ⟨x, d, rx, ed, h2⟩ := pkAt_ok R2 et h
      obtain ⟨o, g, rd⟩ := dget_of R2.same rx (Rep.same t2.fz r1) r2 ed
      exact ⟨o, g, okd h2 R2 (Ext.refl R2.same) rd⟩
/-- c.get(e, f), c data -/
theorem dv_dget2 (hu : X.A.units + 1 < cLine) (ho : DV X W o mo) (he : DV X W e me) (hf : DV X W f mf)
    (h1 : attributeBase o "get" X.env (eval o X.env) = eval o X.env := by rfl)
    (h2 : ((backTo cpos (starEach [e, f] X.env)).all (fun x => !x.1) && (backToKw cpos (keywordEach [] X.env)).all (fun x => x.1.isSome)
    && decide (([e, f] : List Expr).length + ([] : List Keyword).length + (if ([] : List Keyword).isEmpty then 0 else 1) < 30)) = true := by rfl)
    (h3 : (apos.endLine == cpos.line) = true := by rfl) (h4 : backTo cpos (starEach [e, f] X.env) = [(false, eval e X.env), (false, eval f X.env)] := by rfl) :
    DV X W (.Call (.Attribute o "get" apos) [e, f] [] cpos) (evGet mo me mf) := by
  obtain ⟨to, po, ho⟩ := ho
  obtain ⟨te, pe, he⟩ := he
  obtain ⟨tf, pf, hf⟩ := hf
  refine ⟨_, pe_dget2 hu po pe pf ⟨h1, h2, h3, h4⟩, fun F H σ τ Q R h => ?_⟩
  unfold evGet at h
  refine ho F H σ τ _ R ?_
  unfold asS M.bind at h
  unfold asS
  cases e0 : mo σ with
  | bad => rw [e0] at h; exact h
  | ex x σ1 => rw [e0] at h; exact h
  | ok c σ0 =>
    rw [e0] at h
    intro y0 F0 H0 R0 r0 _ t0
    have h := OkE.later t0.noR h
    dsimp only at h
    by_cases hg : isDct c = true
    case neg => rw [if_neg hg] at h; exact False.elim h
    rw [if_pos hg] at h
    obtain ⟨a, rfl, ia⟩ := dct_is R0.same hg (.inl r0)
    refine ⟨a, rfl, ia, he F0 H0 σ0 τ _ R0 ?_⟩
    unfold asS
    cases e1 : me σ0 with
    | bad => rw [e1] at h; exact h
    | ex x σ1 => rw [e1] at h; exact h
    | ok k σ1 =>
      rw [e1] at h
      intro y1 F1 H1 R1 r1 _ t1
      have h := OkE.later t1.noR h
      dsimp only at h
      refine hf F1 H1 σ1 τ _ R1 ?_
      unfold asS
      cases e2 : mf σ1 with
      | bad => rw [e2] at h; exact h
      | ex x σ2 => rw [e2] at h; exact h
      | ok z σ2 =>
        rw [e2] at h
        intro w1 F2 H2 R2 r2 _ t2
        have h := OkE.later t2.noR h
        obtain ⟨d, ed, h2⟩ := okl (v := .non) h
        obtain ⟨o, g, rd⟩ := dget_of R2.same (.inl (Rep.same t2.fz (Rep.same t1.fz r0))) (Rep.same t2.fz r1) r2 ed
        exact ⟨o, g, okd h2 R2 (Ext.refl R2.same) rd⟩
end
end DL
namespace DL
open PySem PySem.Spec PyProof.Rows L2
/-! ### a dict that is locked for a while -/
def IsDk (u : HO) : Prop := (∃ kvs, u = .dK kvs) ∨ ∃ kvs, u = .dT kvs
/-- F' is F but for the lock at a: what is plain at one is locked at the other -/
structure Lck (F F' : Hp) (a : Addr) (u : HO) (od : Obj) : Prop where
  dk : IsDk u
  at_ : F a = some u
  at' : F' a = some (.frz od u)
  ne : ∀ b, b ≠ a → F' b = F b
section
variable {K : PySem.W.Frag} {mg : Str → Option Value} {F F' H H' : Hp} {a : Addr} {u : HO} {od : Obj}
theorem Lck.of (d : IsDk u) (h : F a = some u) : Lck F (upd F a (.frz od u)) a u od := ⟨d, h, upd_same, fun b hb => upd_ne hb⟩
theorem Lck.back (d : IsDk u) (h : F a = some (.frz od u)) : Lck (upd F a u) F a u od := ⟨d, upd_same, h, fun b hb => (upd_ne hb).symm⟩
theorem Lck.rd {b : Addr} {x : HO} (l : Lck F F' a u od) (h : Rd F b x) : Rd F' b x := by
  by_cases e : b = a
  · subst e
    rcases h with h | ⟨o, h⟩
    · rw [l.at_] at h
      cases h
      exact .inr ⟨od, l.at'⟩
    · rw [l.at_] at h
      cases h
      rcases l.dk with ⟨_, z⟩ | ⟨_, z⟩ <;> cases z
  · unfold Rd
    rw [l.ne b e]
    exact h
theorem Lck.rd' {b : Addr} {x : HO} (l : Lck F F' a u od) (hx : ∀ o y, x ≠ .frz o y) (h : Rd F' b x) : Rd F b x := by
  by_cases e : b = a
  · subst e
    rcases h with h | ⟨o, h⟩
    · rw [l.at'] at h
      cases h
      exact absurd rfl (hx _ _)
    · rw [l.at'] at h
      cases h
      exact .inl l.at_
  · unfold Rd
    rw [← l.ne b e]
    exact h
theorem Lck.pl {b : Addr} {x : HO} (l : Lck F F' a u od) (n : ¬ IsDk x) (h : F b = some x) : F' b = some x := by
  by_cases e : b = a
  · subst e
    rw [l.at_] at h
    cases h
    exact absurd l.dk n
  · rw [l.ne b e]; exact h
theorem Lck.pl' {b : Addr} {x : HO} (l : Lck F F' a u od) (n : ∀ o y, x ≠ .frz o y) (h : F' b = some x) : F b = some x := by
  by_cases e : b = a
  · subst e
    rw [l.at'] at h
    cases h
    exact absurd rfl (n _ _)
  · rw [← l.ne b e]; exact h
mutual
theorem Lck.rep (l : Lck F F' a u od) : ∀ {d : D} {v : V}, Rep K mg F d v → Rep K mg F' d v
  | .non, v, h => by simpa only [Rep] using h
  | .bl b, v, h => by simpa only [Rep] using h
  | .int i, v, h => by simpa only [Rep] using h
  | .str s, v, h => by simpa only [Rep] using h
  | .tup ds, v, h => by
    simp only [Rep] at h ⊢
    obtain ⟨b, xs, h1, h2, h3, h4⟩ := h
    exact ⟨b, xs, h1, l.pl (by rintro (⟨_, z⟩ | ⟨_, z⟩) <;> cases z) h2, h3, l.repL h4⟩
  | .lst ds, v, h => by
    simp only [Rep] at h ⊢
    obtain ⟨b, xs, h1, h2, h3, h4⟩ := h
    exact ⟨b, xs, h1, l.pl (by rintro (⟨_, z⟩ | ⟨_, z⟩) <;> cases z) h2, h3, l.repL h4⟩
  | .scr ns, v, h => by
    simp only [Rep] at h ⊢
    obtain ⟨b, h1, h2⟩ := h
    exact ⟨b, h1, h2.imp l.rd id⟩
  | .dk ks ds, v, h => by
    simp only [Rep] at h ⊢
    obtain ⟨b, xs, h1, h2, h3, h4⟩ := h
    exact ⟨b, xs, h1, l.rd h2, h3, l.repL h4⟩
  | .dt ks ds, v, h => by
    simp only [Rep] at h ⊢
    obtain ⟨b, xs, h1, h2, h3, h4⟩ := h
    exact ⟨b, xs, h1, l.rd h2, h3, l.repL h4⟩
  | .ins c ns ds, v, h => by
    simp only [Rep] at h ⊢
    obtain ⟨b, C, dx, xs, h1, h0, h2, h3, h4⟩ := h
    exact ⟨b, C, dx, xs, h1, h0, l.pl (by rintro (⟨_, z⟩ | ⟨_, z⟩) <;> cases z) h2, h3, l.repL h4⟩
theorem Lck.repL (l : Lck F F' a u od) : ∀ {ds : List D} {xs : List V}, RepL K mg F ds xs → RepL K mg F' ds xs
  | [], xs, h => by simpa only [RepL] using h
  | d :: ds, xs, h => by
    simp only [RepL] at h ⊢
    obtain ⟨x, r, h1, h2, h3⟩ := h
    exact ⟨x, r, h1, l.rep h2, l.repL h3⟩
end
mutual
theorem Lck.rep' (l : Lck F F' a u od) : ∀ {d : D} {v : V}, Rep K mg F' d v → Rep K mg F d v
  | .non, v, h => by simpa only [Rep] using h
  | .bl b, v, h => by simpa only [Rep] using h
  | .int i, v, h => by simpa only [Rep] using h
  | .str s, v, h => by simpa only [Rep] using h
  | .tup ds, v, h => by
    simp only [Rep] at h ⊢
    obtain ⟨b, xs, h1, h2, h3, h4⟩ := h
    exact ⟨b, xs, h1, l.pl' (fun _ _ z => by cases z) h2, h3, l.repL' h4⟩
  | .lst ds, v, h => by
    simp only [Rep] at h ⊢
    obtain ⟨b, xs, h1, h2, h3, h4⟩ := h
    exact ⟨b, xs, h1, l.pl' (fun _ _ z => by cases z) h2, h3, l.repL' h4⟩
  | .scr ns, v, h => by
    simp only [Rep] at h ⊢
    obtain ⟨b, h1, h2⟩ := h
    exact ⟨b, h1, h2.imp (l.rd' (fun _ _ z => by cases z)) id⟩
  | .dk ks ds, v, h => by
    simp only [Rep] at h ⊢
    obtain ⟨b, xs, h1, h2, h3, h4⟩ := h
    exact ⟨b, xs, h1, l.rd' (fun _ _ z => by cases z) h2, h3, l.repL' h4⟩
  | .dt ks ds, v, h => by
    simp only [Rep] at h ⊢
    obtain ⟨b, xs, h1, h2, h3, h4⟩ := h
    exact ⟨b, xs, h1, l.rd' (fun _ _ z => by cases z) h2, h3, l.repL' h4⟩
  | .ins c ns ds, v, h => by
    simp only [Rep] at h ⊢
    obtain ⟨b, C, dx, xs, h1, h0, h2, h3, h4⟩ := h
    exact ⟨b, C, dx, xs, h1, h0, l.pl' (fun _ _ z => by cases z) h2, h3, l.repL' h4⟩
theorem Lck.repL' (l : Lck F F' a u od) : ∀ {ds : List D} {xs : List V}, RepL K mg F' ds xs → RepL K mg F ds xs
  | [], xs, h => by simpa only [RepL] using h
  | d :: ds, xs, h => by
    simp only [RepL] at h ⊢
    obtain ⟨x, r, h1, h2, h3⟩ := h
    exact ⟨x, r, h1, l.rep' h2, l.repL' h3⟩
end
theorem Lck.oat {H1 H2 : Hp} {o : O} {b : Addr} (l : Lck F F' a u od) (hb : H2 b = H1 b) (h : OAt K mg F H1 o b) : OAt K mg F' H2 o b := by
  cases o with
  | lst ds => obtain ⟨xs, h1, h2, h3⟩ := h; exact ⟨xs, by rw [hb]; exact h1, h2, l.repL h3⟩
  | dk ks ds => obtain ⟨xs, h1, h2, h3⟩ := h; exact ⟨xs, by rw [hb]; exact h1, h2, l.repL h3⟩
  | dt ks ds => obtain ⟨xs, h1, h2, h3⟩ := h; exact ⟨xs, by rw [hb]; exact h1, h2, l.repL h3⟩
  | ins c ns ds => obtain ⟨C, dx, xs, h0, h1, h2, h3⟩ := h; exact ⟨C, dx, xs, h0, by rw [hb]; exact h1, h2, l.repL h3⟩
theorem Lck.oat' {H1 H2 : Hp} {o : O} {b : Addr} (l : Lck F F' a u od) (hb : H2 b = H1 b) (h : OAt K mg F' H1 o b) : OAt K mg F H2 o b := by
  cases o with
  | lst ds => obtain ⟨xs, h1, h2, h3⟩ := h; exact ⟨xs, by rw [hb]; exact h1, h2, l.repL' h3⟩
  | dk ks ds => obtain ⟨xs, h1, h2, h3⟩ := h; exact ⟨xs, by rw [hb]; exact h1, h2, l.repL' h3⟩
  | dt ks ds => obtain ⟨xs, h1, h2, h3⟩ := h; exact ⟨xs, by rw [hb]; exact h1, h2, l.repL' h3⟩
  | ins c ns ds => obtain ⟨C, dx, xs, h0, h1, h2, h3⟩ := h; exact ⟨C, dx, xs, h0, by rw [hb]; exact h1, h2, l.repL' h3⟩
theorem same_upd2 {w : HO} (s : Same F H) : Same (upd F a w) (upd H a w) := fun b o h => by
  by_cases e : b = a
  · subst e; rw [upd_same] at h ⊢; exact h
  · rw [upd_ne e] at h ⊢; exact s b o h
theorem upd_none {w : HO} {b : Addr} (h : F b = none) (hb : b ≠ a) : upd F a w b = none := by rw [upd_ne hb]; exact h
variable {σ : List Sl} {τ : List (Option V)}
theorem Rl.lock (R : Rl K mg F H σ τ) (d : IsDk u) (h : F a = some u) : Rl K mg (upd F a (.frz od u)) (upd H a (.frz od u)) σ τ := by
  have l : Lck F (upd F a (.frz od u)) a u od := .of d h
  refine ⟨R.len, same_upd2 R.same, fun i x e => ?_, fun i o e => ?_, R.inj⟩
  · obtain ⟨v, h1, h2⟩ := R.val i x e
    exact ⟨v, h1, l.rep h2⟩
  · obtain ⟨b, h1, h2, h3⟩ := R.own i o e
    have hb : b ≠ a := fun z => by rw [z, h] at h3; cases h3
    exact ⟨b, h1, l.oat (upd_ne hb) h2, upd_none h3 hb⟩
theorem Rl.unlock (R : Rl K mg F H σ τ) (d : IsDk u) (h : F a = some (.frz od u)) : Rl K mg (upd F a u) (upd H a u) σ τ := by
  have l : Lck (upd F a u) F a u od := .back d h
  refine ⟨R.len, same_upd2 R.same, fun i x e => ?_, fun i o e => ?_, R.inj⟩
  · obtain ⟨v, h1, h2⟩ := R.val i x e
    exact ⟨v, h1, l.rep' h2⟩
  · obtain ⟨b, h1, h2, h3⟩ := R.own i o e
    have hb : b ≠ a := fun z => by rw [z, h] at h3; cases h3
    exact ⟨b, h1, l.oat' (upd_ne hb) h2, upd_none h3 hb⟩
theorem Tr.unlock {A A' : Addr → Prop} {F2 H2 : Hp} {w : HO} (t : Tr A (upd F a w) (upd H a w) A' F2 H2) (hF : F a = some u) (s : Same F H) : Tr A F H A' (upd F2 a u) (upd H2 a u) := by
  refine ⟨fun b o h => ?_, fun b o h n => ?_, fun b h => ?_, fun b h => ?_, fun b h => ?_⟩
  · by_cases e : b = a
    · subst e; rw [upd_same]; rw [hF] at h; exact h
    · rw [upd_ne e]; exact t.fz b o (by rw [upd_ne e]; exact h)
  · by_cases e : b = a
    · subst e; rw [upd_same, ← s _ _ hF]; exact h
    · rw [upd_ne e]; exact t.keep b o (by rw [upd_ne e]; exact h) n
  · by_cases e : b = a
    · subst e; exact .inl (by rw [hF]; simp)
    · rw [upd_ne e] at h
      rcases t.new b h with h | h | h
      · rw [upd_ne e] at h; exact .inl h
      · rw [upd_ne e] at h; exact .inr (.inl h)
      · exact .inr (.inr h)
  · by_cases e : b = a
    · subst e; rw [upd_same]; simp
    · rw [upd_ne e]; exact t.dom b (by rw [upd_ne e]; exact h)
  · rcases t.sub b h with h | h
    · exact .inl h
    · by_cases e : b = a
      · subst e; rw [upd_same] at h; cases h
      · rw [upd_ne e] at h; exact .inr h
/-- the ends of a statement under the lock -/
def lkE (a : Addr) (w u : HO) (E : Ends) : Ends := ⟨fun σ' H' => H' a = some w ∧ E.nx σ' (upd H' a u), fun v H' => H' a = some w ∧ E.rt v (upd H' a u), fun σ' H' => H' a = some w ∧ E.bk σ' (upd H' a u), fun σ' H' => H' a = some w ∧ E.ct σ' (upd H' a u)⟩
def noEx (r : Res Fl) : Res Fl := match r with
  | .ex _ _ => .bad
  | r => r
theorem OkS.lock {W W' : WX} {L : List Nat} {E : Ends} {r : Res Fl} (d : IsDk u) (hF : F a = some u) (s : Same F H) (h : OkS K mg W L σ τ F H E (noEx r)) : OkS K mg W' L σ τ (upd F a (.frz od u)) (upd H a (.frz od u)) (lkE a (.frz od u) u E) r := by
  have fin : ∀ {A A' : Addr → Prop} {F2 H2 : Hp} {σ' : List Sl} {τ' : List (Option V)}, Rl K mg F2 H2 σ' τ' → Tr A (upd F a (.frz od u)) (upd H a (.frz od u)) A' F2 H2 → F2 a = some (.frz od u) ∧ H2 a = some (.frz od u) ∧ Rl K mg (upd F2 a u) (upd H2 a u) σ' τ' ∧ Tr A F H A' (upd F2 a u) (upd H2 a u) := fun R t => by
    have h1 := t.fz a _ upd_same
    exact ⟨h1, R.same _ _ h1, R.unlock d h1, t.unlock hF s⟩
  match r, h with
  | .ok .nx σ', h =>
    intro τ' F2 H2 R lk t
    obtain ⟨h1, h2, h3, h4⟩ := fin R t
    exact ⟨h2, h τ' _ _ h3 lk h4⟩
  | .ok .bk σ', h =>
    intro τ' F2 H2 R lk t
    obtain ⟨h1, h2, h3, h4⟩ := fin R t
    exact ⟨h2, h τ' _ _ h3 lk h4⟩
  | .ok .ct σ', h =>
    intro τ' F2 H2 R lk t
    obtain ⟨h1, h2, h3, h4⟩ := fin R t
    exact ⟨h2, h τ' _ _ h3 lk h4⟩
  | .ok (.rt q) σ', h =>
    intro v τ' F2 H2 R lk rv nv t
    obtain ⟨h1, h2, h3, h4⟩ := fin R t
    refine ⟨h2, h v τ' _ _ h3 lk ?_ nv h4⟩
    have l : Lck (upd F2 a u) F2 a u od := .back d h1
    cases q with
    | d x => exact l.rep' rv
    | o o =>
      obtain ⟨b, q1, q2, q3⟩ := rv
      have hb : b ≠ a := fun z => by rw [z, h1] at q3; cases q3
      exact ⟨b, q1, l.oat' (upd_ne hb) q2, upd_none q3 hb⟩
    | un => exact rv
  | .ex e σ', h => exact False.elim h
  | .bad, h => exact False.elim h
end
end DL
namespace DL
open PySem PySem.Spec PyProof.Rows L2
/-! ### for .. in d.items() -/
def kD : Key → D
  | .inl i => .int i
  | .inr z => .str z
def itemsK (ks : List Key) (ds : List D) : List D := List.zipWith (fun k d => .tup [kD k, d]) ks ds
def evForItems (j : Nat) (s : D → List Sl → Option (List Sl)) (mb : M Fl) : M Fl := fun σ => match σ[j]? with
  | some (.d (.dk ks ds)) => noEx (forL s mb (itemsK ks ds) σ)
  | some (.o (.dk ks ds)) => noEx (forL s mb (itemsK ks ds) (σ.set j (.d (.dk ks ds))))
  | _ => .bad
section
variable {X : Cx} {W : WX} {L ts : List Nat} {tg it : Expr} {body : List Stmt} {pos : Pos} {s : D → List Sl → Option (List Sl)} {mb : M Fl}
theorem for_core {g : TG} {tb : TS} {F1 H1 : Hp} {σ1 : List Sl} {τ : List (Option V)} {E : Ends} {J : It} {ds : List D}
    (hg : ∀ F H σ τ (d : D) (v : V) Q, Rl X.K X.mg F H σ τ → Rep X.K X.mg F d v → (match s d σ with
      | some σ' => ∀ τ', Rl X.K X.mg F H σ' τ' → Out ts τ τ' → (∀ a, Own σ' τ' a → Own σ τ a) → Q τ' H
      | none => False) → g v τ H Q)
    (hb : ∀ F H σ τ E, Rl X.K X.mg F H σ τ → OkS X.K X.mg W L σ τ F H E (mb σ) → tb E τ H) (hl : (ts.any fun i => L.contains i) = false)
    (R1 : Rl X.K X.mg F1 H1 σ1 τ) (wk : Wk X.K X.mg F1 J ds) (h : OkS X.K X.mg W L σ1 τ F1 H1 E (forL s mb ds σ1)) :
    ∃ W : Nat → Nat → St → Hp → Prop, (∃ m, W 0 m τ H1) ∧ ∀ i m σ H, W i m σ H →
      (J.stop i H ∧ E.nx σ H) ∨ (J.go i H ∧ ∃ N : St → Hp → Prop, (∀ σ' H', N σ' H' → ∃ m', m' < m ∧ W (i + 1) m' σ' H') ∧ ∀ x H', J.yld i H x H' → g x σ H' fun σ2 H2 => tb { E with nx := N, ct := N, bk := E.nx } σ2 H2) := by
  obtain ⟨G, Y, walk, hG, hY⟩ := wk
  refine for_it walk (fun i τ H => ∃ F' σ', Same F1 F' ∧ Rl X.K X.mg F' H σ' τ ∧ OkS X.K X.mg W L σ' τ F' H E (forL s mb (ds.drop i) σ')) ⟨F1, σ1, Same.refl _, R1, h⟩ (fun i τ H _ ⟨F', σ', fz, R', _⟩ => hG H (fz.trans R'.same)) ?_ ?_
  · rintro i x τ2 H2 H3 hi ⟨F2, σ2, fz, R2, h2⟩ y
    obtain ⟨d, F3, ed, ex, rx⟩ := hY i H2 x H3 F2 hi y fz R2.same
    have R3 := R2.ext ex
    have h3 := OkS.later LK.refl ex.tr h2
    have eq : ds.drop i = d :: ds.drop (i + 1) := by
      have hlt := (List.getElem?_eq_some_iff.mp ed).1
      rw [List.drop_eq_getElem_cons hlt]
      congr 1
      exact (List.getElem?_eq_some_iff.mp ed).2
    rw [eq] at h3
    unfold forL at h3
    refine hg F3 H3 σ2 τ2 d x _ R3 rx ?_
    cases e2 : s d σ2 with
    | none => rw [e2] at h3; exact h3
    | some σ3 =>
      rw [e2] at h3
      intro τ3 R4 o4 w4
      have t4 : Tr (Own σ2 τ2) F3 H3 (Own σ3 τ3) F3 H3 := Tr.refl.weak w4
      have h4 := OkS.later (out_lk o4 hl) t4 h3
      refine hb F3 H3 σ3 τ3 _ R4 ?_
      dsimp only at h4
      cases e3 : mb σ3 with
      | bad => rw [e3] at h4; exact h4
      | ex x σ4 => rw [e3] at h4; exact h4
      | ok f σ4 =>
        rw [e3] at h4
        cases f with
        | nx => exact fun τ' F' H' R' l t => ⟨F', σ4, (fz.trans ex.fz).trans t.fz, R', OkS.later l t h4⟩
        | ct => exact fun τ' F' H' R' l t => ⟨F', σ4, (fz.trans ex.fz).trans t.fz, R', OkS.later l t h4⟩
        | bk => exact h4
        | rt r => exact h4
  · rintro τ2 H2 ⟨F2, σ2, fz, R2, h2⟩
    rw [List.drop_length] at h2
    exact h2 τ2 F2 H2 R2 LK.refl Tr.refl
theorem kD_rep {K : PySem.W.Frag} {mg : Str → Option Value} {F : Hp} (k : Key) : Rep K mg F (kD k) (kV k) := by
  cases k <;> simp only [kD, kV, Rep]
theorem wk_items {K : PySem.W.Frag} {mg : Str → Option Value} {F : Hp} {a : Addr} {od : Obj} {ks : List Key} {xs : List V} {ds : List D} (hF : F a = some (.frz od (.dK (ks.zip xs)))) (hl : ks.length = xs.length) (r : RepL K mg F ds xs) :
    Wk K mg F (Iti a od (ks.zip xs)) (itemsK ks ds) := by
  refine wk_pair walk_items (fun H s => s _ _ hF) (by unfold itemsK; rw [List.length_zipWith, List.length_zip, r.len]) fun i x y hi e1 e2 => ?_
  have hz : (ks.zip xs)[i]? = some (ks.zip xs)[i] := List.getElem?_eq_getElem hi
  rw [hz] at e1 e2
  rw [List.getElem_zip] at e1 e2
  cases e1
  cases e2
  have h2 : i < xs.length := by rw [List.length_zip] at hi; omega
  have h1 : i < ks.length := by rw [List.length_zip] at hi; omega
  obtain ⟨d, h3, h4⟩ := r.get' (List.getElem?_eq_getElem h2)
  refine ⟨kD ks[i], d, ?_, kD_rep _, h4⟩
  unfold itemsK
  rw [List.getElem?_zipWith, List.getElem?_eq_getElem h1, h3]
theorem PS.or {X : Cx} {st : Stmt} {t t' : TS} (h : PS X st t) (h' : PS X st t') : PS X st (fun D σ H => t D σ H ∨ t' D σ H) :=
  ⟨fun pins s σ H D I q => q.elim (h.run pins s σ H D I) (h'.run pins s σ H D I)⟩
theorem OkS.ofNoEx {K : PySem.W.Frag} {mg : Str → Option Value} {σ : List Sl} {τ : List (Option V)} {F H : Hp} {E : Ends} {r : Res Fl} (h : OkS K mg W L σ τ F H E (noEx r)) : OkS K mg W L σ τ F H E r := by
  cases r with
  | ok f σ' => exact h
  | ex e σ' => exact False.elim h
  | bad => exact h
theorem ds_forItems (j : Nat) {x : Str} {px apos cpos tpos : Pos} {elts : List Expr} {kk : Nat} (hp : PassesOwn (model X.prog X.w) X.A X.env X.xe) (hc : X.calm = true) (hN : X.N[j]? = some x) (hvi : Vis X.env.scope x) (hg : DG X ts (.Tuple elts kk tpos) s) (hb : DSs X W L body mb)
    (hl : (ts.any fun i => L.contains i) = false) (hd : (x == ("__debug__" : Str)) = false := by decide +kernel) (hcd : (x == ("__classdict__" : Str)) = false := by decide +kernel)
    (hbase : attributeBase (.Name x px) "items" X.env (eval (.Name x px) X.env) = eval (.Name x px) X.env := by rfl) (hline : (apos.endLine == cpos.line) = true := by rfl)
    (hs : ∀ y, foldedSetIterable (.Call (.Attribute (.Name x px) "items" apos) [] [] cpos) X.env y = pure y := by intro _; rfl) :
    DS X W L (.For (.Tuple elts kk tpos) (.Call (.Attribute (.Name x px) "items" apos) [] [] cpos) body [] pos) (evForItems j s mb) := by
  obtain ⟨g, pg, hg⟩ := hg
  obtain ⟨tb, pb, hb⟩ := hb
  have pf := ps_for (pos := pos) hp hc (pi_items (elts := elts) (kk := kk) (tpos := tpos) (pe_var (pos := px) hN hvi hd hcd) hbase hline) pg pb hs
  refine ⟨_, PS.or (ps_lock pf) pf, fun F H σ τ E R h => ?_⟩
  have main : ∀ F σ0 ks ds v0, Rl X.K X.mg F H σ0 τ → τ[j]? = some (some v0) → Rep X.K X.mg F (.dk ks ds) v0 → OkS X.K X.mg W L σ0 τ F H E (noEx (forL s mb (itemsK ks ds) σ0)) →
      tLock (tFor (iItems (tVar j)) g tb) E τ H ∨ tFor (iItems (tVar j)) g tb E τ H := by
    intro F σ0 ks ds v0 R et rep h
    simp only [Rep] at rep
    obtain ⟨a, xs, rfl, h1, h2, h3⟩ := rep
    rcases h1 with hF | ⟨od, hF⟩
    · have du : IsDk (.dK (ks.zip xs)) := .inl ⟨_, rfl⟩
      refine .inl ⟨a, _, R.same _ _ hF, trivial, fun od => ?_⟩
      refine ⟨_, et, a, od, _, rfl, upd_same, ?_⟩
      have l : Lck F (upd F a (.frz od (.dK (ks.zip xs)))) a (.dK (ks.zip xs)) od := .of du hF
      exact for_core hg hb hl (R.lock du hF) (wk_items upd_same h2 (l.repL h3)) (OkS.lock du hF R.same h)
    · exact .inr ⟨_, et, a, od, _, rfl, R.same _ _ hF, for_core hg hb hl R (wk_items hF h2 h3) h.ofNoEx⟩
  unfold evForItems at h
  cases e : σ[j]? with
  | none => rw [e] at h; exact False.elim h
  | some sl =>
    rw [e] at h
    cases sl with
    | un => exact False.elim h
    | d x =>
      cases x with
      | dk ks ds =>
        obtain ⟨v, h1, h2⟩ := R.val j _ e
        exact main F σ ks ds v R h1 h2 h
      | _ => exact False.elim h
    | o o =>
      cases o with
      | dk ks ds =>
        obtain ⟨a, h1, h2, h3⟩ := R.own j _ e
        obtain ⟨R2, t2⟩ := R.freeze e h1 h2 h3
        exact main _ _ ks ds (.ref a) R2 h1 (OAt.rep h3 h2) (OkS.later LK.refl t2 h)
      | _ => exact False.elim h
end
end DL
namespace DL
open PySem PySem.Spec PyProof.Rows L2
/-- a, b, c = x, y, z of plain local names -/
def evPar3 (i j l : Nat) (m : M (List D)) : M Fl := m.bind fun ds => fun σ => match ds with
  | [x, y, z] => .ok .nx (((σ.set i (.d x)).set j (.d y)).set l (.d z))
  | _ => .bad
theorem ds_par3 {X : Cx} {W : WX} {L : List Nat} (i j l : Nat) {x y z : Str} {a b c : Expr} {ml : M (List D)} {px py pz pt pos : Pos} {kt k2 pt2} (hc : X.calm = true) (hN : X.N.Nodup) (hi : X.N[i]? = some x) (hj : X.N[j]? = some y) (hk : X.N[l]? = some z) (hij : i ≠ j) (hil : i ≠ l) (hjl : j ≠ l)
    (hx : X.env.scope.names.lookup x = some .local) (hy : X.env.scope.names.lookup y = some .local) (hz : X.env.scope.names.lookup z = some .local) (ha : DA X W [a, b, c] ml) (hl : ([i, j, l].any fun i => L.contains i) = false)
    (hw : swappedStores [.Tuple [.Name x px, .Name y py, .Name z pz] kt pt] (.Tuple [a, b, c] k2 pt2) X.env = pure (some [x, y, z]))
    (hs : swapsWithSole [.Tuple [.Name x px, .Name y py, .Name z pz] kt pt] (.Tuple [a, b, c] k2 pt2) pos.line X.env = pure false := by rfl) :
    DS X W L (.Assign [.Tuple [.Name x px, .Name y py, .Name z pz] kt pt] (.Tuple [a, b, c] k2 pt2) pos) (evPar3 i j l ml) := by
  obtain ⟨t, p, ha⟩ := ha
  refine ⟨_, ps_par3 hc hN hi hj hk hij hil hjl hx hy hz p hw hs, fun F H σ τ E R h => ha F H σ τ _ R ?_⟩
  unfold evPar3 M.bind at h
  cases e1 : ml σ with
  | bad => rw [e1] at h; exact h
  | ex x σ1 => rw [e1] at h; exact fun cls dd F' H' R t er => h cls dd τ F' H' R LK.refl t er
  | ok ds σ1 =>
    rw [e1] at h
    intro vs F1 H1 R1 r1 t1
    match ds, h, r1 with
    | [d, d', d2], h, r1 =>
      simp only [RepL] at r1
      obtain ⟨v, _, rfl, q1, w, _, rfl, r2, u, _, rfl, r3, rfl⟩ := r1
      obtain ⟨R2, o2⟩ := R1.put i (r := .d d) (v := v) q1 (fun _ ⟨⟨_, z⟩, _⟩ => nomatch z)
      obtain ⟨R3, o3⟩ := R2.put j (r := .d d') (v := w) r2 (fun _ ⟨⟨_, z⟩, _⟩ => nomatch z)
      obtain ⟨R4, o4⟩ := R3.put l (r := .d d2) (v := u) r3 (fun _ ⟨⟨_, z⟩, _⟩ => nomatch z)
      have ow : ∀ a, Own (((σ1.set i (.d d)).set j (.d d')).set l (.d d2)) (((τ.set i (some v)).set j (some w)).set l (some u)) a → Own σ1 τ a := fun a ha => (o4 a ha).elim (fun q => (o3 a q).elim (fun q => (o2 a q).elim id fun ⟨⟨_, z⟩, _⟩ => nomatch z) fun ⟨⟨_, z⟩, _⟩ => nomatch z) fun ⟨⟨_, z⟩, _⟩ => nomatch z
      refine ⟨v, w, u, rfl, h _ F1 H1 R4 (out_lk (ts := [i, j, l]) ⟨by rw [List.length_set, List.length_set, List.length_set], fun k hk => ?_⟩ hl) (t1.weak ow)⟩
      rw [get_set_ne (fun z => hk (by rw [z]; simp)), get_set_ne (fun z => hk (by rw [z]; simp)), get_set_ne (fun z => hk (by rw [z]; simp))]
    | [], h, _ => exact False.elim h
    | [_], h, _ => exact False.elim h
    | [_, _], h, _ => exact False.elim h
    | _ :: _ :: _ :: _ :: _, h, _ => exact False.elim h
end DL
namespace DL
open PySem PySem.Spec PyProof.Rows L2
section
variable {E : Ex → List Sl → Prop} {σ : List Sl}
theorem w_Par3 {i j l : Nat} {m : M (List D)} {Q : Fl → List Sl → Prop} (h : wp (m σ) E fun ds σ1 => ∃ x y z, ds = [x, y, z] ∧ Q .nx (((σ1.set i (.d x)).set j (.d y)).set l (.d z))) : wp (evPar3 i j l m σ) E Q :=
  wp_bind (wp_mono h (fun ds σ1 h => by
    obtain ⟨x, y, z, rfl, h⟩ := h
    exact wp_ok h) fun _ _ h => h)
theorem w_noEx {r : Res Fl} {Q : Fl → List Sl → Prop} (h : wp r (fun _ _ => False) Q) : wp (noEx r) E Q := by
  rw [wpZ] at h ⊢
  cases r with
  | ok f σ' => exact h
  | ex e σ' => exact h.elim
  | bad => exact h.elim
theorem w_ForItems {j : Nat} {s : D → List Sl → Option (List Sl)} {mb : M Fl} {ks : List Key} {ds : List D} {Q : Fl → List Sl → Prop} (e : σ[j]? = some (.d (.dk ks ds))) (h : wp (forL s mb (itemsK ks ds) σ) (fun _ _ => False) Q) : wp (evForItems j s mb σ) E Q := by
  unfold evForItems
  rw [e]
  exact w_noEx h
theorem w_ForItemsO {j : Nat} {s : D → List Sl → Option (List Sl)} {mb : M Fl} {ks : List Key} {ds : List D} {Q : Fl → List Sl → Prop} (e : σ[j]? = some (.o (.dk ks ds))) (h : wp (forL s mb (itemsK ks ds) (σ.set j (.d (.dk ks ds)))) (fun _ _ => False) Q) : wp (evForItems j s mb σ) E Q := by
  unfold evForItems
  rw [e]
  exact w_noEx h
theorem w_GetP {j : Nat} {me mf : M D} {Q : D → List Sl → Prop} (g : gAt isDct σ j = true) (h : wp (me σ) E fun k σ1 => wp (mf σ1) E fun z σ2 => wp (pkAt (fun c => getDD c k z) j σ2) E Q) : wp (evGetP j me mf σ) E Q := by
  unfold evGetP
  rw [if_pos g]
  exact wp_bind (wp_mono h (fun k σ1 h => wp_bind (wp_mono h (fun z σ2 h => h) fun _ _ h => h)) fun _ _ h => h)
theorem w_Get {mc me mf : M D} {Q : D → List Sl → Prop} (h : wp (mc σ) E fun c σ0 => isDct c = true ∧ wp (me σ0) E fun k σ1 => wp (mf σ1) E fun z σ2 => owp (getDD c k z) fun d => Q d σ2) : wp (evGet mc me mf σ) E Q := by
  unfold evGet
  refine wp_bind (wp_mono h (fun c σ0 h => ?_) fun _ _ h => h)
  rw [if_pos h.1]
  exact wp_bind (wp_mono h.2 (fun k σ1 h => wp_bind (wp_mono h (fun z σ2 h => w_lift h) fun _ _ h => h)) fun _ _ h => h)
end
end DL
namespace DL
open PySem PySem.Spec PyProof.Rows L2
/-! ### {k: v} of two constants -/
def evDK1 (k : Key) (d : D) : M Sl := fun σ => .ok (.o (.dk [k] [d])) σ
theorem upd_again {H : Hp} {p : Addr} {u w : HO} : upd (upd H p u) p w = upd H p w := funext fun b => by
  by_cases e : b = p
  · subst e; rw [upd_same, upd_same]
  · rw [upd_ne e, upd_ne e, upd_ne e]
theorem do_disp1 {X : Cx} {W : WX} {k v : Expr} {pos : Pos} {kk : Key} {d : D} {w : V} (hk : PE X k (tC (kV kk))) (hv : PE X v (tC w)) (hr : ∀ F, Rep X.K X.mg F d w) : DO X W (.Dict [some k] [v] pos) (evDK1 kk d) := by
  refine ⟨_, pe_disp (pps_cons hk hv pps_nil) rfl rfl (by simp) (by simp), fun F H σ τ Q R q p np => ?_⟩
  refine ⟨upd_same, [(kk, w)], rfl, by simp, ?_⟩
  rw [upd_again]
  exact okO q R np ⟨[w], by rw [upd_same]; rfl, rfl, by simp only [RepL]; exact ⟨_, _, rfl, hr _, rfl⟩⟩
end DL
namespace DL
open PySem PySem.Spec PyProof.Rows L2
/-- {"": 1} -/
theorem do_dispSI {X : Cx} {W : WX} {z : Str} {i : Int} {j1 j2 : _} {p1 p2 pos : Pos} : DO X W (.Dict [some (.Constant (.str z) j1 p1)] [.Constant (.int i) j2 p2] pos) (evDK1 (.inr z) (.int i)) :=
  do_disp1 pe_str pe_int fun F => by simp only [Rep]
end DL
namespace DL
open PySem PySem.Spec PyProof.Rows L2
/-! ### for (a, b), c in d.items(), d with tuple keys -/
section
variable {X : Cx} {pins : List (Addr × Obj)} {σ : St} {H : Hp} {s : Shared} {d : Addr} {o : Obj}
theorem frzT2 {kvs : List (List Key × V)} (I : Inv X pins σ H s) (h : H d = some (.frz o (.dT kvs))) :
    (d == sysModules) = false ∧ s.heap.get? d = some o ∧ ∃ (es : Array DictEntry) (ep : Nat), o.data = .dict es ep ∧ s.heap.DictRaw d es ep ∧ es.size = kvs.length ∧
      ∀ (i : Nat) (k : List Key) (v : V) (hi : i < es.size), kvs[i]? = some (k, v) → ∃ (q : Addr), es[i].key = .ref q ∧ H q = some (.tup (k.map kV)) ∧ RelV v es[i].val := by
  obtain ⟨hd, z, hs, xs, pr, o', es, ep, ho, hx, hdt, he, _⟩ := I.hok d _ h
  rw [hd] at ho
  cases ho
  refine ⟨hs, hd, es, ep, hdt, ⟨_, hd, hx, hdt⟩, ?_, fun i k v hi e => ?_⟩
  · have l1 : es.size = xs.length := size_of_entries he
    have l2 : kvs.length = xs.length := Paired.length pr
    omega
  · obtain ⟨b, hb, e1, e2, e3⟩ := paired_get pr e
    have q := entry_at he i
    rw [hb, Array.getElem?_eq_getElem hi] at q
    have q' := Option.some.inj q
    exact ⟨b.2.1, by rw [q']; rfl, e2, by rw [q']; exact e3⟩
end
/-- the pairs: each key's own tuple, its value -/
def ItiT (d : Addr) (o : Obj) (kvs : List (List Key × V)) : It :=
  ⟨fun i H => H d = some (.frz o (.dT kvs)) ∧ i < kvs.length, fun i H x H' => ∃ T k v q, kvs[i]? = some (k, v) ∧ x = .ref T ∧ H T = none ∧ H q = some (.tup (k.map kV)) ∧ H' = upd H T (.tup [.ref q, v]), fun i H => H d = some (.frz o (.dT kvs)) ∧ kvs.length ≤ i⟩
section
variable {P : Program} {w : World} {K : PySem.W.Frag} {tg : Expr} {d : Addr} {o : Obj} {es : Array DictEntry} {ep : Nat}
theorem turn_itemsT {kvs : List (List Key × V)} {elts : List Expr} {kk : Nat} {tpos : Pos} (it : Addr) (hod : o.data = .dict es ep) :
    Turn P w K (.Tuple elts kk tpos) (ItiT d o kvs) [it] it (fun i h => ∃ ok ov, IsItemIter h it d i kvs.length ep ok ov) where
  mem := by simp
  obj := fun i h st b hb => by
    have e : b = it := by simpa using hb
    subst e
    obtain ⟨ok, ov, e⟩ := st
    exact ⟨_, e, fun v z => nomatch z⟩
  keep := fun i h h' st k => let ⟨ok, ov, e⟩ := st; ⟨ok, ov, k it (by simp) _ e⟩
  item := by
    intro X hP hw hK hc i pins s σ H E I hf st hg
    subst hP hw hK
    obtain ⟨hd, hi⟩ := hg
    obtain ⟨hs, hgd, es', ep', hdt, hr, hsz, ent⟩ := frzT2 I hd
    obtain ⟨rfl, rfl⟩ := dict_ep hod hdt
    obtain ⟨⟨k, v⟩, hkv⟩ : ∃ p, kvs[i]? = some p := ⟨kvs[i], List.getElem?_eq_getElem hi⟩
    rw [← hsz] at hi
    obtain ⟨q, hkey, hq, ru⟩ := ent i k v hi hkv
    obtain ⟨ok, ov, he⟩ := st
    rw [← hsz] at he
    have hlt : it < s.heap.objs.size := Heap.lt_size he
    refine wpAny_pyNext_items_item_raw he hr hi fun h' ho hT hz hk => ?_
    refine ⟨_, rfl, wpAny_letOwnedTupleGo_items (s := { s with heap := h' }) ho fun h'' he' sb => ?_⟩
    have hT2 := (sb.2 _ (Nat.ne_of_gt hlt)).trans hT
    have new : ObjOk X.prog X.w (upd H s.heap.objs.size (.tup [.ref q, v])) h'' s.heap.objs.size (.tup [.ref q, v]) :=
      ⟨by show 2 ≤ sizeLine; decide, [_, _], .cons hkey (.cons ru .nil), ⟨_, hT2, rfl, _, rfl⟩⟩
    have I1 : Inv X pins σ (upd H s.heap.objs.size (.tup [.ref q, v])) { s with heap := h'' } :=
      I.turnedNew (t' := s.toks) (ch := [it]) (fun b ob hb e => (sb.2 b (by simpa using hb)).trans (hk b ob (by simpa using hb) e)) hf (Nat.le_refl _) new
    refine ⟨.ref s.heap.objs.size, _, I1, rfl, ⟨_, k, v, q, hkv, rfl, I.hok.fresh (Nat.le_refl _), hq, rfl⟩, ⟨es'[i].key, es'[i].val, by rw [← hsz]; exact he'⟩, fun b hb => ?_⟩
    · have e : b = it := by simpa using hb
      rw [e, upd_ne (Nat.ne_of_lt hlt)]
      exact (hf it (by simp)).1
  done := by
    intro X hP hw hK hc i pins s σ H E I hf st hg
    subst hP hw hK
    obtain ⟨hd, hi⟩ := hg
    obtain ⟨f0, f1, f2, f3, f4, f5⟩ := hf it (by simp)
    obtain ⟨hs, hgd, es', ep', hdt, hr, hsz, ent⟩ := frzT2 I hd
    obtain ⟨rfl, rfl⟩ := dict_ep hod hdt
    obtain ⟨ok, ov, he⟩ := st
    rw [← hsz] at he hi
    exact wpAny_pyNext_items_end_raw (I.ok.hd hc) he hr hi fun h' eb => ⟨rfl, I.turned (t' := s.toks) (fun b ob hb e => eb b ob hb e) f0 f1 f3 f4 f5⟩
  self := fun A i s Q E st h => let ⟨_, _, e⟩ := st; PySem.W.kcp_self e h
end
def iItemsT (td : TE) : TI := fun σ H R => td σ H fun x H1 => ∃ d o kvs, x = .ref d ∧ H1 d = some (.frz o (.dT kvs)) ∧ R (ItiT d o kvs) H1
theorem pi_itemsT {X : Cx} {e : Expr} {td : TE} {apos cpos : Pos} {elts : List Expr} {kk : Nat} {tpos : Pos} (he : PE X e td) (hbase : attributeBase e "items" X.env (eval e X.env) = eval e X.env := by rfl) (hline : (apos.endLine == cpos.line) = true := by rfl) :
    PI X (.Tuple elts kk tpos) (.Call (.Attribute e "items" apos) [] [] cpos) (iItemsT td) := by
  refine ⟨fun pins s σ H R I h => ?_⟩
  refine wpAny_Call_method (T := "dict") (id := "dict.items") hbase rfl hline F.plainAttrs_dict F.slot_dict_items F.type_dict_items (thn (he.run pins s σ H _ I h) fun u s1 ⟨x, H1, I1, rx, d, o, kvs, ex, hd, q⟩ => ?_)
  subst ex
  obtain rfl : u = Value.ref d := rx
  obtain ⟨hs, hgd, es, ep, hdt, hr, hsz, ent⟩ := frzT2 I1 hd
  refine ⟨hr.typeIs, fun b q => by
    cases q
    obtain ⟨ob, h1, h2, _⟩ := hr
    exact ⟨ob, h1, h2.2.1⟩, ?_⟩
  have I2 : Inv X pins σ H1 { s1 with heap := s1.heap.push { cls := .type "dict_items", data := .fields #[.ref d] } } := I1.kept (t' := s1.toks) fun b ob q => Heap.get?_push_of_some _ q
  have hr2 : (s1.heap.push { cls := .type "dict_items", data := .fields #[.ref d] }).DictRaw d es ep := hr.at fun o q => Heap.get?_push_of_some _ q
  have fin : wpAny (model X.prog X.w) X.A (pyIter (.ref s1.heap.objs.size)) (PIE X pins σ (.Tuple elts kk tpos) R) X.xe { s1 with heap := s1.heap.push { cls := .type "dict_items", data := .fields #[.ref d] } } := by
    refine wpAny_pyIter_items_raw (d := d) ⟨_, Heap.get?_push_size _ rfl, rfl, rfl⟩ hr2 (pi_one (tk := s1.toks) I2 _ (turn_itemsT _ hdt) ⟨.none, .none, ?_⟩ q)
    rw [← hsz]
    exact Heap.get?_push_size _ rfl
  show wpAny _ _ (callWith cpos (.builtin "dict.items") [.ref d] [] []) _ X.xe s1
  exact method_meetsIn F.slot_dict_items F.entry_dict_items rfl (PySem.evalArgs_none ⟨rfl, hr.typeIs, F.args_dict_items_1 _, _, meets_dict_items_raw d hs, ⟨es, ep, hr⟩, fin⟩)
theorem walk_itemsT {d : Addr} {o : Obj} {kvs : List (List Key × V)} : Walk (ItiT d o kvs) kvs.length (fun H => H d = some (.frz o (.dT kvs)))
    (fun i H x H' => ∃ T k v q, kvs[i]? = some (k, v) ∧ x = .ref T ∧ H T = none ∧ H q = some (.tup (k.map kV)) ∧ H' = upd H T (.tup [.ref q, v])) :=
  ⟨fun _ _ hi q => ⟨q, hi⟩, fun _ q => ⟨q, Nat.le_refl _⟩, fun _ _ _ _ _ _ y => y⟩
end DL
namespace DL
open PySem PySem.Spec PyProof.Rows L2
/-! ### Tour: two dicts of int to int in the fields of an instance -/
abbrev T2 := List (Int × Int)
def mkV (l : T2) : List (Key × V) := l.map fun kv => (.inl kv.1, .int kv.2)
def getI (l : T2) (k : Int) : Option Int := (l.find? fun kv => decide (kv.1 = k)).map (·.2)
def putI (l : T2) (k v : Int) : T2 := if (l.any fun kv => decide (kv.1 = k)) = true then l.map (fun kv => if kv.1 = k then (kv.1, v) else kv) else l ++ [(k, v)]
theorem inl_dec {a b : Int} : decide ((Sum.inl a : Key) = .inl b) = decide (a = b) := by
  by_cases h : a = b
  · subst h; rw [decide_eq_true rfl, decide_eq_true rfl]
  · rw [decide_eq_false h, decide_eq_false fun z => h (Sum.inl.inj z)]
theorem valV_mk {k : Int} : ∀ {l : T2}, valV (mkV l) (.inl k) = (getI l k).map .int
  | [] => rfl
  | kv :: l => by
    unfold mkV getI
    rw [List.map_cons, List.find?_cons]
    by_cases h : kv.1 = k
    · rw [valV_pos (by rw [h]), decide_eq_true h]; rfl
    · rw [valV_neg (fun z => h (Sum.inl.inj z)), decide_eq_false h]
      exact valV_mk (l := l)
theorem any_mk {k : Int} (l : T2) : ((mkV l).any fun kv => decide (kv.1 = (.inl k : Key))) = l.any fun kv => decide (kv.1 = k) := by
  unfold mkV
  rw [List.any_map]
  congr 1
  funext kv
  exact inl_dec
theorem putK_mk {k v : Int} (l : T2) : putK (mkV l) (.inl k) (.int v) = mkV (putI l k v) := by
  unfold putK putI
  rw [any_mk]
  split
  · unfold mkV
    rw [List.map_map, List.map_map]
    congr 1
    funext kv
    show (if (Sum.inl kv.1 : Key) = .inl k then _ else _) = _
    by_cases h : kv.1 = k
    · rw [if_pos (by rw [h])]
      show _ = ((Sum.inl ((if kv.1 = k then (kv.1, v) else kv)).1 : Key), V.int ((if kv.1 = k then (kv.1, v) else kv)).2)
      rw [if_pos h]
    · rw [if_neg (fun z => h (Sum.inl.inj z))]
      show _ = ((Sum.inl ((if kv.1 = k then (kv.1, v) else kv)).1 : Key), V.int ((if kv.1 = k then (kv.1, v) else kv)).2)
      rw [if_neg h]
  · unfold mkV
    rw [List.map_append]; rfl
theorem mkV_len (l : T2) : (mkV l).length = l.length := by unfold mkV; rw [List.length_map]
theorem putI_len (l : T2) (k v : Int) : (putI l k v).length ≤ l.length + 1 := by
  unfold putI
  split
  · rw [List.length_map]; omega
  · rw [List.length_append]; simp
abbrev Ed := (Int × Int) × Int
def lookP (fb : T2 × T2) (e : Ed) : T2 × T2 := match getI fb.1 e.1.1 with
  | none => fb
  | some w => match getI fb.1 e.1.2 with
    | some u => if w + e.2 < u then (putI fb.1 e.1.2 (w + e.2), putI fb.2 e.1.2 e.1.1) else fb
    | none => (putI fb.1 e.1.2 (w + e.2), putI fb.2 e.1.2 e.1.1)
theorem lookP_len (fb : T2 × T2) (e : Ed) : (lookP fb e).1.length ≤ fb.1.length + 1 ∧ (lookP fb e).2.length ≤ fb.2.length + 1 := by
  unfold lookP
  have h1 := putI_len fb.1
  have h2 := putI_len fb.2
  split
  · omega
  · split
    · split
      · exact ⟨h1 _ _, h2 _ _⟩
      · omega
    · exact ⟨h1 _ _, h2 _ _⟩
def roundP (es : List Ed) (fb : T2 × T2) : T2 × T2 := es.foldl lookP fb
def tourP (es : List Ed) : Nat → T2 × T2 → T2 × T2
  | 0, fb => fb
  | n + 1, fb => roundP es (tourP es n fb)
theorem round_len : ∀ (es : List Ed) (fb : T2 × T2) (m : Nat), fb.1.length ≤ m → fb.2.length ≤ m → (roundP es fb).1.length ≤ m + es.length ∧ (roundP es fb).2.length ≤ m + es.length
  | [], fb, m, h1, h2 => ⟨h1, h2⟩
  | e :: es, fb, m, h1, h2 => by
    have h := lookP_len fb e
    have := round_len es (lookP fb e) (m + 1) (by omega) (by omega)
    unfold roundP at this ⊢
    rw [List.foldl_cons, List.length_cons]
    omega
theorem tour_len (es : List Ed) (fb : T2 × T2) (m : Nat) (h1 : fb.1.length ≤ m) (h2 : fb.2.length ≤ m) : ∀ n, (tourP es n fb).1.length ≤ m + n * es.length ∧ (tourP es n fb).2.length ≤ m + n * es.length
  | 0 => by rw [Nat.zero_mul]; exact ⟨h1, h2⟩
  | n + 1 => by
    have h := tour_len es fb m h1 h2 n
    have := round_len es (tourP es n fb) _ h.1 h.2
    rw [Nat.succ_mul, ← Nat.add_assoc]
    exact this
/-! look -/
abbrev fFar : Str := "far"
abbrev fBef : Str := "before"
abbrev lookP2 (K : PySem.W.Frag) : TS := tSeq (sDPut (tFld K (tVar 0) fFar) (tVar 2) (tVar 4)) (sDPut (tFld K (tVar 0) fBef) (tVar 2) (tVar 1))
abbrev lookI2 (K : PySem.W.Frag) : TS := tIfS (tOr (tB (tDNotIn (tVar 2) (tFld K (tVar 0) fFar))) (tB (tLt (tVar 4) (tDGet (tFld K (tVar 0) fFar) (tVar 2))))) (lookP2 K) tNext
abbrev lookI1 (K : PySem.W.Frag) : TS := tIfS (tB (tDIn (tVar 1) (tFld K (tVar 0) fFar))) (tSeq (tAsg (tAdd (tDGet (tFld K (tVar 0) fFar) (tVar 1)) (tVar 3)) (gName 4)) (lookI2 K)) tNext
abbrev lookT (K : PySem.W.Frag) : TS := tSeq tNext (lookI1 K)
/-- the instance at x, its dicts at p and q -/
structure TAt (K : PySem.W.Frag) (H : Hp) (C x p q : Addr) (fb : T2 × T2) : Prop where
  c : Cls K C
  n1 : NoAttr K C fFar
  n2 : NoAttr K C fBef
  ix : ∃ dx, H x = some (.ins C dx [(fFar, .ref p), (fBef, .ref q)])
  hp : H p = some (.dK (mkV fb.1))
  hq : H q = some (.dK (mkV fb.2))
  ne : p ≠ q
def setT (H : Hp) (p q : Addr) (fb : T2 × T2) : Hp := upd (upd H p (.dK (mkV fb.1))) q (.dK (mkV fb.2))
theorem upd_eq {H : Hp} {a : Addr} {u : HO} (h : H a = some u) : upd H a u = H := funext fun b => by
  by_cases e : b = a
  · subst e; rw [upd_same, h]
  · rw [upd_ne e]
theorem upd_comm {H : Hp} {a b : Addr} {u w : HO} (h : a ≠ b) : upd (upd H a u) b w = upd (upd H b w) a u := funext fun c => by
  by_cases e : c = b
  · subst e; rw [upd_same, upd_ne (fun z => h z.symm), upd_same]
  · rw [upd_ne e]
    by_cases e2 : c = a
    · subst e2; rw [upd_same, upd_same]
    · rw [upd_ne e2, upd_ne e2, upd_ne e]
section
variable {K : PySem.W.Frag} {H : Hp} {C x p q : Addr} {fb : T2 × T2}
theorem TAt.xp (t : TAt K H C x p q fb) : x ≠ p := fun z => by
  obtain ⟨dx, h⟩ := t.ix
  rw [z, t.hp] at h; cases h
theorem TAt.xq (t : TAt K H C x p q fb) : x ≠ q := fun z => by
  obtain ⟨dx, h⟩ := t.ix
  rw [z, t.hq] at h; cases h
theorem TAt.same (t : TAt K H C x p q fb) : setT H p q fb = H := by
  unfold setT
  rw [upd_eq t.hp, upd_eq t.hq]
theorem TAt.set (t : TAt K H C x p q fb) (fb' : T2 × T2) : TAt K (setT H p q fb') C x p q fb' := by
  obtain ⟨dx, h⟩ := t.ix
  refine ⟨t.c, t.n1, t.n2, ⟨dx, ?_⟩, ?_, ?_, t.ne⟩
  · unfold setT
    rw [upd_ne t.xq, upd_ne t.xp]; exact h
  · unfold setT
    rw [upd_ne t.ne, upd_same]
  · unfold setT
    rw [upd_same]
theorem TAt.far (t : TAt K H C x p q fb) {τ : St} (h0 : τ[0]? = some (some (.ref x))) {Q : VK} (h : Q (.ref p) H) : tFld K (tVar 0) fFar τ H Q := by
  obtain ⟨dx, hx⟩ := t.ix
  exact ⟨_, h0, x, C, dx, _, .ref p, rfl, hx, t.c, t.n1, rfl, h⟩
theorem TAt.bef (t : TAt K H C x p q fb) {τ : St} (h0 : τ[0]? = some (some (.ref x))) {Q : VK} (h : Q (.ref q) H) : tFld K (tVar 0) fBef τ H Q := by
  obtain ⟨dx, hx⟩ := t.ix
  exact ⟨_, h0, x, C, dx, _, .ref q, rfl, hx, t.c, t.n2, rfl, h⟩
theorem TAt.get (t : TAt K H C x p q fb) (k : Int) : DGet H p (.int k) ((getI fb.1 k).map .int) := by
  rw [← valV_mk]
  exact DGet.k (k := .inl k) t.hp
theorem TAt.put (t : TAt K H C x p q fb) (hl : fb.1.length < sizeLine) (k v : Int) : DPut H p (.int k) (.int v) (upd H p (.dK (mkV (putI fb.1 k v)))) := by
  rw [← putK_mk]
  exact DPut.k (k := .inl k) t.hp (by rw [mkV_len]; exact hl)
theorem isSome_map {o : Option Int} : (o.map V.int).isSome = o.isSome := by cases o <;> rfl
theorem look_t (t : TAt K H C x p q fb) (h1 : fb.1.length < sizeLine) (h2 : fb.2.length < sizeLine) {pl ot co : Int} {E : Ends} (h : ∀ τ', E.nx τ' (setT H p q (lookP fb ((pl, ot), co)))) :
    lookI1 K E [some (.ref x), some (.int pl), some (.int ot), some (.int co), none] H := by
  show lookI1 K E _ H
  refine ⟨.int pl, rfl, t.far rfl ⟨p, _, rfl, t.get pl, _, rfl, ?_⟩⟩
  rw [isSome_map]
  cases e : getI fb.1 pl with
  | none =>
    rw [if_neg (by simp)]
    have e1 : lookP fb ((pl, ot), co) = fb := by unfold lookP; dsimp only; rw [e]
    rw [e1, t.same] at h
    exact h _
  | some w =>
    rw [if_pos (by simp)]
    unfold tSeq tAsg tAdd t2I tDGet
    dsimp only
    refine t.far rfl ⟨.int pl, rfl, p, .int w, rfl, ?_, .int co, rfl, w, co, rfl, rfl, ?_⟩
    · have g := t.get pl
      rw [e] at g
      exact g
    show lookI2 K E [some (.ref x), some (.int pl), some (.int ot), some (.int co), some (.int (w + co))] H
    have stored : lookP fb ((pl, ot), co) = (putI fb.1 ot (w + co), putI fb.2 ot pl) → lookP2 K E [some (.ref x), some (.int pl), some (.int ot), some (.int co), some (.int (w + co))] H := fun el => by
      refine ⟨.int (w + co), rfl, t.far rfl ⟨.int ot, rfl, p, _, rfl, t.put h1 ot (w + co), ?_⟩⟩
      have t1 : TAt K (upd H p (.dK (mkV (putI fb.1 ot (w + co))))) C x p q (putI fb.1 ot (w + co), fb.2) := by
        obtain ⟨dx, hx⟩ := t.ix
        exact ⟨t.c, t.n1, t.n2, ⟨dx, by rw [upd_ne t.xp]; exact hx⟩, upd_same, by rw [upd_ne (fun z => t.ne z.symm)]; exact t.hq, t.ne⟩
      refine ⟨.int pl, rfl, t1.bef rfl ⟨.int ot, rfl, q, _, rfl, DPut.k (k := .inl ot) t1.hq (by rw [mkV_len]; exact h2), ?_⟩⟩
      rw [show (putK (mkV fb.2) (.inl ot) (.int pl)) = mkV (putI fb.2 ot pl) from putK_mk fb.2]
      rw [el] at h
      exact h _
    refine ⟨.int ot, rfl, t.far rfl ⟨p, _, rfl, t.get ot, _, rfl, ?_⟩⟩
    rw [isSome_map]
    cases e2 : getI fb.1 ot with
    | none =>
      exact stored (by unfold lookP; dsimp only; rw [e]; dsimp only; rw [e2])
    | some u =>
      rw [if_neg (by simp)]
      refine ⟨.int (w + co), rfl, t.far rfl ⟨.int ot, rfl, p, .int u, rfl, ?_, w + co, u, rfl, rfl, _, rfl, ?_⟩⟩
      · have g := t.get ot
        rw [e2] at g
        exact g
      by_cases hc : w + co < u
      · dsimp only
        rw [if_pos (decide_eq_true hc)]
        exact stored (by unfold lookP; dsimp only; rw [e]; dsimp only; rw [e2]; dsimp only; rw [if_pos hc])
      · dsimp only
        rw [if_neg (by rw [decide_eq_false hc]; decide)]
        have e1 : lookP fb ((pl, ot), co) = fb := by unfold lookP; dsimp only; rw [e]; dsimp only; rw [e2]; dsimp only; rw [if_neg hc]
        rw [e1, t.same] at h
        exact h _
end
def spLook (K : PySem.W.Frag) : Sp := fun vs H Q _ => ∃ C x p q fb, ∃ pl ot co : Int, vs = [.ref x, .int pl, .int ot, .int co] ∧ TAt K H C x p q fb ∧ fb.1.length < sizeLine ∧ fb.2.length < sizeLine ∧ Q .non (setT H p q (lookP fb ((pl, ot), co)))
end DL
namespace DL
open PySem PySem.Spec PyProof.Rows L2
/-! ### Tour.__init__ -/
def edgesOf : List (List Key) → List D → Option (List Ed)
  | [], [] => some []
  | [.inl a, .inl b] :: ks, .int c :: ds => (edgesOf ks ds).map fun r => ((a, b), c) :: r
  | _, _ => none
def dkI (l : T2) : D := .dk (l.map fun kv => .inl kv.1) (l.map fun kv => .int kv.2)
theorem zip_mk : ∀ l : T2, mkV l = (l.map fun kv => (.inl kv.1 : Key)).zip (l.map fun kv => V.int kv.2)
  | [] => rfl
  | a :: l => by
    rw [List.map_cons, List.map_cons, List.zip_cons_cons, ← zip_mk l]; rfl
theorem repL_mk {K : PySem.W.Frag} {mg : Str → Option Value} {F : Hp} : ∀ l : T2, RepL K mg F (l.map fun kv => D.int kv.2) (l.map fun kv => V.int kv.2)
  | [] => by rw [List.map_nil, List.map_nil]; simp only [RepL]
  | a :: l => by
    rw [List.map_cons, List.map_cons]
    exact ⟨_, _, rfl, rfl, repL_mk l⟩
theorem dkI_rep {K : PySem.W.Frag} {mg : Str → Option Value} {F : Hp} {p : Addr} {l : T2} (h : F p = some (.dK (mkV l))) : Rep K mg F (dkI l) (.ref p) := by
  unfold dkI
  simp only [Rep]
  exact ⟨p, l.map fun kv => .int kv.2, rfl, .inl (by rw [h, zip_mk]), by rw [List.length_map, List.length_map], repL_mk l⟩
theorem edges_get {K : PySem.W.Frag} {mg : Str → Option Value} {F : Hp} : ∀ {ks : List (List Key)} {ds : List D} {xs : List V} {es : List Ed}, edgesOf ks ds = some es → RepL K mg F ds xs → es.length = (ks.zip xs).length ∧
    ∀ (i : Nat) (k : List Key) (v : V), (ks.zip xs)[i]? = some (k, v) → ∃ a b c : Int, es[i]? = some ((a, b), c) ∧ k = [.inl a, .inl b] ∧ v = .int c := by
  intro ks
  induction ks with
  | nil =>
    intro ds xs es h r
    cases ds with
    | nil =>
      cases h
      simp only [RepL] at r
      subst r
      exact ⟨rfl, fun i k v z => by cases z⟩
    | cons d ds => cases h
  | cons k ks ih =>
    intro ds xs es h r
    unfold edgesOf at h
    split at h
    · rename_i e1
      cases e1
    · rename_i a b ks' c ds' e1
      cases e1
      obtain ⟨r', h2, rfl⟩ := Option.map_eq_some_iff.mp h
      simp only [RepL] at r
      obtain ⟨x, q, rfl, hx, r⟩ := r
      obtain ⟨hl, hg⟩ := ih h2 r
      refine ⟨by rw [List.zip_cons_cons, List.length_cons, List.length_cons, hl], fun i k v z => ?_⟩
      cases i with
      | zero =>
        cases z
        exact ⟨a, b, c, rfl, rfl, hx⟩
      | succ i => exact hg i k v (by simpa using z)
    · cases h
/-- what the loops are -/
def gEdge (K : PySem.W.Frag) : TG := gTup K 2 (gCons (gTup K 2 (gCons (gName 6) (gCons (gName 7) gNil))) (gCons (gName 8) gNil))
def lookCall (C : Addr) (K : PySem.W.Frag) : TS := tSeq (tDrop (tMeth C "look" (spLook K) [] (fun _ _ _ => False) (tVar 0) (tCons (tVar 6) (tCons (tVar 7) (tCons (tVar 8) tNil))))) tNext
def lookCall1 (C : Addr) (K : PySem.W.Frag) : TS := tDrop (tMeth C "look" (spLook K) [] (fun _ _ _ => False) (tVar 0) (tCons (tVar 6) (tCons (tVar 7) (tCons (tVar 8) tNil))))
def innerT (C : Addr) (K : PySem.W.Frag) : TS := tFor (iItemsT (tVar 4)) (gEdge K) (lookCall1 C K)
/-- all but p and q as it was -/
def Ag (p q : Addr) (H H' : Hp) : Prop := ∀ b o, b ≠ p → b ≠ q → H b = some o → H' b = some o
theorem Ag.refl {p q : Addr} {H : Hp} : Ag p q H H := fun _ _ _ _ h => h
theorem Ag.trans {p q : Addr} {H H1 H2 : Hp} (a : Ag p q H H1) (b : Ag p q H1 H2) : Ag p q H H2 := fun c o h1 h2 h => b c o h1 h2 (a c o h1 h2 h)
theorem Ag.set {p q : Addr} {H : Hp} {fb : T2 × T2} : Ag p q H (setT H p q fb) := fun c o h1 h2 h => by
  unfold setT
  rw [upd_ne h2, upd_ne h1]
  exact h
theorem TAt.ag {K : PySem.W.Frag} {H H' : Hp} {C x p q : Addr} {fb fb' : T2 × T2} (t : TAt K H C x p q fb) (a : Ag p q H H') (hp : H' p = some (.dK (mkV fb'.1))) (hq : H' q = some (.dK (mkV fb'.2))) : TAt K H' C x p q fb' := by
  obtain ⟨dx, hx⟩ := t.ix
  exact ⟨t.c, t.n1, t.n2, ⟨dx, a _ _ t.xp t.xq hx⟩, hp, hq, t.ne⟩
/-- slots below 5 as they were -/
def Lo (τ τ' : St) : Prop := τ'.length = τ.length ∧ ∀ i, i < 5 → τ'[i]? = τ[i]?
theorem Lo.refl {τ : St} : Lo τ τ := ⟨rfl, fun _ _ => rfl⟩
theorem Lo.trans {τ τ1 τ2 : St} (a : Lo τ τ1) (b : Lo τ1 τ2) : Lo τ τ2 := ⟨b.1.trans a.1, fun i h => (b.2 i h).trans (a.2 i h)⟩
theorem Lo.set {τ : St} {i : Nat} {v : Option V} (h : 5 ≤ i) : Lo τ (τ.set i v) := ⟨List.length_set .., fun j hj => List.getElem?_set_ne (by omega)⟩
section
variable {K : PySem.W.Frag} {C x p q c : Addr}
theorem tk_succ {es : List Ed} {i : Nat} {e : Ed} (h : es[i]? = some e) (fb : T2 × T2) : roundP (es.take (i + 1)) fb = lookP (roundP (es.take i) fb) e := by
  unfold roundP
  rw [List.take_succ, h, List.foldl_append]; rfl
theorem inner_t {H : Hp} {τ : St} {fb : T2 × T2} {es : List Ed} {od : Obj} {kvs : List (List Key × V)} {E : Ends} (hτ : τ.length = 9) (t : TAt K H C x p q fb) (h0 : τ[0]? = some (some (.ref x))) (h4 : τ[4]? = some (some (.ref c))) (hc : H c = some (.frz od (.dT kvs)))
    (hl : es.length = kvs.length) (hg : ∀ (i : Nat) (k : List Key) (v : V), kvs[i]? = some (k, v) → ∃ a b c : Int, es[i]? = some ((a, b), c) ∧ k = [.inl a, .inl b] ∧ v = .int c)
    (m : Nat) (h1 : fb.1.length ≤ m) (h2 : fb.2.length ≤ m) (hm : m + es.length < sizeLine)
    (h : ∀ τ' H', Lo τ τ' → TAt K H' C x p q (roundP es fb) → Ag p q H H' → E.nx τ' H') : innerT C K E τ H := by
  have cp : c ≠ p := fun z => by rw [z, t.hp] at hc; cases hc
  have cq : c ≠ q := fun z => by rw [z, t.hq] at hc; cases hc
  refine ⟨_, h4, c, od, kvs, rfl, hc, ?_⟩
  refine for_it walk_itemsT (fun i τ' H' => Lo τ τ' ∧ TAt K H' C x p q (roundP (es.take i) fb) ∧ Ag p q H H') ⟨Lo.refl, t, Ag.refl⟩ (fun i τ' H' _ ⟨_, _, a⟩ => a c _ cp cq hc) ?_ ?_
  · rintro i v0 τ1 H1 H2 hi ⟨lo, t1, ag⟩ ⟨T, k, v, q0, hk, rfl, hT, hq0, rfl⟩
    obtain ⟨a, b, co, he, rfl, rfl⟩ := hg i k v hk
    have q0T : q0 ≠ T := fun z => by rw [z, hT] at hq0; cases hq0
    have lt1 : τ1.length = 9 := lo.1.trans hτ
    refine ⟨T, [.ref q0, .int co], rfl, .inl (.inl upd_same), rfl, _, _, rfl, ⟨q0, [.int a, .int b], rfl, .inl (.inl (by rw [upd_ne q0T]; exact hq0)), rfl, _, _, rfl, _, _, rfl, rfl, ?_⟩⟩
    refine ⟨_, _, rfl, rfl, ?_⟩
    have pT : p ≠ T := fun z => by
      have := t1.hp
      rw [z, hT] at this; cases this
    have qT : q ≠ T := fun z => by
      have := t1.hq
      rw [z, hT] at this; cases this
    have xT : x ≠ T := fun z => by
      obtain ⟨dx, this⟩ := t1.ix
      rw [z, hT] at this; cases this
    have ag2 : Ag p q H1 (upd H1 T (.tup [.ref q0, .int co])) := fun b o _ _ hb => by
      rw [upd_ne (fun z => by rw [z, hT] at hb; cases hb)]; exact hb
    have t2 : TAt K (upd H1 T (.tup [.ref q0, .int co])) C x p q (roundP (es.take i) fb) := t1.ag ag2 (by rw [upd_ne pT]; exact t1.hp) (by rw [upd_ne qT]; exact t1.hq)
    have lo2 : Lo τ (((τ1.set 6 (some (.int a))).set 7 (some (.int b))).set 8 (some (.int co))) := ((lo.trans (Lo.set (by omega))).trans (Lo.set (by omega))).trans (Lo.set (by omega))
    have g0 : (((τ1.set 6 (some (.int a))).set 7 (some (.int b))).set 8 (some (.int co)))[0]? = some (some (V.ref x)) := (lo2.2 0 (by omega)).trans h0
    have g6 : (((τ1.set 6 (some (V.int a))).set 7 (some (.int b))).set 8 (some (.int co)))[6]? = some (some (V.int a)) := by
      rw [List.getElem?_set_ne (by omega), List.getElem?_set_ne (by omega), List.getElem?_set_self (by omega)]
    have g7 : (((τ1.set 6 (some (V.int a))).set 7 (some (.int b))).set 8 (some (.int co)))[7]? = some (some (V.int b)) := by
      rw [List.getElem?_set_ne (by omega), List.getElem?_set_self (by rw [List.length_set]; omega)]
    have g8 : (((τ1.set 6 (some (V.int a))).set 7 (some (.int b))).set 8 (some (.int co)))[8]? = some (some (V.int co)) := by
      rw [List.getElem?_set_self (by rw [List.length_set, List.length_set]; omega)]
    obtain ⟨dx, hx⟩ := t2.ix
    have ln := round_len (es.take i) fb m h1 h2
    have lt : (es.take i).length ≤ es.length := by rw [List.length_take]; omega
    refine ⟨_, g0, x, dx, _, rfl, hx, rfl, _, g6, _, g7, _, g8, C, x, p, q, roundP (es.take i) fb, a, b, co, rfl, t2, by omega, by omega, ?_⟩
    refine ⟨lo2, ?_, ag.trans (ag2.trans Ag.set)⟩
    rw [tk_succ he]
    exact t2.set _
  · rintro τ1 H1 ⟨lo, t1, ag⟩
    rw [← hl, List.take_length] at t1
    exact h _ _ lo t1 ag
end
end DL
namespace DL
open PySem PySem.Spec PyProof.Rows L2
/-! ### Tour.__init__, whole -/
abbrev cTour : Str := "Tour"
def innerO (C : Addr) (K : PySem.W.Frag) : TS := fun D σ H => tLock (innerT C K) D σ H ∨ innerT C K D σ H
def tourO (fb : T2 × T2) : O := .ins cTour [fFar, fBef] [dkI fb.1, dkI fb.2]
def evTour (m3 : M D) (m4 : M (List D)) : M Fl := fun σ => match (σ : List Sl) with
  | .o (.ins c [] []) :: s1 :: s2 :: .d (.int st) :: r => if c = cTour ∧ r.length = 5 then
     (match (m3 (.un :: s1 :: s2 :: .d (.int st) :: r) : Res D) with
     | .ok x σ1 => (match (m4 (σ1.set 4 (.d x)) : Res (List D)) with
        | .ok ds σ2 => (match (σ2[4]? : Option Sl) with
            | some (.d (.dt ks vs)) => (match edgesOf ks vs with
               | some es => if 1 + ds.length * es.length < szMax then .ok .nx (((((σ2.set 5 .un).set 6 .un).set 7 .un).set 8 .un).set 0 (.o (tourO (tourP es ds.length ([(st, 0)], []))))) else .bad
               | none => .bad)
            | _ => .bad)
        | _ => .bad)
     | _ => .bad) else .bad
  | _ => .bad
section
variable {K : PySem.W.Frag} {mg : Str → Option Value} {F H H' : Hp} {σ : List Sl} {τ τ' : List (Option V)}
theorem Rl.mod (R : Rl K mg F H σ τ) (s : Same F H') (k : ∀ a, Own σ τ a → ∀ u, H a = some u → H' a = some u) : Rl K mg F H' σ τ :=
  ⟨R.len, s, R.val, fun i o e => let ⟨a, h1, h2, h3⟩ := R.own i o e; ⟨a, h1, h2.same (Same.refl _) (k a ⟨i, o, e, h1⟩), h3⟩, R.inj⟩
theorem Rl.outS (R : Rl K mg F H σ τ) (hl : τ'.length = τ.length) (h : ∀ (i : Nat) (s : Sl), σ[i]? = some s → s ≠ .un → τ'[i]? = τ[i]?) : Rl K mg F H σ τ' ∧ ∀ a, Own σ τ' a → Own σ τ a := by
  refine ⟨⟨R.len.trans hl.symm, R.same, fun i d e => ?_, fun i o e => ?_, fun i j o o' a e1 e2 t1 t2 => ?_⟩, fun a ⟨i, o, e, t⟩ => ⟨i, o, e, by rw [← h i _ e (fun z => nomatch z)]; exact t⟩⟩
  · rw [h i _ e (fun z => nomatch z)]; exact R.val i d e
  · rw [h i _ e (fun z => nomatch z)]; exact R.own i o e
  · rw [h i _ e1 (fun z => nomatch z)] at t1
    rw [h j _ e2 (fun z => nomatch z)] at t2
    exact R.inj i j o o' a e1 e2 t1 t2
variable {C x : Addr} {dx : Addr} {st : Int}
theorem tour_s1 (cls : Cls K C) (n1 : NoAttr K C fFar) (h0 : τ[0]? = some (some (.ref x))) (h3 : τ[3]? = some (some (.int st))) (hx : H x = some (.ins C dx [])) {D : Ends}
    (h : ∀ p, H p = none → D.nx τ (upd (upd H p (.dK (mkV [(st, 0)]))) x (.ins C dx [(fFar, .ref p)]))) : sFld K (tVar 0) (tDisp [(tVar 3, tC (.int 0))]) fFar D τ H := by
  intro p np
  refine ⟨.int st, h3, upd_same, [(.inl st, .int 0)], rfl, by show 1 ≤ 15; omega, .ref x, h0, x, C, dx, [], rfl, ?_, cls, n1, by decide, ?_⟩
  · rw [upd_again, upd_ne (fun z => by rw [z, np] at hx; cases hx)]; exact hx
  · rw [upd_again]
    exact h p np
theorem tour_s2 (cls : Cls K C) (n2 : NoAttr K C fBef) (h0 : τ[0]? = some (some (.ref x))) {p : Addr} (hx : H x = some (.ins C dx [(fFar, .ref p)])) {D : Ends}
    (h : ∀ q, H q = none → D.nx τ (upd (upd H q (.dK (mkV []))) x (.ins C dx [(fFar, .ref p), (fBef, .ref q)]))) : sFld K (tVar 0) tDNewK fBef D τ H := by
  intro q nq
  refine ⟨.ref x, h0, x, C, dx, [(fFar, .ref p)], rfl, ?_, cls, n2, by show 1 < 1000; omega, ?_⟩
  · rw [upd_ne (fun z => by rw [z, nq] at hx; cases hx)]; exact hx
  · exact h q nq
theorem innerO_t {p q c : Addr} {fb : T2 × T2} {es : List Ed} {kvs : List (List Key × V)} {E : Ends} (hτ : τ.length = 9) (t : TAt K H C x p q fb) (h0 : τ[0]? = some (some (.ref x))) (h4 : τ[4]? = some (some (.ref c))) (hc : Rd H c (.dT kvs))
    (hl : es.length = kvs.length) (hg : ∀ (i : Nat) (k : List Key) (v : V), kvs[i]? = some (k, v) → ∃ a b c : Int, es[i]? = some ((a, b), c) ∧ k = [.inl a, .inl b] ∧ v = .int c)
    (m : Nat) (h1 : fb.1.length ≤ m) (h2 : fb.2.length ≤ m) (hm : m + es.length < sizeLine)
    (h : ∀ τ' H', Lo τ τ' → TAt K H' C x p q (roundP es fb) → Ag p q H H' → E.nx τ' H') : innerO C K E τ H := by
  have cp : c ≠ p := fun z => by
    have := t.hp
    rw [← z] at this
    rcases hc with hc | ⟨o, hc⟩ <;> rw [this] at hc <;> cases hc
  have cq : c ≠ q := fun z => by
    have := t.hq
    rw [← z] at this
    rcases hc with hc | ⟨o, hc⟩ <;> rw [this] at hc <;> cases hc
  have cx : c ≠ x := fun z => by
    obtain ⟨dx, this⟩ := t.ix
    rw [← z] at this
    rcases hc with hc | ⟨o, hc⟩ <;> rw [this] at hc <;> cases hc
  rcases hc with hc | ⟨od, hc⟩
  · refine .inl ⟨c, _, hc, trivial, fun od => ?_⟩
    obtain ⟨dx, hx⟩ := t.ix
    have t' : TAt K (upd H c (.frz od (.dT kvs))) C x p q fb := ⟨t.c, t.n1, t.n2, ⟨dx, by rw [upd_ne (Ne.symm cx)]; exact hx⟩, by rw [upd_ne (Ne.symm cp)]; exact t.hp, by rw [upd_ne (Ne.symm cq)]; exact t.hq, t.ne⟩
    refine inner_t hτ t' h0 h4 upd_same hl hg m h1 h2 hm fun τ' H' lo t2 ag => ?_
    refine ⟨ag c _ cp cq upd_same, h τ' _ lo ?_ fun b o b1 b2 hb => ?_⟩
    · obtain ⟨dx2, hx2⟩ := t2.ix
      exact ⟨t2.c, t2.n1, t2.n2, ⟨dx2, by rw [upd_ne (Ne.symm cx)]; exact hx2⟩, by rw [upd_ne (Ne.symm cp)]; exact t2.hp, by rw [upd_ne (Ne.symm cq)]; exact t2.hq, t2.ne⟩
    · by_cases e : b = c
      · subst e; rw [upd_same, ← hc]; exact hb
      · rw [upd_ne e]
        exact ag b o b1 b2 (by rw [upd_ne e]; exact hb)
  · exact .inr (inner_t hτ t h0 h4 hc hl hg m h1 h2 hm h)
end
theorem dss_tour {X : Cx} {W : WX} {C : Addr} {S1 S2 S3 S4 : Stmt} {e3 tg4 it4 : Expr} {m3 : M D} {m4 : M (List D)}
    (hC : X.mg cTour = some (.ref C)) (cls : Cls X.K C) (n1 : NoAttr X.K C fFar) (n2 : NoAttr X.K C fBef)
    (p1 : PS X S1 (sFld X.K (tVar 0) (tDisp [(tVar 3, tC (.int 0))]) fFar)) (p2 : PS X S2 (sFld X.K (tVar 0) tDNewK fBef))
    (p3 : DV X W e3 m3) (q3 : ∀ t, PE X e3 t → PS X S3 (tAsg t (gName 4))) (p4 : DI X W tg4 it4 m4) (q4 : ∀ wi, PI X tg4 it4 wi → PS X S4 (tFor wi (gName 5) (innerO C X.K))) :
    DSs X W [0] [S1, S2, S3, S4] (evTour m3 m4) := by
  obtain ⟨t3, pe3, h3⟩ := p3
  obtain ⟨wi, pi4, h4⟩ := p4
  refine ⟨_, pss_cons p1 (pss_cons p2 (pss_cons (q3 t3 pe3) (pss_one (q4 wi pi4)))), fun F H σ τ E R h => ?_⟩
  unfold evTour at h
  split at h
  case h_2 => exact False.elim h
  rename_i c s1 s2 st r
  split at h
  case isFalse => exact False.elim h
  rename_i hcl
  obtain ⟨rfl, hr⟩ := hcl
  obtain ⟨x, hx0, ⟨C', dx, xs, hC', hx, hxl, _⟩, fx⟩ := R.own 0 _ rfl
  rw [hC] at hC'
  cases hC'
  have hx : H x = some (.ins C dx []) := hx
  obtain ⟨v3, ht3, r3⟩ := R.val 3 (.int st) rfl
  obtain rfl : v3 = .int st := r3
  have hlen : τ.length = 9 := by rw [← R.len]; simp only [List.length_cons]; omega
  have R0 : Rl X.K X.mg F H (.un :: s1 :: s2 :: .d (.int st) :: r) τ := R.unset 0
  have nOx : ¬ Own (.un :: s1 :: s2 :: .d (.int st) :: r) τ x := R.notOwn (i := 0) (r := .un) (by intro o z; cases z) rfl hx0
  have own0 : ∀ b, Own (.un :: s1 :: s2 :: .d (.int st) :: r) τ b → Own (.o (.ins cTour [] []) :: s1 :: s2 :: .d (.int st) :: r) τ b := fun b hb => (Own.drop (σ := .o (.ins cTour [] []) :: s1 :: s2 :: .d (.int st) :: r) (i := 0) (r := .un) (by intro o z; cases z) hb).1
  refine tour_s1 cls n1 hx0 ht3 hx fun p np => ?_
  have xp : x ≠ p := fun z => by rw [z, np] at hx; cases hx
  refine tour_s2 (p := p) (dx := dx) cls n2 hx0 upd_same fun q nq => ?_
  have qx : q ≠ x := fun z => by rw [z, upd_same] at nq; cases nq
  rw [upd_ne qx] at nq
  have qp : q ≠ p := fun z => by rw [z, upd_same] at nq; cases nq
  rw [upd_ne qp] at nq
  obtain ⟨H4, e4⟩ : ∃ H4, H4 = upd (upd (upd (upd H p (.dK (mkV [(st, 0)]))) x (.ins C dx [(fFar, .ref p)])) q (.dK (mkV []))) x (.ins C dx [(fFar, .ref p), (fBef, .ref q)]) := ⟨_, rfl⟩
  rw [← e4]
  have x4 : H4 x = some (.ins C dx [(fFar, .ref p), (fBef, .ref q)]) := by rw [e4, upd_same]
  have p4' : H4 p = some (.dK (mkV [(st, 0)])) := by rw [e4, upd_ne (Ne.symm xp), upd_ne (Ne.symm qp), upd_ne (Ne.symm xp), upd_same]
  have q4' : H4 q = some (.dK (mkV [])) := by rw [e4, upd_ne qx, upd_same]
  have o4 : ∀ b, b ≠ x → b ≠ p → b ≠ q → H4 b = H b := fun b h1 h2 h3 => by rw [e4, upd_ne h1, upd_ne h3, upd_ne h1, upd_ne h2]
  clear e4
  have t4 : TAt X.K H4 C x p q ([(st, 0)], []) := ⟨cls, n1, n2, ⟨dx, x4⟩, p4', q4', Ne.symm qp⟩
  have ne0 : ∀ b o, H b = some o → b ≠ p ∧ b ≠ q := fun b o hb => ⟨(fun z => by rw [z, np] at hb; cases hb), (fun z => by rw [z, nq] at hb; cases hb)⟩
  have sFH : Same F H := R.same
  have fp : F p = none := Same.none sFH np
  have fq : F q = none := Same.none sFH nq
  have s4 : Same F H4 := fun b o hb => by
    have h1 := sFH b o hb
    obtain ⟨n1, n2⟩ := ne0 b o h1
    rw [o4 b (fun z => by rw [z, fx] at hb; cases hb) n1 n2]; exact h1
  have R4 : Rl X.K X.mg F H4 (.un :: s1 :: s2 :: .d (.int st) :: r) τ := R0.mod s4 fun b hb u hu => by
    obtain ⟨n1, n2⟩ := ne0 b u hu
    rw [o4 b (fun z => nOx (by rw [← z]; exact hb)) n1 n2]; exact hu
  refine h3 F H4 _ τ _ R4 ?_
  unfold asS
  cases e3 : m3 (.un :: s1 :: s2 :: .d (.int st) :: r) with
  | bad => rw [e3] at h; exact False.elim h
  | ex y σ1 => rw [e3] at h; exact False.elim h
  | ok y σ1 =>
  rw [e3] at h
  intro v5 F5 H5 R5 r5 _ t5
  dsimp only at h
  obtain ⟨R6, tr6⟩ := R5.put 4 (r := .d y) (v := v5) r5 (fun a ⟨⟨_, z⟩, _⟩ => nomatch z)
  refine h4 F5 H5 _ _ _ R6 ?_
  cases e4 : m4 (σ1.set 4 (.d y)) with
  | bad => rw [e4] at h; exact False.elim h
  | ex y σ1 => rw [e4] at h; exact False.elim h
  | ok ds σ2 =>
  rw [e4] at h
  intro J F6 H6 R7 wk t6
  dsimp only at h
  cases e5 : σ2[4]? with
  | none => rw [e5] at h; exact False.elim h
  | some sl =>
  rw [e5] at h
  cases sl with
  | un => exact False.elim h
  | o _ => exact False.elim h
  | d z =>
  cases z with
  | dt ks vs =>
    dsimp only at h
    cases e6 : edgesOf ks vs with
    | none => rw [e6] at h; exact False.elim h
    | some es =>
    rw [e6] at h
    dsimp only at h
    by_cases hsz : 1 + ds.length * es.length < szMax
    case neg => rw [if_neg hsz] at h; exact False.elim h
    rw [if_pos hsz] at h
    have hsz' := Nat.lt_of_lt_of_le hsz (sz_ok (Nat.le_refl _))
    obtain ⟨v4, ht4, rep4⟩ := R7.val 4 _ e5
    simp only [Rep] at rep4
    obtain ⟨c, xs, rfl, hcR, hl4, rl4⟩ := rep4
    obtain ⟨hel, heg⟩ := edges_get e6 rl4
    have tA : Tr (Own (.un :: s1 :: s2 :: .d (.int st) :: r) τ) F H4 (Own σ2 (τ.set 4 (some v5))) F6 H6 :=
      t5.noR.trans ((Tr.refl.weak fun b hb => (tr6 b hb).elim id fun ⟨⟨_, z⟩, _⟩ => nomatch z).trans t6)
    have nOp : ¬ Own (.un :: s1 :: s2 :: .d (.int st) :: r) τ p := fun hb => by
      obtain ⟨⟨u, hu⟩, _⟩ := R0.own_there hb
      rw [np] at hu; cases hu
    have nOq : ¬ Own (.un :: s1 :: s2 :: .d (.int st) :: r) τ q := fun hb => by
      obtain ⟨⟨u, hu⟩, _⟩ := R0.own_there hb
      rw [nq] at hu; cases hu
    have noF : ∀ {b : Addr} {u : HO}, F b = none → H4 b = some u → ¬ Own (.un :: s1 :: s2 :: .d (.int st) :: r) τ b → F6 b = none ∧ H6 b = some u ∧ ¬ Own σ2 (τ.set 4 (some v5)) b := fun {b u} h1 h2 h3 => by
      refine ⟨?_, tA.keep b u h2 h3, fun z => ?_⟩
      · cases e : F6 b with
        | none => rfl
        | some w =>
          rcases tA.new b (by rw [e]; simp) with z | z | z
          · exact absurd h1 z
          · rw [h2] at z; cases z
          · exact absurd z h3
      · rcases tA.sub b z with z | z
        · exact h3 z
        · rw [h2] at z; cases z
    obtain ⟨fx6, hx6, ox6⟩ := noF fx x4 nOx
    obtain ⟨fp6, hp6, op6⟩ := noF fp p4' nOp
    obtain ⟨fq6, hq6, oq6⟩ := noF fq q4' nOq
    have tt6 : TAt X.K H6 C x p q ([(st, 0)], []) := ⟨cls, n1, n2, ⟨dx, hx6⟩, hp6, hq6, Ne.symm qp⟩
    have l4 : (τ.set 4 (some v5)).length = 9 := by rw [List.length_set]; exact hlen
    have g0 : (τ.set 4 (some v5))[0]? = some (some (.ref x)) := by rw [List.getElem?_set_ne (by omega)]; exact hx0
    have sm : ∀ {H1 : Hp}, Ag p q H6 H1 → Same F6 H1 := fun {H1} ag b o hb => ag b o (fun z => by rw [z, fp6] at hb; cases hb) (fun z => by rw [z, fq6] at hb; cases hb) (R7.same b o hb)
    obtain ⟨G, Y, walk, hG, hY⟩ := wk
    refine for_it walk (fun i τ' H' => Lo (τ.set 4 (some v5)) τ' ∧ TAt X.K H' C x p q (tourP es i ([(st, 0)], [])) ∧ Ag p q H6 H') ⟨Lo.refl, tt6, Ag.refl⟩ (fun i τ' H' _ ⟨_, _, ag⟩ => hG H' (sm ag)) ?_ ?_
    · rintro i x0 τ1 H1 H2 hi ⟨lo, t1, ag⟩ y0
      obtain ⟨d, F3, ed, ex, rx⟩ := hY i H1 x0 H2 F6 hi y0 (Same.refl _) (sm ag)
      have ag2 : Ag p q H1 H2 := fun b o _ _ hb => ex.hp b o hb
      have t2 : TAt X.K H2 C x p q (tourP es i ([(st, 0)], [])) := t1.ag ag2 (ex.hp _ _ t1.hp) (ex.hp _ _ t1.hq)
      have lo2 : Lo (τ.set 4 (some v5)) (τ1.set 5 (some x0)) := lo.trans (Lo.set (by omega))
      have ln := tour_len es ([(st, 0)], []) 1 (by show 1 ≤ 1; omega) (by show 0 ≤ 1; omega) i
      have mu : (i + 1) * es.length ≤ ds.length * es.length := Nat.mul_le_mul_right _ hi
      rw [Nat.succ_mul] at mu
      show innerO C X.K _ (τ1.set 5 (some x0)) H2
      refine innerO_t (lo2.1.trans l4) t2 ((lo2.2 0 (by omega)).trans g0) ((lo2.2 4 (by omega)).trans ht4) (Rd.same (sm (ag.trans ag2)) hcR) hel heg _ ln.1 ln.2 (by omega) fun τ' H' lo' t' ag' => ?_
      exact ⟨lo2.trans lo', t', (ag.trans ag2).trans ag'⟩
    · rintro τ1 H1 ⟨lo, t1, ag⟩
      have R8 := ((((R7.unset 5).unset 6).unset 7).unset 8).unset 0
      obtain ⟨σ3, e3⟩ : ∃ σ3, σ3 = (((((σ2.set 5 .un).set 6 .un).set 7 .un).set 8 .un).set 0 .un) := ⟨_, rfl⟩
      have u8 : ∀ b, Own (((((σ2.set 5 .un).set 6 .un).set 7 .un).set 8 .un).set 0 .un) (τ.set 4 (some v5)) b → Own σ2 (τ.set 4 (some v5)) b := fun b hb => by
        have n : ∀ o : O, Sl.un ≠ .o o := fun o z => nomatch z
        exact (Own.drop n (Own.drop n (Own.drop n (Own.drop n (Own.drop n hb).1).1).1).1).1
      rw [← e3] at R8 u8
      have R9 : Rl X.K X.mg F6 H1 σ3 (τ.set 4 (some v5)) := R8.mod (sm ag) fun b hb u hu => ag b u (fun z => op6 (by rw [← z]; exact u8 b hb)) (fun z => oq6 (by rw [← z]; exact u8 b hb)) hu
      have l3 : σ3.length = 9 := R8.len.trans l4
      have hun : ∀ i, 5 ≤ i → i < 9 → σ3[i]? = some .un := fun i h1 h2 => by
        have l2 : σ2.length = 9 := R7.len.trans l4
        rw [e3]
        rcases (show i = 5 ∨ i = 6 ∨ i = 7 ∨ i = 8 by omega) with rfl | rfl | rfl | rfl <;>
          simp [List.getElem?_set, l2]
      obtain ⟨R10, o10⟩ := R9.outS (τ' := τ1) lo.1 fun i s e ne => by
        by_cases h5 : i < 5
        · exact lo.2 i h5
        · by_cases h9 : i < 9
          · rw [hun i (by omega) h9] at e
            cases e
            exact absurd rfl ne
          · rw [List.getElem?_eq_none (by omega)] at e; cases e
      have no : ∀ {b : Addr}, ¬ Own σ2 (τ.set 4 (some v5)) b → ¬ Own σ3 τ1 b := fun h z => h (u8 _ (o10 _ z))
      have R11 := R10.frzF fp6 (no op6)
      have R12 := R11.frzF (a := q) (by rw [frzF_ne qp]; exact fq6) (no oq6)
      obtain ⟨dx1, hx1⟩ := t1.ix
      have Fx : DL.frzF (DL.frzF F6 H1 p) H1 q x = none := by rw [frzF_ne (Ne.symm qx), frzF_ne xp]; exact fx6
      have Fp : DL.frzF (DL.frzF F6 H1 p) H1 q p = some (.dK (mkV (tourP es ds.length ([(st, 0)], [])).1)) := by rw [frzF_ne (Ne.symm qp), frzF_at]; exact t1.hp
      have Fq : DL.frzF (DL.frzF F6 H1 p) H1 q q = some (.dK (mkV (tourP es ds.length ([(st, 0)], [])).2)) := by rw [frzF_at]; exact t1.hq
      have at_ : OAt X.K X.mg (DL.frzF (DL.frzF F6 H1 p) H1 q) H1 (tourO (tourP es ds.length ([(st, 0)], []))) x :=
        ⟨C, dx1, [.ref p, .ref q], hC, hx1, rfl, _, _, rfl, dkI_rep Fp, _, _, rfl, dkI_rep Fq, rfl⟩
      obtain ⟨R13, o13⟩ := R12.put 0 (r := .o (tourO (tourP es ds.length ([(st, 0)], [])))) (v := .ref x) ⟨x, rfl, at_, Fx⟩ (fun a ⟨_, z⟩ hb => by
        cases z
        exact no ox6 hb)
      have eτ : τ1.set 0 (some (.ref x)) = τ1 := by
        have h1 := (lo.2 0 (by omega)).trans g0
        cases τ1 with
        | nil => cases h1
        | cons a t => cases h1; rfl
      rw [eτ] at R13 o13
      have eσ : σ3.set 0 (.o (tourO (tourP es ds.length ([(st, 0)], [])))) = (((((σ2.set 5 .un).set 6 .un).set 7 .un).set 8 .un).set 0 (.o (tourO (tourP es ds.length ([(st, 0)], []))))) := by rw [e3, List.set_set]
      rw [eσ] at R13 o13
      refine h τ1 _ H1 R13 (fun i hi => ?_) ⟨fun b o hb => ?_, fun b o hb nb => ?_, fun b hb => ?_, fun b hb => ?_, fun b hb => ?_⟩
      · have : i = 0 := by simpa using hi
        subst this
        rw [(lo.2 0 (by omega)).trans g0, hx0]
      · exact frzF_same (by rw [frzF_ne qp]; exact fq6) b o (frzF_same fp6 b o (tA.fz b o hb))
      · obtain ⟨n1, n2⟩ := ne0 b o hb
        have nx : b ≠ x := fun z => nb (by rw [z]; exact ⟨0, _, rfl, hx0⟩)
        exact ag b o n1 n2 (tA.keep b o (by rw [o4 b nx n1 n2]; exact hb) fun z => nb (own0 b z))
      · by_cases b1 : b = p
        · rw [b1]; exact .inr (.inl np)
        · by_cases b2 : b = q
          · rw [b2]; exact .inr (.inl nq)
          · rw [frzF_ne b2, frzF_ne b1] at hb
            by_cases b3 : b = x
            · rw [b3] at hb; exact absurd fx6 hb
            · rcases tA.new b hb with z | z | z
              · exact .inl z
              · rw [o4 b b3 b1 b2] at z; exact .inr (.inl z)
              · exact .inr (.inr (own0 b z))
      · by_cases b1 : b = p
        · rw [b1, np] at hb; exact absurd rfl hb
        · by_cases b2 : b = q
          · rw [b2, nq] at hb; exact absurd rfl hb
          · by_cases b3 : b = x
            · rw [b3, hx1]; simp
            · have h6 := tA.dom b (by rw [o4 b b3 b1 b2]; exact hb)
              cases e : H6 b with
              | none => exact absurd e h6
              | some u => rw [ag b u b1 b2 e]; simp
      · rcases o13 b hb with z | ⟨_, z⟩
        · rcases tA.sub b (u8 _ (o10 _ z)) with w | w
          · exact .inl (own0 b w)
          · by_cases b1 : b = p
            · rw [b1]; exact .inr np
            · by_cases b2 : b = q
              · rw [b2]; exact .inr nq
              · by_cases b3 : b = x
                · rw [b3, x4] at w; cases w
                · rw [o4 b b3 b1 b2] at w; exact .inr w
        · cases z
          exact .inl ⟨0, _, rfl, hx0⟩
  | _ => exact False.elim h
end DL
namespace DL
open PySem PySem.Spec PyProof.Rows L2
theorem cx_no {P : Program} {w : World} {st : List Env} {H : Hp} {s : Shared} {e : Value} {s' : Shared} (h : L2.CX P w st H s (fun _ _ _ => False) e s') : False := by
  obtain ⟨_, _, _, _, _, _, _, _, _, _, _, _, h⟩ := h
  exact h
theorem passNo {P : Program} {w : World} {X : Cx} : Passes (L2.CX P w) X (fun _ _ _ => False) := fun _ _ _ _ _ _ _ h => (cx_no h).elim
def OkLook (P : Program) (w : World) (K : PySem.W.Frag) (mg : Str → Option Value) (base : Heap) (k : Nat) (a : Addr) (ps : List Str) : Prop :=
  ∃ fd, FnOk P w K mg base (L2.CX P w) k a fd ps (spLook K) ∧ PySem.W.keepIn K (.ref a) = true ∧ Binds K fd ps []
theorem mk_look {P : Program} {w : World} {K : PySem.W.Frag} {mg : Str → Option Value} {base : Heap} {ck : List Ck} {fn : List Fn} (Z : Fx ck fn K mg) (i : Nat) {d : Fn} {N ps : List Str} {k : Nat} (S : FnScope N ps d.scope) (h : fn[i]? = some d) (hps : ps.length = 4) (hN : N.length = 5)
    (hbind : ∀ (kV doc pm : Value) (an : Option Addr) (cdv ct : Value) (us : List Value), us.length = ps.length → bindArgs (PySem.W.fnOf d.name d.qual d.params d.body d.scope .none kV doc pm an cdv ct) ⟨us, []⟩ = pure (ps.zip us))
    (hb : ∀ (cdv : Value) (A : Around) (outer : List Env) (s : Shared) (H : Hp) (E : XK), Room k (A.deeper (envOfC d.qual d.scope s.heap.objs.size (d.adr K) cdv)) →
      PSs (cxOf (L2.CX P w) P w K mg base N d.qual d.scope (d.adr K) cdv A outer s H E) d.body (lookI1 K)) : OkLook P w K mg base (k + 1) (d.adr K) ps := by
  obtain ⟨fd, F⟩ := Z.says.def_ i h
  refine ⟨fd, F.ok S (fun vs H Q E q => ?_) fun cdv A outer s H vs Q E hr q => ⟨_, hb cdv A outer s H E hr, ?_⟩, F.kp, F.bindsN hbind⟩
  · obtain ⟨C, x, p, q, fb, pl, ot, co, rfl, _⟩ := q
    rw [hps]; rfl
  · obtain ⟨C, x, p, q, fb, pl, ot, co, rfl, t, h1, h2, hq⟩ := q
    have e : L2.start N [.ref x, .int pl, .int ot, .int co] = [some (.ref x), some (.int pl), some (.int ot), some (.int co), none] := by
      unfold L2.start
      rw [hN]; rfl
    rw [e]
    exact look_t t h1 h2 fun _ => hq
/-! d[k], k in d, of data -/
def dDGet : D → D → Option D
  | .dt ks ds, .tup es => (keysOf es).bind fun k => getK ks ds k
  | .dk ks ds, i => (keyOf i).bind fun k => getK ks ds k
  | _, _ => none
def dDIn (k x : D) : Option D := match x with
  | .dt ks ds => (match k with
    | .tup es => (keysOf es).map fun k => .bl (getK ks ds k).isSome
    | _ => none)
  | .dk ks ds => (keyOf k).map fun k => .bl (getK ks ds k).isSome
  | _ => none
section
variable {K : PySem.W.Frag} {mg : Str → Option Value} {F H : Hp}
theorem rep_getO {k : Key} : ∀ {ks : List Key} {ds : List D} {xs : List V}, RepL K mg F ds xs → (match getK ks ds k with
    | some d => ∃ v, getK ks xs k = some v ∧ Rep K mg F d v
    | none => getK ks xs k = none)
  | [], ds, xs, h => by
    have e1 : getK ([] : List Key) ds k = none := by cases ds <;> rfl
    have e2 : getK ([] : List Key) xs k = none := by cases xs <;> rfl
    rw [e1]
    exact e2
  | j :: ks, [], xs, h => by
    simp only [RepL] at h
    subst h
    rfl
  | j :: ks, d :: ds, xs, h => by
    simp only [RepL] at h
    obtain ⟨x, q, rfl, h1, h2⟩ := h
    unfold getK
    by_cases e : j = k
    · rw [if_pos e, if_pos e]
      exact ⟨x, rfl, h1⟩
    · rw [if_neg e, if_neg e]
      exact rep_getO h2
theorem rep_getT {k : List Key} : ∀ {ks : List (List Key)} {ds : List D} {xs : List V}, RepL K mg F ds xs → (match getK ks ds k with
    | some d => ∃ v, getK ks xs k = some v ∧ Rep K mg F d v
    | none => getK ks xs k = none)
  | [], ds, xs, h => by
    have e1 : getK ([] : List (List Key)) ds k = none := by cases ds <;> rfl
    have e2 : getK ([] : List (List Key)) xs k = none := by cases xs <;> rfl
    rw [e1]
    exact e2
  | j :: ks, [], xs, h => by
    simp only [RepL] at h
    subst h
    rfl
  | j :: ks, d :: ds, xs, h => by
    simp only [RepL] at h
    obtain ⟨x, q, rfl, h1, h2⟩ := h
    unfold getK
    by_cases e : j = k
    · rw [if_pos e, if_pos e]
      exact ⟨x, rfl, h1⟩
    · rw [if_neg e, if_neg e]
      exact rep_getT h2
theorem dget_d {x k d : D} {v y : V} (s : Same F H) (rx : Rep K mg F x v) (rk : Rep K mg F k y) (e : dDGet x k = some d) : ∃ a u, v = .ref a ∧ DGet H a y (some u) ∧ Rep K mg F d u := by
  unfold dDGet at e
  split at e
  · rename_i ks ds es
    obtain ⟨k', hk, hg⟩ := Option.bind_eq_some_iff.mp e
    obtain ⟨a, xs, rfl, h1, h2, h3⟩ := (show RepP K mg F H (.dt ks ds) v from .inl rx).dt s
    simp only [Rep] at rk
    obtain ⟨b, ys, rfl, h4, _, h5⟩ := rk
    have e5 := keys_rep hk h5
    subst e5
    have g := rep_getT (k := k') (ks := ks) h3
    rw [hg] at g
    obtain ⟨u, g1, g2⟩ := g
    exact ⟨a, u, rfl, .inr ⟨_, k', b, h1, rfl, s _ _ h4, by rw [val_zip h2]; exact g1.symm⟩, g2⟩
  · rename_i ks ds
    obtain ⟨k', hk, hg⟩ := Option.bind_eq_some_iff.mp e
    obtain ⟨a, xs, rfl, h1, h2, h3⟩ := (show RepP K mg F H (.dk ks ds) v from .inl rx).dk s
    have e5 := key_rep hk rk
    subst e5
    have g := rep_getO (k := k') (ks := ks) h3
    rw [hg] at g
    obtain ⟨u, g1, g2⟩ := g
    exact ⟨a, u, rfl, .inl ⟨_, k', h1, rfl, by rw [val_zip h2]; exact g1.symm⟩, g2⟩
  · cases e
theorem din_d {x k d : D} {v y : V} (s : Same F H) (rx : Rep K mg F x v) (rk : Rep K mg F k y) (e : dDIn k x = some d) : ∃ a o, v = .ref a ∧ DGet H a y o ∧ d = .bl o.isSome := by
  cases x with
  | dt ks ds =>
    cases k with
    | tup es =>
      obtain ⟨k', hk, rfl⟩ := Option.map_eq_some_iff.mp e
      obtain ⟨a, xs, rfl, h1, h2, h3⟩ := (show RepP K mg F H (.dt ks ds) v from .inl rx).dt s
      simp only [Rep] at rk
      obtain ⟨b, ys, rfl, h4, _, h5⟩ := rk
      have e5 := keys_rep hk h5
      subst e5
      have g := rep_getT (k := k') (ks := ks) h3
      refine ⟨a, _, rfl, .inr ⟨_, k', b, h1, rfl, s _ _ h4, rfl⟩, ?_⟩
      rw [val_zip h2]
      cases e : getK ks ds k' with
      | none => rw [e] at g; rw [g]; rfl
      | some d => rw [e] at g; obtain ⟨u, g1, _⟩ := g; rw [g1]; rfl
    | _ => cases e
  | dk ks ds =>
    obtain ⟨k', hk, rfl⟩ := Option.map_eq_some_iff.mp (show (keyOf k).map _ = some d from e)
    obtain ⟨a, xs, rfl, h1, h2, h3⟩ := (show RepP K mg F H (.dk ks ds) v from .inl rx).dk s
    have e5 := key_rep hk rk
    subst e5
    have g := rep_getO (k := k') (ks := ks) h3
    refine ⟨a, _, rfl, .inl ⟨_, k', h1, rfl, rfl⟩, ?_⟩
    rw [val_zip h2]
    cases e : getK ks ds k' with
    | none => rw [e] at g; rw [g]; rfl
    | some d => rw [e] at g; obtain ⟨u, g1, _⟩ := g; rw [g1]; rfl
  | _ => cases e
end
section
variable {X : Cx} {W : WX} {o i e fe : Expr} {es : List Expr} {mo mi mf : M D} {ml : M (List D)} {pos : Pos}
theorem dv_dget (hu : X.A.units + 1 < cLine) (ho : DV X W o mo) (hi : DV X W i mi) (hs : NoSl i := by intro _ _; rfl) : DV X W (.Subscript o i pos) (ev2 dDGet mo mi) := by
  obtain ⟨to, po, ho⟩ := ho
  obtain ⟨ti, pi, hi⟩ := hi
  refine ⟨_, pe_dget hu po pi hs, fun F H σ τ Q R h => ?_⟩
  unfold ev2 at h
  rw [asS_bind] at h
  refine ho F H σ τ _ R (dvk h fun x σ1 v F1 H1 R1 r1 h => ?_)
  rw [asS_bind] at h
  refine hi F1 H1 σ1 τ _ R1 ?_
  unfold M.bind at h
  unfold asS
  cases e : mi σ1 with
  | ok y σ2 =>
    rw [e] at h
    intro w F2 H2 R2 r2 _ t2
    obtain ⟨d, ed, h⟩ := okl (v := w) (OkE.later t2.noR h)
    obtain ⟨a, u, rfl, g, ru⟩ := dget_d R2.same (Rep.same t2.fz r1) r2 ed
    exact ⟨a, u, rfl, g, okd h R2 (Ext.refl R2.same) ru⟩
  | ex x σ1 => rw [e] at h; exact h
  | bad => rw [e] at h; exact h
theorem dv_din (hu : X.A.units + 1 < cLine) (hi : DV X W i mi) (ho : DV X W o mo) (hm : behindInMarks .In o = false) : DV X W (.Compare i [.In] [o] pos) (ev2 dDIn mi mo) := by
  obtain ⟨to, po, ho⟩ := ho
  obtain ⟨ti, pi, hi⟩ := hi
  refine ⟨_, pe_cmp (pc_din hu pi po) hm, fun F H σ τ Q R h => ?_⟩
  unfold ev2 at h
  rw [asS_bind] at h
  refine hi F H σ τ _ R (dvk h fun x σ1 v F1 H1 R1 r1 h => ?_)
  rw [asS_bind] at h
  refine ho F1 H1 σ1 τ _ R1 ?_
  unfold M.bind at h
  unfold asS
  cases e : mo σ1 with
  | ok y σ2 =>
    rw [e] at h
    intro w F2 H2 R2 r2 _ t2
    obtain ⟨d, ed, h⟩ := okl (v := w) (OkE.later t2.noR h)
    obtain ⟨a, u, rfl, g, rfl⟩ := din_d R2.same r2 (Rep.same t2.fz r1) ed
    exact ⟨a, u, rfl, g, okd h R2 (Ext.refl R2.same) (by simp only [Rep])⟩
  | ex x σ1 => rw [e] at h; exact h
  | bad => rw [e] at h; exact h
theorem dt_din (hu : X.A.units + 1 < cLine) (hi : DV X W i mi) (ho : DV X W o mo) (hm : behindInMarks .In o = false) : DT X W (.Compare i [.In] [o] pos) (toB (ev2 dDIn mi mo)) := by
  obtain ⟨to, po, ho⟩ := ho
  obtain ⟨ti, pi, hi⟩ := hi
  refine ⟨_, pt_cmp (pc_din hu pi po) hm, fun F H σ τ Q R h => ?_⟩
  have h := okT_toB h
  unfold ev2 at h
  rw [asS_bind] at h
  refine hi F H σ τ _ R (dvk h fun x σ1 v F1 H1 R1 r1 h => ?_)
  rw [asS_bind] at h
  refine ho F1 H1 σ1 τ _ R1 ?_
  unfold M.bind at h
  unfold asS
  cases e : mo σ1 with
  | ok y σ2 =>
    rw [e] at h
    intro w F2 H2 R2 r2 _ t2
    obtain ⟨d, ed, h⟩ := okl (v := w) (OkE.later t2.noR h)
    obtain ⟨a, u, rfl, g, rfl⟩ := din_d R2.same r2 (Rep.same t2.fz r1) ed
    obtain ⟨k, ek, q⟩ := okd (v := .bl u.isSome) h R2 (Ext.refl R2.same) (by simp only [Rep])
    exact ⟨a, u, rfl, g, k, ek, q⟩
  | ex x σ1 => rw [e] at h; exact h
  | bad => rw [e] at h; exact h
/-! an instance, called; it must not raise -/
def semCO (c : Str) (f : List Sl → Res Sl) (mf : M D) (ml : M (List D)) : M Sl := mf.bind fun x => match x with
  | .ins c' ns vs => if c' = c then ml.bind fun ds => fun σ => (match f ((x :: ds).map .d) with
    | .ok r _ => .ok r σ
    | _ => .bad) else M.bad
  | _ => M.bad
theorem do_callO {c : Str} {C g : Addr} {k : Nat} {ps : List Str} {sem : List Sl → Res Sl} {j : Nat} (T : CF X c C) (co : StX.CallO X.K C g) (G : OkFn X.prog X.w X.K X.mg X.base k g ps sem) (hr : Room j X.A) (hk : k ≤ j) (hf : DV X W fe mf) (ha : DA X W (e :: es) ml)
    (ht : eval (.Call fe (e :: es) [] pos) X.env = (do callWith pos (← eval fe X.env) [] (backTo pos (starEach (e :: es) X.env)) (backToKw pos (keywordEach [] X.env))) := by rfl)
    (he : starEach (e :: es) X.env = (false, eval e X.env) :: starEach es X.env := by rfl) (hpl : (backTo pos (starEach es X.env)).any (·.1) = false := by rfl) : DO X W (.Call fe (e :: es) [] pos) (semCO c sem mf ml) := by
  obtain ⟨fd, G, kp, hb⟩ := G
  obtain ⟨to, po, ho⟩ := hf
  obtain ⟨t, p, ha⟩ := ha
  refine ⟨_, StX.pe_callO po co (FnOk.raw G hb .nil) (hr.mono hk) passNo p ht he hpl, fun F H σ τ Q R h => ?_⟩
  refine ho F H σ τ _ R (dvk h fun x σ1 v F1 H1 R1 r1 h2 => ?_)
  cases x with
  | ins c' ns vs =>
    dsimp only at h2
    split at h2
    · rename_i hc
      subst hc
      obtain ⟨a, C', dx, xs, rfl, hmg, hF, hl, r⟩ := id r1
      rw [T.mg] at hmg
      cases hmg
      refine ⟨a, rfl, ha F1 H1 σ1 τ _ R1 ?_⟩
      unfold M.bind at h2
      cases e1 : ml σ1 with
      | bad => rw [e1] at h2; exact h2
      | ex x σ1 => rw [e1] at h2; exact h2
      | ok ds σ2 =>
        rw [e1] at h2
        intro us F2 H2 R2 r2 t2
        refine ⟨.inr ⟨dx, _, R2.same _ _ (t2.fz _ _ hF)⟩, ?_⟩
        dsimp only
        rw [List.append_nil]
        have h3 := OkE.later t2 h2
        dsimp only at h3
        refine spD_d (W := fun _ _ _ _ => False) (ds := .ins c' ns vs :: ds) R2 (by simp only [RepL]; exact ⟨_, _, rfl, Rep.same t2.fz r1, r2⟩) ?_
        cases e2 : sem ((D.ins c' ns vs :: ds).map .d) with
        | ok r ps' => rw [e2] at h3; exact h3
        | ex x ps' => rw [e2] at h3; exact False.elim h3
        | bad => rw [e2] at h3; exact False.elim h3
    · exact False.elim h2
  | _ => exact False.elim h2
end
abbrev kO (x : Str) : Ck := fun K => (He.Fa.meth x "__call__").ok K && PySem.W.fnIn K (He.ma K (He.ga K x) "__call__")
theorem Fx.callO {ck : List Ck} {fn : List Fn} {K : PySem.W.Frag} {mg : Str → Option Value} (Z : Fx ck fn K mg) {x : Str} (i : Nat) (h : ck[i]? = some (kO x) := by rfl) : StX.CallO K (He.ga K x) (He.ma K (He.ga K x) "__call__") := by
  obtain ⟨h1, h2⟩ := He.ba (Z.says.ck i h)
  have M := He.meth_ok h1
  exact ⟨M.at_, M.fn, h2⟩
end DL
namespace DL
open PySem PySem.Spec PyProof.Rows L2
theorem c_look {X : Cx} {C a : Addr} {k j : Nat} {ps : List Str} {o e : Expr} {es : List Expr} {t : TA} {apos pos : Pos} {pl : Sem Bool} (cls : Cls X.K C) (hm : Meth X.K C "look" a) (G : OkLook X.prog X.w X.K X.mg X.base k a ps) (hr : Room j X.A) (hk : k ≤ j) (ho : PE X o (tVar 0)) (ha : PA X (e :: es) t)
    (hst : starEach (e :: es) X.env = (false, eval e X.env) :: starEach es X.env := by rfl) (hpl : (backTo pos (starEach es X.env)).any (·.1) = false := by rfl)
    (ht : eval (.Call (.Attribute o "look" apos) (e :: es) [] pos) X.env = (do
      let ov ← eval o X.env
      standAt apos.atName
      let (f, first) ← holding [ov] (getMethod ov "look" pl)
      callWith pos f first (backTo pos (starEach (e :: es) X.env)) (backToKw pos (keywordEach [] X.env))) := by rfl) :
    PE X (.Call (.Attribute o "look" apos) (e :: es) [] pos) (tMeth C "look" (spLook X.K) [] (fun _ _ _ => False) (tVar 0) t) :=
  let ⟨_, G, _, b⟩ := G; pe_meth ho cls hm G (hr.mono hk) b .nil passNo ha hst hpl ht
end DL
namespace DL
open PySem PySem.Spec PyProof.Rows L2
/-! ### o.replace(A, B), A and B texts of the module -/
def rplMax : Nat := 1000
def dRpl (y z : Str) : D → Option D
  | .str x => if x.length ≤ 1000 ∧ z.length ≤ 1000 then some (.str (Txt.replace x y z)) else none
  | _ => none
def rplB (K : PySem.W.Frag) (a b y z : Str) : Bool := match PySem.W.nsIn K mainGlobals a, PySem.W.nsIn K mainGlobals b with
  | some (some (.str y' t)), some (some (.str z' u)) => (decide (y' = y) && decide (z' = z)) && ((decide (t ≠ 0) && decide (u ≠ 0)) && (decide (t ≠ u) && !(y == z)))
  | _, _ => false
abbrev kR (a b y z : Str) : Ck := fun K => rplB K a b y z
structure RplF (mg : Str → Option Value) (a b y z : Str) : Prop where
  at_ : ∃ t u, mg a = some (.str y t) ∧ mg b = some (.str z u) ∧ t ≠ 0 ∧ u ≠ 0 ∧ t ≠ u
  ne : (y == z) = false
theorem Fx.rpl {ck : List Ck} {fn : List Fn} {K : PySem.W.Frag} {mg : Str → Option Value} (Z : Fx ck fn K mg) {a b y z : Str} (i : Nat) (h : ck[i]? = some (kR a b y z) := by rfl) : RplF mg a b y z := by
  have c := Z.says.ck i h
  obtain ⟨hp, X, G⟩ := Z.mgs
  have c : rplB K a b y z = true := c
  unfold rplB at c
  split at c
  · rename_i y' t z' u e1 e2
    obtain ⟨c1, c2⟩ := He.ba c
    obtain ⟨c3, c4⟩ := He.ba c1
    obtain ⟨c5, c6⟩ := He.ba c2
    obtain ⟨c7, c8⟩ := He.ba c5
    obtain ⟨c9, c10⟩ := He.ba c6
    obtain rfl := of_decide_eq_true c3
    obtain rfl := of_decide_eq_true c4
    exact ⟨⟨t, u, PySem.W.mg_of X G e1, PySem.W.mg_of X G e2, of_decide_eq_true c7, of_decide_eq_true c8, of_decide_eq_true c9⟩, by simpa using c10⟩
  · cases c
theorem dv_rpl {X : Cx} {W : WX} {o : Expr} {mo : M D} {a b y z : Str} {pa pb apos pos : Pos} (R : RplF X.mg a b y z) (ho : DV X W o mo) (ga : Gl X a) (gb : Gl X b)
    (hda : (a == ("__debug__" : Str)) = false := by decide +kernel) (hdb : (b == ("__debug__" : Str)) = false := by decide +kernel)
    (hst : starEach [.Name a pa, .Name b pb] X.env = [(false, eval (.Name a pa) X.env), (false, eval (.Name b pb) X.env)] := by rfl)
    (hbase : attributeBase o "replace" X.env (eval o X.env) = eval o X.env := by rfl) (hline : (apos.endLine == pos.line) = true := by rfl) :
    DV X W (.Call (.Attribute o "replace" apos) [.Name a pa, .Name b pb] [] pos) (ev1 (dRpl y z) mo) := by
  obtain ⟨to, po, ho⟩ := ho
  obtain ⟨⟨t, u, hma, hmb, ht, hu, htu⟩, hyz⟩ := R
  refine ⟨fun σ H Q => to σ H fun v H1 => ∃ x, v = .str x ∧ x.length + (x.length + 1) * z.length ≤ 16777216 ∧ Q (.str (Txt.replace x y z)) H1, ⟨fun pins s σ H Q I h => ?_⟩, fun F H σ τ Q R h => ?_⟩
  · refine PySem.Call_method2 hbase hst hline (thn (po.run pins s σ H _ I h) fun v s1 ⟨v', H1, I1, r1, x, e1, hb, q⟩ => ?_)
    subst e1
    obtain ⟨tx, e2⟩ := r1
    subst e2
    refine ⟨"str", _, PySem.F.plainAttrs_str, PySem.F.slot_str_replace, PySem.F.type_str_replace, typeIs_str _ _ _, (fun _ e => nomatch e), Calls.callWith_builtin rfl (Calls.evalArgs_plain (Calls.spliced_cons ?_))⟩
    refine ld_glob I1 ga hma ?_ hda
    refine Calls.spliced_cons (ld_glob I1 gb hmb (Calls.spliced_nil ?_) hdb)
    exact PySem.SC.replace ht hu htu hyz hb fun t' k => ⟨.str (Txt.replace x y z), H1, I1.tok k, ⟨t', rfl⟩, q⟩
  · unfold ev1 at h
    rw [asS_bind] at h
    refine ho F H σ τ _ R (dvk h fun x σ1 v F1 H1 R1 r1 h => ?_)
    obtain ⟨d, ed, h⟩ := okl (v := v) h
    cases x with
    | str x =>
      unfold dRpl at ed
      dsimp only at ed
      split at ed
      · rename_i hl
        cases ed
        refine ⟨x, r1, ?_, okd h R1 (Ext.refl R1.same) (by simp only [Rep])⟩
        have h1 : (x.length + 1) * z.length ≤ 1001 * 1000 := Nat.mul_le_mul (by omega) hl.2
        omega
      · cases ed
    | _ => cases ed
/-- one sign for another -/
theorem replL1 {c d : Nat} : ∀ l : List Nat, StrLaws.replL [c] [d] l = l.map fun a => if a = c then d else a
  | [] => StrLaws.replL_nil
  | a :: l => by
    rw [List.map_cons]
    by_cases h : a = c
    · subst h
      rw [StrLaws.replL_hit (by simp) (by simp), if_pos rfl]
      show [d] ++ StrLaws.replL [a] [d] l = _
      rw [replL1 l]; rfl
    · rw [StrLaws.replL_miss (by simpa using h), if_neg h, replL1 l]
/-! ### max(e, default=z) of ints -/
def dMaxD (x z : D) : Option D := onInts (fun ns => if ns.isEmpty = true then some z else some (.int (topOf ns))) x
theorem maxOf_ok : ∀ (xs : List Int) (x : Int), PySem.W.maxOf x xs ∈ x :: xs ∧ ∀ y ∈ x :: xs, y ≤ PySem.W.maxOf x xs
  | [], x => ⟨by simp [PySem.W.maxOf], by simp [PySem.W.maxOf]⟩
  | z :: xs, x => by
    have e : PySem.W.maxOf x (z :: xs) = PySem.W.maxOf (if x < z then z else x) xs := by
      show List.foldl _ (if decide (x < z) = true then z else x) xs = _
      by_cases h : x < z
      · rw [if_pos (decide_eq_true h), if_pos h]; rfl
      · rw [if_neg (by rw [decide_eq_false h]; decide), if_neg h]; rfl
    obtain ⟨h1, h2⟩ := maxOf_ok xs (if x < z then z else x)
    rw [e]
    by_cases h : x < z
    · rw [if_pos h] at h1 h2 ⊢
      refine ⟨List.mem_cons_of_mem _ h1, fun y hy => ?_⟩
      rcases List.mem_cons.mp hy with rfl | hy
      · have := h2 z (List.mem_cons_self ..); omega
      · exact h2 y hy
    · rw [if_neg h] at h1 h2 ⊢
      refine ⟨?_, fun y hy => ?_⟩
      · rcases List.mem_cons.mp h1 with e | h1
        · rw [e]; exact List.mem_cons_self ..
        · exact List.mem_cons_of_mem _ (List.mem_cons_of_mem _ h1)
      · rcases List.mem_cons.mp hy with rfl | hy
        · exact h2 y (List.mem_cons_self ..)
        · rcases List.mem_cons.mp hy with rfl | hy
          · have := h2 x (List.mem_cons_self ..); omega
          · exact h2 y (List.mem_cons_of_mem _ hy)
def rMaxD (K : PySem.W.Frag) : List V → List V → Hp → VK → Prop := fun vs zs H Q => ∃ (a : Addr) (ns : List Int) (z : V), vs = [V.ref a] ∧ zs = [z] ∧ SqL K H a (ns.map V.int) ∧ (ns = [] → Q z H) ∧ ∀ m, m ∈ ns → (∀ y, y ∈ ns → y ≤ m) → Q (.int m) H
theorem cr_maxD {X : Cx} (hc : X.calm = true) (hu : X.A.units + 64 < cLine) : CallRK X (.builtin "max") [("default" : Str)] (rMaxD X.K) := by
  intro pins s σ H vs zs us ws Q I r rz h
  obtain ⟨a, ns, z, rfl, rfl, hs, h0, q⟩ := h
  obtain ⟨its, rv, hl, _⟩ := I.list hs
  rw [Vals.ref1 r]
  cases rz with
  | cons r1 r2 =>
    cases r2
    rename_i d
    show wpAny _ _ (call (.builtin "max") [.ref a] [(Str.ofString "default", d)]) _ _ s
    have hint := rv.ints
    refine PySem.W.max_list_datum_default (α := Int) (I.ok.hd hc) hl.isList (xs := ns) (PySem.W.HoldAll.of_ints (by simpa using hint)) ?_ (fun e h' tk hk => ?_) fun y ys i v h' tk e hi hv hk => ?_
    · show X.A.units + 1 + _ < _
      have : PySem.W.Datum.depth Int = 0 := rfl
      rw [this]
      omega
    · exact ⟨z, H, I.kept hk, r1, h0 e⟩
    · obtain ⟨m1, m2⟩ := maxOf_ok ys y
      obtain ⟨as, rd⟩ := hv
      have : ∃ t, v = .int (PySem.W.maxOf y ys) t := by
        cases rd with
        | int t => exact ⟨_, rfl⟩
      obtain ⟨t, rfl⟩ := this
      exact ⟨.int _, H, I.kept hk, ⟨t, rfl⟩, q _ (by rw [e]; exact m1) (by rw [e]; exact m2)⟩
theorem dv_maxD {X : Cx} {W : WX} {e ez : Expr} {ma mz : M D} {p kpos pos : Pos} (hc : X.calm = true) (hu : X.A.units + 64 < cLine) (hm : X.mg ("max" : Str) = none) (ha : DV X W e ma) (hz : DV X W ez mz) (hg : Gl X ("max" : Str) := by rfl)
    (he : starEach [e] X.env = (false, eval e X.env) :: starEach [] X.env := by rfl)
    (he1 : backTo pos (starEach [e] X.env) = (false, eval e X.env) :: backTo pos (starEach [] X.env) := by rfl) (hpl : (backTo pos (starEach [e] X.env)).any (·.1) = false := by rfl)
    (hall : (backToKw pos (keywordEach [⟨some "default", ez, kpos⟩] X.env)).all (·.1.isSome) = true := by rfl) (hnone : (backToKw pos (keywordEach [⟨some "default", ez, kpos⟩] X.env)).any (·.1.isNone) = false := by rfl) (hks : (backToKw pos (keywordEach [⟨some "default", ez, kpos⟩] X.env)).filterMap (·.1) = [("default" : Str)] := by rfl) :
    DV X W (.Call (.Name "max" p) [e] [⟨some "default", ez, kpos⟩] pos) (ev2 dMaxD ma mz) := by
  obtain ⟨ta, pa, ha⟩ := ha
  obtain ⟨tz, pz, hz⟩ := hz
  refine ⟨_, pe_callBK (cr_maxD hc hu) hg hm rfl (pa_cons pa pa_nil he) (pk_cons pz pk_nil) (by decide +kernel) (by decide +kernel) he1 hpl hall hnone hks, fun F H σ τ Q R h => ?_⟩
  unfold ev2 at h
  rw [asS_bind] at h
  refine ha F H σ τ _ R (dvk h fun x σ1 v F1 H1 R1 r1 h => ?_)
  rw [asS_bind] at h
  refine hz F1 H1 σ1 τ _ R1 ?_
  unfold M.bind at h
  unfold asS
  cases e : mz σ1 with
  | ok y σ2 =>
    rw [e] at h
    intro w F2 H2 R2 r2 _ t2
    obtain ⟨d, ed, h⟩ := okl (v := w) (OkE.later t2.noR h)
    obtain ⟨a, ns, rfl, h1, e2⟩ := onInts_rep R2.same (.inl (Rep.same t2.fz r1)) ed
    refine ⟨a, ns, w, rfl, rfl, h1, fun e0 => ?_, fun m hm hy => ?_⟩
    · rw [e0] at e2
      cases e2
      exact okd h R2 (Ext.refl R2.same) r2
    · have hn : ns ≠ [] := fun z => by rw [z] at hm; cases hm
      have hn2 : ¬ ns.isEmpty = true := by simpa using hn
      rw [if_neg hn2] at e2
      cases e2
      have e : m = topOf ns := Int.le_antisymm ((topOf_ok hn).2 m hm) (hy _ (topOf_ok hn).1)
      rw [e]
      exact okd h R2 (Ext.refl R2.same) rfl
  | ex x σ1 => rw [e] at h; exact h
  | bad => rw [e] at h; exact h
end DL
namespace DL
open PySem PySem.Spec PyProof.Rows L2
/-! ### [.. for .. in d.items()] -/
def evLcItems (j : Nat) (vs : List Nat) (s : D → List Sl → Option (List Sl)) (tt : M Bool) (te : M D) : M Sl := fun σ => match σ[j]? with
  | some (.d (.dk ks ds)) => evLc vs s (fun σ => .ok (itemsK ks ds) σ) tt te σ
  | some (.o (.dk ks ds)) => evLc vs s (fun σ => .ok (itemsK ks ds) σ) tt te (σ.set j (.d (.dk ks ds)))
  | _ => .bad
section
variable {K : PySem.W.Frag} {mg : Str → Option Value} {F H : Hp} {σ : List Sl} {τ : List (Option V)} {a : Addr} {u : HO} {od : Obj}
theorem OkE.lock {W W' : WX} {Q : VK} {r : Res Sl} (d : IsDk u) (hF : F a = some u) (s : Same F H) (h : OkE K mg W σ τ F H Q r) (hx : ∀ e σ', r ≠ .ex e σ') :
    OkE K mg W' σ τ (upd F a (.frz od u)) (upd H a (.frz od u)) (fun v H' => H' a = some (.frz od u) ∧ Q v (upd H' a u)) r := by
  match r, h with
  | .ok q σ', h =>
    intro v F2 H2 R rv nv t
    have h1 := t.fz a _ upd_same
    refine ⟨R.same _ _ h1, h v _ _ (R.unlock d h1) ?_ nv (t.unlock hF s)⟩
    have l : Lck (upd F2 a u) F2 a u od := .back d h1
    cases q with
    | d x => exact l.rep' rv
    | o o =>
      obtain ⟨b, q1, q2, q3⟩ := rv
      have hb : b ≠ a := fun z => by rw [z, h1] at q3; cases q3
      exact ⟨b, q1, l.oat' (upd_ne hb) q2, upd_none q3 hb⟩
    | un => exact rv
  | .ex e σ', h => exact absurd rfl (hx e σ')
  | .bad, h => exact False.elim h
theorem PE.or {X : Cx} {e : Expr} {t t' : TE} (h : PE X e t) (h' : PE X e t') : PE X e (fun σ H Q => t σ H Q ∨ t' σ H Q) :=
  ⟨fun pins s σ H Q I q => q.elim (h.run pins s σ H Q I) (h'.run pins s σ H Q I)⟩
theorem lc_noex {vs : List Nat} {s : D → List Sl → Option (List Sl)} {tt : M Bool} {te : M D} {ds : List D} (e : Ex) (σ' : List Sl) : evLc vs s (fun σ => .ok ds σ) tt te σ ≠ .ex e σ' := by
  intro h
  unfold evLc M.bind at h
  dsimp only at h
  split at h
  · split at h
    · cases h
    · cases h
  · cases h
end
theorem do_lcItems {X : Cx} {W : WX} {ts : List Nat} {elt : Expr} {ifs : List Expr} {scope : Scope} {pos px apos cpos tpos : Pos} {elts : List Expr} {kk : Nat} {s : D → List Sl → Option (List Sl)} {tt : M Bool} {te : M D} (own : List (Str × Nat)) (j : Nat) {x : Str} (hc : X.calm = true) (hN : X.N.Nodup) (hj : X.N[j]? = some x) (hvi : Vis X.env.scope x) (ok : BlkOk X.N X.env.scope scope own) (hts : ∀ i ∈ ts, i ∈ own.map (·.2))
    (hg : ∀ (s' : Shared) (H : Hp) (C : Addr) (cl : List (Str × Addr)) (fp : List Addr), DG (X.blk s' H scope (compEnvC scope cl C X.env) fp) ts (.Tuple elts kk tpos) s) (ht : ∀ (s : Shared) (H : Hp) (C : Addr) (cl : List (Str × Addr)) (fp : List Addr), DTs (X.blk s H scope (compEnvC scope cl C X.env) fp) ifs tt)
    (he : ∀ (s : Shared) (H : Hp) (C : Addr) (cl : List (Str × Addr)) (fp : List Addr), DV (X.blk s H scope (compEnvC scope cl C X.env) fp) (fun _ _ _ _ => False) elt te)
    (hd : (x == ("__debug__" : Str)) = false := by decide +kernel) (hcd : (x == ("__classdict__" : Str)) = false := by decide +kernel)
    (hbase : attributeBase (.Name x px) "items" X.env (eval (.Name x px) X.env) = eval (.Name x px) X.env := by rfl) (hline : (apos.endLine == cpos.line) = true := by rfl)
    (hs : ∀ y, foldedSetIterable (.Call (.Attribute (.Name x px) "items" apos) [] [] cpos) X.env y = pure y := by intro _; rfl) :
    DO X W (.ListComp elt [⟨.Tuple elts kk tpos, .Call (.Attribute (.Name x px) "items" apos) [] [] cpos, ifs, 0⟩] scope pos) (evLcItems j (own.map (·.2)) s tt te) := by
  have pf := pe_lc (pos := pos) (g := gD X.K X.mg ts s) (tt := tB_ X.K X.mg (fun _ _ _ _ => False) tt) (te := tO X.K X.mg (fun _ _ _ _ => False) (asS te)) hc hN (pi_items (elts := elts) (kk := kk) (tpos := tpos) (pe_var (pos := px) hj hvi hd hcd) hbase hline) ok
    (fun s' H C cl fp => (hg s' H C cl fp).pg) (fun s' H C cl fp => ht s' H C cl fp) (fun s' H C cl fp => DO.pe (he s' H C cl fp)) hs
  refine ⟨_, PE.or (pe_lock pf) pf, fun F H σ τ Q R h => ?_⟩
  have main : ∀ F σ0 ks ds v0, Rl X.K X.mg F H σ0 τ → τ[j]? = some (some v0) → Rep X.K X.mg F (.dk ks ds) v0 → OkE X.K X.mg W σ0 τ F H Q (evLc (own.map (·.2)) s (fun σ => .ok (itemsK ks ds) σ) tt te σ0) →
      tLockE (tLc (iItems (tVar j)) (gD X.K X.mg ts s) (tB_ X.K X.mg (fun _ _ _ _ => False) tt) (tO X.K X.mg (fun _ _ _ _ => False) (asS te)) (own.map (·.2))) τ H Q ∨
      tLc (iItems (tVar j)) (gD X.K X.mg ts s) (tB_ X.K X.mg (fun _ _ _ _ => False) tt) (tO X.K X.mg (fun _ _ _ _ => False) (asS te)) (own.map (·.2)) τ H Q := by
    intro F σ0 ks ds v0 R et rep h
    simp only [Rep] at rep
    obtain ⟨a, xs, rfl, h1, h2, h3⟩ := rep
    rcases h1 with hF | ⟨od, hF⟩
    · have du : IsDk (.dK (ks.zip xs)) := .inl ⟨_, rfl⟩
      refine .inl ⟨a, _, R.same _ _ hF, trivial, fun od => ?_⟩
      have l : Lck F (upd F a (.frz od (.dK (ks.zip xs)))) a (.dK (ks.zip xs)) od := .of du hF
      refine lc_read1 (W := W) hts (fun Q' q => ?_) (R.lock du hF) (OkE.lock du hF R.same h fun e σ' => lc_noex e σ')
      exact ⟨_, et, a, od, _, rfl, upd_same, q _ _ _ (R.lock du hF) (wk_items upd_same h2 (l.repL h3)) Tr.refl⟩
    · refine .inr (lc_read1 (W := W) hts (fun Q' q => ?_) R h)
      exact ⟨_, et, a, od, _, rfl, R.same _ _ hF, q _ _ _ R (wk_items hF h2 h3) Tr.refl⟩
  unfold evLcItems at h
  cases e : σ[j]? with
  | none => rw [e] at h; exact False.elim h
  | some sl =>
    rw [e] at h
    cases sl with
    | un => exact False.elim h
    | d x =>
      cases x with
      | dk ks ds =>
        obtain ⟨v, h1, h2⟩ := R.val j _ e
        exact main F σ ks ds v R h1 h2 h
      | _ => exact False.elim h
    | o o =>
      cases o with
      | dk ks ds =>
        obtain ⟨a, h1, h2, h3⟩ := R.own j _ e
        obtain ⟨R2, t2⟩ := R.freeze e h1 h2 h3
        exact main _ _ ks ds (.ref a) R2 h1 (OAt.rep h3 h2) (OkE.later t2 h)
      | _ => exact False.elim h
/-! ### try .. except X: -/
def tS (K : PySem.W.Frag) (mg : Str → Option Value) (W : WX) (L : List Nat) (m : M Fl) : TS := fun E τ H => ∃ F σ, Rl K mg F H σ τ ∧ OkS K mg W L σ τ F H E (m σ)
theorem DSs.ps {X : Cx} {W : WX} {L : List Nat} {sts : List Stmt} {m : M Fl} (h : DSs X W L sts m) : PSs X sts (tS X.K X.mg W L m) := by
  obtain ⟨t, p, h⟩ := h
  exact ⟨fun pins s τ H E I ⟨F, σ, R, q⟩ => p.run pins s τ H E I (h F H σ τ E R q)⟩
def evTry (mb : M Fl) (tb : List (Str × Bool)) (ms : M Fl) : M Fl := fun σ => match mb σ with
  | .ex e σ' => (match tb.lookup e.cls with
    | some true => noEx (ms σ')
    | some false => .ex e σ'
    | none => .bad)
  | r => r
theorem ds_tryOnly {X : Cx} {W : WX} {L : List Nat} {x : Str} {c : Value} {body suite : List Stmt} {b₀ : Stmt} {np pos pos' : Pos} {mb ms : M Fl} {tb : List (Str × Bool)} (hs : X.stack = X.env :: X.outer) (hf : X.env.frame = some X.env.locals) (hc : Names X x c) (tk : Takes X W)
    (ht : ∀ (n : Str) (b : Bool) (C : Addr), tb.lookup n = some b → X.mg n = some (.ref C) → PySem.W.exmOne X.K (.ref C) c = some b)
    (hb : ∀ (W : WX) (pn : List (Addr × Obj)) (xe : Value → Shared → Prop), Takes (X.tr pn xe) W → DSs (X.tr pn xe) W L body mb)
    (hsu : ∀ (a : Addr) (oe : Obj) (pn : List (Addr × Obj)), DSs (X.suite a ((a, oe) :: pn)) (fun _ _ _ _ => False) L (b₀ :: suite) ms) :
    DS X W L (.Try body [.ExceptHandler (some (.Name x np)) none (b₀ :: suite) pos'] [] [] pos) (evTry mb tb ms) := by
  refine ⟨_, ps_try_only hs hf hc tk (tb := fun W => tS X.K X.mg W L mb) (ts := fun _ _ _ => tS X.K X.mg (fun _ _ _ _ => False) L ms) (fun W pn xe t _ => (hb W pn xe t).ps) (fun a oe cls d pn _ _ => (hsu a oe pn).ps), fun F H σ τ E R h => ⟨F, σ, R, ?_⟩⟩
  unfold evTry at h
  cases e : mb σ with
  | bad => rw [e] at h; exact h
  | ok f σ1 =>
    rw [e] at h
    cases f <;> exact h
  | ex y σ1 =>
    rw [e] at h
    intro cls dd τ' F' H' R' l t er
    dsimp only at h
    cases e2 : tb.lookup y.cls with
    | none => rw [e2] at h; exact False.elim h
    | some b =>
      rw [e2] at h
      obtain ⟨C, xs, rfl, hm, er⟩ := er
      refine ⟨b, ht _ _ C e2 hm, fun hb a _ => ?_, fun hb => ?_⟩
      · subst hb
        dsimp only at h
        refine ⟨F', σ1, R', OkS.later l t ?_⟩
        cases e3 : ms σ1 with
        | bad => rw [e3] at h; exact h
        | ex _ _ => rw [e3] at h; exact False.elim h
        | ok f σ2 =>
          rw [e3] at h
          cases f <;> exact h
      · subst hb
        exact h _ _ _ _ _ R' l t ⟨C, xs, rfl, hm, er⟩
abbrev kT (x : Str) (tb : List (Str × Bool)) : Ck := fun K => tb.all fun p => (He.Fa.exm p.1 x p.2).ok K && (He.Fa.glo p.1).ok K
theorem Fx.trs {ck : List Ck} {fn : List Fn} {K : PySem.W.Frag} {mg : Str → Option Value} (Z : Fx ck fn K mg) {x : Str} {tb : List (Str × Bool)} (i : Nat) (h : ck[i]? = some (kT x tb) := by rfl) (n : Str) (b : Bool) (C : Addr) (e : tb.lookup n = some b) (hm : mg n = some (.ref C)) : PySem.W.exmOne K (.ref C) (.ref (He.ga K x)) = some b := by
  have c := Z.says.ck i h
  obtain ⟨hp, X, G⟩ := Z.mgs
  obtain ⟨c1, c2⟩ := He.ba (List.all_eq_true.mp c (n, b) (lookup_memS e))
  have e2 := He.glo_ok X G c2
  rw [hm] at e2
  cases e2
  exact He.exm_ok c1
end DL
namespace DL
open PySem PySem.Spec PyProof.Rows L2
/-! ### tables: what a dict holds -/
section
variable {κ : Type} [DecidableEq κ] {ι : Type} [DecidableEq ι]
def getA (es : List (κ × Int)) (k : κ) : Option Int := (es.find? fun e => decide (e.1 = k)).map (·.2)
def putA (es : List (κ × Int)) (k : κ) (v : Int) : List (κ × Int) := if (es.any fun e => decide (e.1 = k)) = true then es.map (fun e => if e.1 = k then (e.1, v) else e) else es ++ [(k, v)]
def keyA (enc : κ → ι) (es : List (κ × Int)) : List ι := es.map fun e => enc e.1
def valA (es : List (κ × Int)) : List D := es.map fun e => .int e.2
variable {enc : κ → ι} (inj : ∀ a b, enc a = enc b → a = b)
include inj
theorem dec_enc {a b : κ} : decide (enc a = enc b) = decide (a = b) := by
  by_cases h : a = b
  · subst h; rw [decide_eq_true rfl, decide_eq_true rfl]
  · rw [decide_eq_false h, decide_eq_false fun z => h (inj _ _ z)]
theorem get_A {k : κ} : ∀ {es : List (κ × Int)}, getK (keyA enc es) (valA es) (enc k) = (getA es k).map .int
  | [] => rfl
  | e :: es => by
    unfold keyA valA getA
    rw [List.map_cons, List.map_cons, List.find?_cons]
    show (if enc e.1 = enc k then some (D.int e.2) else getK (keyA enc es) (valA es) (enc k)) = _
    by_cases h : e.1 = k
    · rw [if_pos (by rw [h]), decide_eq_true h]; rfl
    · rw [if_neg (fun z => h (inj _ _ z)), decide_eq_false h]
      exact get_A (es := es)
theorem any_A {k : κ} (es : List (κ × Int)) : anyK (keyA enc es) (enc k) = es.any fun e => decide (e.1 = k) := by
  unfold anyK keyA
  rw [List.any_map]
  congr 1
  funext e
  exact dec_enc inj
theorem putK_A {k : κ} {v : Int} (es : List (κ × Int)) : dPutK (keyA enc es) (enc k) = keyA enc (putA es k v) := by
  unfold dPutK putA
  rw [any_A inj]
  split
  · unfold keyA
    rw [List.map_map]
    refine List.map_congr_left fun e _ => ?_
    show enc e.1 = enc ((if e.1 = k then (e.1, v) else e)).1
    split <;> rfl
  · unfold keyA
    rw [List.map_append]; rfl
theorem set_A {k : κ} {v : Int} : ∀ es : List (κ × Int), setK (keyA enc es) (valA es) (enc k) (.int v) = valA (es.map fun e => if e.1 = k then (e.1, v) else e)
  | [] => rfl
  | e :: es => by
    show (if enc e.1 = enc k then D.int v else D.int e.2) :: setK (keyA enc es) (valA es) (enc k) (.int v) = D.int ((if e.1 = k then (e.1, v) else e)).2 :: valA (es.map fun e => if e.1 = k then (e.1, v) else e)
    rw [set_A es]
    by_cases h : e.1 = k
    · rw [if_pos (by rw [h]), if_pos h]
    · rw [if_neg (fun z => h (inj _ _ z)), if_neg h]
theorem putV_A {k : κ} {v : Int} (es : List (κ × Int)) : dPutV (keyA enc es) (valA es) (enc k) (.int v) = valA (putA es k v) := by
  unfold dPutV putA
  rw [any_A inj]
  split
  · exact set_A inj es
  · unfold valA
    rw [List.map_append]; rfl
end
section
variable {κ : Type} [DecidableEq κ]
theorem getA_cons {e : κ × Int} {es : List (κ × Int)} {k : κ} : getA (e :: es) k = if e.1 = k then some e.2 else getA es k := by
  unfold getA
  rw [List.find?_cons]
  by_cases h : e.1 = k
  · rw [decide_eq_true h, if_pos h]; rfl
  · rw [decide_eq_false h, if_neg h]
theorem getA_app {k : κ} {m : List (κ × Int)} : ∀ {es : List (κ × Int)}, getA (es ++ m) k = (getA es k).orElse fun _ => getA m k
  | [] => rfl
  | e :: es => by
    rw [List.cons_append, getA_cons, getA_cons, getA_app (es := es)]
    split <;> rfl
theorem getA_map {k j : κ} {v : Int} : ∀ {es : List (κ × Int)}, getA (es.map fun e => if e.1 = k then (e.1, v) else e) j = if j = k then (getA es j).map fun _ => v else getA es j
  | [] => by split <;> rfl
  | e :: es => by
    rw [List.map_cons, getA_cons, getA_cons, getA_map (es := es)]
    by_cases h1 : e.1 = k
    · rw [if_pos h1]
      show (if e.1 = j then some v else _) = _
      by_cases h2 : e.1 = j
      · rw [if_pos h2, if_pos h2, if_pos (h2.symm.trans h1)]; rfl
      · rw [if_neg h2, if_neg h2]
    · rw [if_neg h1]
      by_cases h2 : e.1 = j
      · rw [if_pos h2, if_pos h2, if_neg (fun z => h1 (h2.trans z))]
      · rw [if_neg h2, if_neg h2]
theorem getA_none {k : κ} : ∀ {es : List (κ × Int)}, (es.any fun e => decide (e.1 = k)) = false → getA es k = none
  | [], _ => rfl
  | e :: es, h => by
    rw [List.any_cons, Bool.or_eq_false_iff] at h
    rw [getA_cons, if_neg (of_decide_eq_false h.1), getA_none h.2]
theorem getA_any {k : κ} : ∀ {es : List (κ × Int)}, (es.any fun e => decide (e.1 = k)) = true → ∃ v, getA es k = some v
  | [], h => by cases h
  | e :: es, h => by
    rw [List.any_cons, Bool.or_eq_true] at h
    rw [getA_cons]
    by_cases h1 : e.1 = k
    · exact ⟨_, if_pos h1⟩
    · rw [if_neg h1]
      exact getA_any (h.resolve_left fun z => h1 (of_decide_eq_true z))
theorem getA_put {es : List (κ × Int)} {k j : κ} {v : Int} : getA (putA es k v) j = if j = k then some v else getA es j := by
  unfold putA
  cases e : es.any fun e => decide (e.1 = k) with
  | true =>
    rw [if_pos rfl, getA_map]
    by_cases h : j = k
    · subst h
      obtain ⟨w, hw⟩ := getA_any e
      rw [if_pos rfl, if_pos rfl, hw]; rfl
    · rw [if_neg h, if_neg h]
  | false =>
    rw [if_neg (by decide), getA_app, getA_cons]
    by_cases h : j = k
    · subst h
      rw [getA_none e, if_pos rfl, if_pos rfl]; rfl
    · rw [if_neg h, if_neg fun z => h z.symm]
      show (getA es j).orElse (fun _ => none) = _
      cases getA es j <;> rfl
theorem putA_len {es : List (κ × Int)} {k : κ} {v : Int} : (putA es k v).length ≤ es.length + 1 := by
  unfold putA
  split
  · rw [List.length_map]; omega
  · rw [List.length_append]; simp
def NdA (es : List (κ × Int)) : Prop := (es.map (·.1)).Nodup
theorem NdA.put {es : List (κ × Int)} (h : NdA es) (k : κ) (v : Int) : NdA (putA es k v) := by
  unfold NdA putA
  cases e : es.any fun e => decide (e.1 = k) with
  | true =>
    rw [if_pos rfl, List.map_map]
    have : es.map ((fun e : κ × Int => e.1) ∘ fun e => if e.1 = k then (e.1, v) else e) = es.map (·.1) := List.map_congr_left fun e _ => by
      show ((if e.1 = k then (e.1, v) else e)).1 = e.1
      split <;> rfl
    rw [this]
    exact h
  | false =>
    rw [if_neg (by decide), List.map_append]
    refine List.nodup_append.mpr ⟨h, by simp, fun a ha b hb => ?_⟩
    have hb : b = k := by simpa using hb
    subst hb
    rintro rfl
    obtain ⟨x, hx, hk⟩ := List.mem_map.mp ha
    have := List.any_eq_false.mp e x hx
    exact this (decide_eq_true hk)
theorem NdA.mem {es : List (κ × Int)} (h : NdA es) {k : κ} {v : Int} : getA es k = some v ↔ (k, v) ∈ es := by
  induction es with
  | nil => exact ⟨fun z => (by cases z), fun z => (by cases z)⟩
  | cons e es ih =>
    unfold NdA at h
    rw [List.map_cons, List.nodup_cons] at h
    rw [getA_cons, List.mem_cons]
    by_cases h1 : e.1 = k
    · rw [if_pos h1]
      constructor
      · intro z
        cases z
        exact .inl (by rw [← h1])
      · rintro (z | z)
        · rw [← z]
        · exact absurd (List.mem_map.mpr ⟨(k, v), z, h1.symm⟩) h.1
    · rw [if_neg h1, ih h.2]
      constructor
      · exact .inr
      · rintro (z | z)
        · exact absurd (by rw [← z]) h1
        · exact z
end
/-! ### the costs, as the program makes them -/
def kxy (x y : Int) : List Key := [.inl x, .inl y]
def encP (p : Int × Int) : List Key := kxy p.1 p.2
theorem encP_inj (a b : Int × Int) (h : encP a = encP b) : a = b := by
  obtain ⟨a1, a2⟩ := a
  obtain ⟨b1, b2⟩ := b
  unfold encP kxy at h
  cases h
  rfl
theorem edges_A : ∀ es : List Ed, edgesOf (keyA encP es) (valA es) = some es
  | [] => rfl
  | ((a, b), c) :: es => by
    show (edgesOf (keyA encP es) (valA es)).map (fun r => ((a, b), c) :: r) = _
    rw [edges_A es]; rfl
/-- what a dict of costs holds -/
structure CD (ks : List (List Key)) (ds : List D) (m : Nat) (φ : Int → Int → Option Int) : Prop where
  ed : ∃ es : List Ed, ks = keyA encP es ∧ ds = valA es ∧ es.length ≤ m ∧ NdA es ∧ ∀ x y, getA es (x, y) = φ x y
def upd2 (φ : Int → Int → Option Int) (x y v : Int) : Int → Int → Option Int := fun x' y' => if x' = x ∧ y' = y then some v else φ x' y'
theorem CD.nil {φ : Int → Int → Option Int} (h : ∀ x y, φ x y = none) : CD [] [] 0 φ := ⟨[], rfl, rfl, Nat.le_refl _, List.nodup_nil, fun x y => (h x y).symm⟩
theorem CD.put {ks : List (List Key)} {ds : List D} {m : Nat} {φ : Int → Int → Option Int} (h : CD ks ds m φ) (x y v : Int) : CD (dPutK ks (kxy x y)) (dPutV ks ds (kxy x y) (.int v)) (m + 1) (upd2 φ x y v) := by
  obtain ⟨es, rfl, rfl, hl, nd, hg⟩ := h.ed
  refine ⟨putA es (x, y) v, putK_A encP_inj (k := (x, y)) es, putV_A encP_inj (k := (x, y)) es, Nat.le_trans putA_len (by omega), nd.put _ _, fun x' y' => ?_⟩
  rw [getA_put, hg]
  unfold upd2
  by_cases e : x' = x ∧ y' = y
  · rw [if_pos e, if_pos (by rw [e.1, e.2])]
  · rw [if_neg e, if_neg fun z => e ⟨congrArg Prod.fst z, congrArg Prod.snd z⟩]
theorem CD.eq {ks : List (List Key)} {ds : List D} {m m' : Nat} {φ ψ : Int → Int → Option Int} (h : CD ks ds m φ) (hm : m ≤ m') (e : ∀ x y, φ x y = ψ x y) : CD ks ds m' ψ :=
  let ⟨es, a, b, c, d, g⟩ := h.ed; ⟨es, a, b, Nat.le_trans c hm, d, fun x y => by rw [← e]; exact g x y⟩
theorem CD.at_ {ks : List (List Key)} {ds : List D} {m : Nat} {φ : Int → Int → Option Int} (h : CD ks ds m φ) (x y : Int) : getK ks ds (kxy x y) = (φ x y).map .int := by
  obtain ⟨es, rfl, rfl, hl, nd, hg⟩ := h.ed
  rw [← hg]
  exact get_A encP_inj (k := (x, y))
theorem CD.big {ks : List (List Key)} {ds : List D} {m : Nat} {φ : Int → Int → Option Int} (h : CD ks ds m φ) : ks.length ≤ m := by
  obtain ⟨es, rfl, rfl, hl, nd, hg⟩ := h.ed
  unfold keyA
  rw [List.length_map]
  exact hl
theorem o_setT {ks : List (List Key)} {ds : List D} {m : Nat} {φ : Int → Int → Option Int} (h : CD ks ds m φ) (hm : m < szMax) {x y v : Int} {P : O → Prop}
    (q : ∀ ks' ds', CD ks' ds' (m + 1) (upd2 φ x y v) → P (.dt ks' ds')) : owp (setD (.dt ks ds) (.tup [.int x, .int y]) (.int v)) P := by
  have e : setD (.dt ks ds) (.tup [.int x, .int y]) (.int v) = some (.dt (dPutK ks (kxy x y)) (dPutV ks ds (kxy x y) (.int v))) := by
    show (if ks.length < szMax then _ else none) = _
    rw [if_pos (by have := h.big; omega)]; rfl
  exact owp_some e (q _ _ (h.put x y v))
theorem o_getT {ks : List (List Key)} {ds : List D} {m : Nat} {φ : Int → Int → Option Int} (h : CD ks ds m φ) {x y : Int} {z : D} {P : D → Prop}
    (q : P (((φ x y).map .int).getD z)) : owp (getDD (.dt ks ds) (.tup [.int x, .int y]) z) P := by
  have e : getDD (.dt ks ds) (.tup [.int x, .int y]) z = some (((φ x y).map .int).getD z) := by
    show some ((getK ks ds (kxy x y)).getD z) = _
    rw [h.at_]
  exact owp_some e q
def phi1 (l : List Nat) (p : Int) (x y : Int) : Option Int :=
  if y = x + 1 ∧ 0 ≤ x ∧ x < p then some (if l[x.toNat]? == some 46 then 0 else 1) else if x = y + 1 ∧ 0 ≤ y ∧ y < p then some (if l[y.toNat]? == some 120 then -1 else 0) else none
theorem phi1_step {l : List Nat} {p : Nat} (x y : Int) : upd2 (upd2 (phi1 l p) p (p + 1) (if l[p]? == some 46 then 0 else 1)) (p + 1) p (if l[p]? == some 120 then -1 else 0) x y = phi1 l (p + 1 : Nat) x y := by
  unfold upd2 phi1
  have c1 : (y = x + 1 ∧ 0 ≤ x ∧ x < ((p + 1 : Nat) : Int)) ↔ (y = x + 1 ∧ 0 ≤ x ∧ x < p) ∨ (x = p ∧ y = p + 1) := by omega
  have c2 : (x = y + 1 ∧ 0 ≤ y ∧ y < ((p + 1 : Nat) : Int)) ↔ (x = y + 1 ∧ 0 ≤ y ∧ y < p) ∨ (x = p + 1 ∧ y = p) := by omega
  by_cases h1 : x = p + 1 ∧ y = p
  · rw [if_pos h1, if_neg (show ¬ (y = x + 1 ∧ 0 ≤ x ∧ x < ((p + 1 : Nat) : Int)) by omega), if_pos (c2.mpr (.inr h1)), h1.2, Int.toNat_natCast]
  · rw [if_neg h1]
    by_cases h2 : x = p ∧ y = p + 1
    · rw [if_pos h2, if_pos (c1.mpr (.inr h2)), h2.1, Int.toNat_natCast]
    · rw [if_neg h2]
      by_cases h3 : y = x + 1 ∧ 0 ≤ x ∧ x < p
      · rw [if_pos h3, if_pos (c1.mpr (.inl h3))]
      · rw [if_neg h3, if_neg (fun z => (c1.mp z).elim h3 h2)]
        by_cases h4 : x = y + 1 ∧ 0 ≤ y ∧ y < p
        · rw [if_pos h4, if_pos (c2.mpr (.inl h4))]
        · rw [if_neg h4, if_neg (fun z => (c2.mp z).elim h4 h1)]
def mrg (φ : Int → Int → Option Int) (q : Int × Int) (p : Int) (x y : Int) : Option Int := if x + q.1 = y ∧ 0 ≤ x ∧ x < p then some (min ((φ x y).getD (q.2 - 1)) (q.2 - 1)) else φ x y
theorem mrg_step {φ : Int → Int → Option Int} {q : Int × Int} {p : Nat} (x y : Int) : upd2 (mrg φ q p) p (p + q.1) (min ((φ p (p + q.1)).getD (q.2 - 1)) (q.2 - 1)) x y = mrg φ q (p + 1 : Nat) x y := by
  unfold upd2 mrg
  have c1 : (x + q.1 = y ∧ 0 ≤ x ∧ x < ((p + 1 : Nat) : Int)) ↔ (x + q.1 = y ∧ 0 ≤ x ∧ x < p) ∨ (x = p ∧ y = p + q.1) := by omega
  by_cases h1 : x = p ∧ y = p + q.1
  · rw [if_pos h1, if_pos (c1.mpr (.inr h1)), h1.1, h1.2]
  · rw [if_neg h1]
    by_cases h2 : x + q.1 = y ∧ 0 ≤ x ∧ x < p
    · rw [if_pos h2, if_pos (c1.mpr (.inl h2))]
    · rw [if_neg h2, if_neg (fun z => (c1.mp z).elim h2 h1)]
def width (l : List Nat) (q : Int × Int) : Int := (l.length : Int) - q.1 + 1
theorem mrg0 {φ : Int → Int → Option Int} {q : Int × Int} (x y : Int) : φ x y = mrg φ q (0 : Nat) x y := by
  unfold mrg
  rw [if_neg (by omega)]
theorem mrg_neg {φ : Int → Int → Option Int} {q : Int × Int} {w : Int} (x y : Int) : mrg φ q (w.toNat : Nat) x y = mrg φ q w x y := by
  unfold mrg
  by_cases h : x + q.1 = y ∧ 0 ≤ x ∧ x < w
  · rw [if_pos h, if_pos (by omega)]
  · rw [if_neg h, if_neg (by omega)]
/-- all costs -/
def phi (l : List Nat) (ps : List (Int × Int)) : Int → Int → Option Int := ps.foldl (fun φ q => mrg φ q (width l q)) (phi1 l l.length)
theorem phi_take {l : List Nat} {ps : List (Int × Int)} {i : Nat} {q : Int × Int} (h : ps[i]? = some q) : phi l (ps.take (i + 1)) = mrg (phi l (ps.take i)) q (width l q) := by
  unfold phi
  rw [List.take_succ, h, List.foldl_append]; rfl
end DL
namespace DL
/-! ### the cheapest ways: plain -/
/-- steps lead from place to place, n the last -/
structure Gr (φ : Int → Int → Option Int) (n : Nat) (es : List Ed) : Prop where
  mem : ∀ x y c, ((x, y), c) ∈ es ↔ φ x y = some c
  dom : ∀ x y c, φ x y = some c → (0 ≤ x ∧ x ≤ n) ∧ (0 ≤ y ∧ y ≤ n)
/-- never more than a step's cost -/
def Fea (φ : Int → Int → Option Int) (q : Int → Int) : Prop := ∀ x y c, φ x y = some c → q y ≤ q x + c
/-- a way without a place twice -/
inductive SW (φ : Int → Int → Option Int) (s : Int) : List Int → Int → Int → Prop
  | st : SW φ s [s] s 0
  | up {V x g y c} : SW φ s V x g → φ x y = some c → y ∉ V → SW φ s (y :: V) y (g + c)
section
variable {φ : Int → Int → Option Int} {n : Nat} {es : List Ed} {s : Int} {q : Int → Int}
theorem SW.nd {V : List Int} {x g : Int} (h : SW φ s V x g) : V.Nodup := by
  induction h with
  | st => simp
  | up h e ny ih => exact List.nodup_cons.mpr ⟨ny, ih⟩
theorem SW.dom {V : List Int} {x g : Int} (G : Gr φ n es) (hs : 0 ≤ s ∧ s ≤ n) (h : SW φ s V x g) : ∀ v ∈ V, 0 ≤ v ∧ v ≤ n := by
  induction h with
  | st => intro v hv; rw [List.mem_singleton.mp hv]; exact hs
  | up h e ny ih =>
    intro v hv
    rcases List.mem_cons.mp hv with rfl | hv
    · exact (G.dom _ _ _ e).2
    · exact ih v hv
theorem nodup_le : ∀ (n : Nat) (V : List Int), V.Nodup → (∀ v ∈ V, 0 ≤ v ∧ v < n) → V.length ≤ n
  | 0, [], _, _ => Nat.le_refl _
  | 0, v :: V, _, h => by have := h v (List.mem_cons_self ..); omega
  | n + 1, V, nd, h => by
    have h1 := nodup_le n (V.filter fun v => decide (v ≠ (n : Int))) (nd.sublist List.filter_sublist) fun v hv => by
      have h2 := List.mem_filter.mp hv
      have := h v h2.1
      have := of_decide_eq_true h2.2
      omega
    have h3 : ∀ V : List Int, V.Nodup → V.length ≤ (V.filter fun v => decide (v ≠ (n : Int))).length + 1 := by
      intro V
      induction V with
      | nil => intro _; simp
      | cons v V ih =>
        intro nd
        obtain ⟨n1, n2⟩ := List.nodup_cons.mp nd
        rw [List.filter_cons]
        by_cases e : v = n
        · rw [if_neg (by simp [e])]
          have : V.filter (fun v => decide (v ≠ (n : Int))) = V := List.filter_eq_self.mpr fun w hw => decide_eq_true fun z => n1 (by rw [e, ← z]; exact hw)
          rw [this]; simp
        · rw [if_pos (by simp [e])]
          have := ih n2
          simp only [List.length_cons]
          omega
    have := h3 V nd
    omega
theorem SW.len {V : List Int} {x g : Int} (G : Gr φ n es) (hs : 0 ≤ s ∧ s ≤ n) (h : SW φ s V x g) : V.length ≤ n + 1 :=
  nodup_le (n + 1) V h.nd fun v hv => by have := h.dom G hs v hv; omega
theorem SW.fea {V : List Int} {x g : Int} (hq : Fea φ q) (h : SW φ s V x g) : q x - q s ≤ g := by
  induction h with
  | st => omega
  | up h e ny ih => have := hq _ _ _ e; omega
theorem SW.pre {V : List Int} {x g y : Int} (hq : Fea φ q) (h : SW φ s V x g) (hy : y ∈ V) : ∃ V' g', SW φ s V' y g' ∧ g' - q y ≤ g - q x := by
  induction h with
  | st => rw [List.mem_singleton.mp hy]; exact ⟨_, _, .st, Int.le_refl _⟩
  | @up V x g z c h e nz ih =>
    rcases List.mem_cons.mp hy with rfl | hy
    · exact ⟨_, _, .up h e nz, Int.le_refl _⟩
    · obtain ⟨V', g', h1, h2⟩ := ih hy
      have := hq _ _ _ e
      exact ⟨V', g', h1, by omega⟩
theorem SW.ext {V : List Int} {x g y c : Int} (hq : Fea φ q) (h : SW φ s V x g) (e : φ x y = some c) : ∃ V' g', SW φ s V' y g' ∧ g' ≤ g + c := by
  by_cases hy : y ∈ V
  · obtain ⟨V', g', h1, h2⟩ := h.pre hq hy
    have := hq _ _ _ e
    exact ⟨V', g', h1, by omega⟩
  · exact ⟨_, _, .up h e hy, Int.le_refl _⟩
end
/-! the tables of the program -/
theorem getI_A (l : T2) (k : Int) : getI l k = getA l k := rfl
theorem getI_put {l : T2} {k j v : Int} : getI (putI l k v) j = if j = k then some v else getI l j := getA_put (es := l)
/-- less or equal, where it is known -/
def LeT (a b : T2) : Prop := ∀ y g, getI a y = some g → ∃ g', getI b y = some g' ∧ g' ≤ g
theorem LeT.refl {a : T2} : LeT a a := fun _ g h => ⟨g, h, Int.le_refl _⟩
theorem LeT.trans {a b c : T2} (h : LeT a b) (k : LeT b c) : LeT a c := fun y g e => by
  obtain ⟨g', e1, h1⟩ := h y g e
  obtain ⟨g2, e2, h2⟩ := k y g' e1
  exact ⟨g2, e2, by omega⟩
theorem look_le (fb : T2 × T2) (e : Ed) : LeT fb.1 (lookP fb e).1 := by
  intro y g h
  unfold lookP
  cases h1 : getI fb.1 e.1.1 with
  | none => exact ⟨g, h, Int.le_refl _⟩
  | some w =>
    dsimp only
    cases h2 : getI fb.1 e.1.2 with
    | none =>
      dsimp only
      rw [getI_put, if_neg (fun z => by rw [z, h2] at h; cases h)]
      exact ⟨g, h, Int.le_refl _⟩
    | some u =>
      dsimp only
      by_cases hc : w + e.2 < u
      · rw [if_pos hc]
        dsimp only
        rw [getI_put]
        by_cases hy : y = e.1.2
        · subst hy
          rw [if_pos rfl]
          rw [h2] at h
          cases h
          exact ⟨_, rfl, by omega⟩
        · rw [if_neg hy]
          exact ⟨g, h, Int.le_refl _⟩
      · rw [if_neg hc]
        exact ⟨g, h, Int.le_refl _⟩
theorem look_hit (fb : T2 × T2) (e : Ed) {g : Int} (h : getI fb.1 e.1.1 = some g) : ∃ g', getI (lookP fb e).1 e.1.2 = some g' ∧ g' ≤ g + e.2 := by
  unfold lookP
  rw [h]
  dsimp only
  cases h2 : getI fb.1 e.1.2 with
  | none =>
    dsimp only
    rw [getI_put, if_pos rfl]
    exact ⟨_, rfl, Int.le_refl _⟩
  | some u =>
    dsimp only
    by_cases hc : g + e.2 < u
    · rw [if_pos hc]
      dsimp only
      rw [getI_put, if_pos rfl]
      exact ⟨_, rfl, Int.le_refl _⟩
    · rw [if_neg hc]
      exact ⟨u, h2, by omega⟩
theorem round_le : ∀ (es : List Ed) (fb : T2 × T2), LeT fb.1 (roundP es fb).1
  | [], fb => LeT.refl
  | e :: es, fb => (look_le fb e).trans (round_le es (lookP fb e))
theorem round_hit : ∀ (es : List Ed) (fb : T2 × T2) {e : Ed} {g : Int}, e ∈ es → getI fb.1 e.1.1 = some g → ∃ g', getI (roundP es fb).1 e.1.2 = some g' ∧ g' ≤ g + e.2
  | [], fb, e, g, he, h => by cases he
  | d :: es, fb, e, g, he, h => by
    rcases List.mem_cons.mp he with rfl | he
    · obtain ⟨g1, h1, h2⟩ := look_hit fb e h
      obtain ⟨g2, h3, h4⟩ := round_le es (lookP fb e) _ _ h1
      exact ⟨g2, h3, by omega⟩
    · obtain ⟨g1, h1, h2⟩ := look_le fb d _ _ h
      obtain ⟨g2, h3, h4⟩ := round_hit es (lookP fb d) he h1
      exact ⟨g2, h3, by omega⟩
/-- what holds at each look -/
structure TI (φ : Int → Int → Option Int) (s : Int) (fb : T2 × T2) : Prop where
  way : ∀ y g, getI fb.1 y = some g → ∃ V g', SW φ s V y g' ∧ g' ≤ g
  low : ∀ q, Fea φ q → ∀ y g, getI fb.1 y = some g → q y - q s ≤ g
  at_ : ∃ g, getI fb.1 s = some g ∧ g ≤ 0
section
variable {φ : Int → Int → Option Int} {n : Nat} {es : List Ed} {s : Int} {q : Int → Int}
theorem TI.st : TI φ s ([(s, 0)], []) := by
  have h : ∀ y, getI [(s, 0)] y = if s = y then some 0 else none := fun y => by
    rw [getI_A, getA_cons]; rfl
  refine ⟨fun y g e => ?_, fun q hq y g e => ?_, ⟨0, by rw [h, if_pos rfl], Int.le_refl _⟩⟩
  · rw [h] at e
    split at e
    · rename_i hy
      cases e
      subst hy
      exact ⟨_, _, .st, Int.le_refl _⟩
    · cases e
  · rw [h] at e
    split at e
    · rename_i hy
      cases e
      subst hy
      omega
    · cases e
theorem TI.look (hq : Fea φ q) {fb : T2 × T2} (t : TI φ s fb) {x y c : Int} (e : φ x y = some c) : TI φ s (lookP fb ((x, y), c)) := by
  have put : ∀ {w : Int}, getI fb.1 x = some w → ∀ z g, getI (putI fb.1 y (w + c)) z = some g → (z = y ∧ g = w + c) ∨ getI fb.1 z = some g := fun {w} hw z g h => by
    rw [getI_put] at h
    split at h
    · rename_i hz
      cases h
      exact .inl ⟨hz, rfl⟩
    · exact .inr h
  refine ⟨fun z g h => ?_, fun q' hq' z g h => ?_, ?_⟩
  · have main : ∀ w, getI fb.1 x = some w → getI (putI fb.1 y (w + c)) z = some g → ∃ V g', SW φ s V z g' ∧ g' ≤ g := fun w hw h => by
      rcases put hw z g h with ⟨rfl, rfl⟩ | h
      · obtain ⟨V, g1, h1, h2⟩ := t.way x w hw
        obtain ⟨V', g2, h3, h4⟩ := h1.ext hq e
        exact ⟨V', g2, h3, by omega⟩
      · exact t.way z g h
    unfold lookP at h
    dsimp only at h
    cases h1 : getI fb.1 x with
    | none => rw [h1] at h; exact t.way z g h
    | some w =>
      rw [h1] at h
      dsimp only at h
      cases h2 : getI fb.1 y with
      | none => rw [h2] at h; exact main w h1 h
      | some u =>
        rw [h2] at h
        dsimp only at h
        split at h
        · exact main w h1 h
        · exact t.way z g h
  · have main : ∀ w, getI fb.1 x = some w → getI (putI fb.1 y (w + c)) z = some g → q' z - q' s ≤ g := fun w hw h => by
      rcases put hw z g h with ⟨rfl, rfl⟩ | h
      · have h1 := t.low q' hq' x w hw
        have h2 := hq' _ _ _ e
        omega
      · exact t.low q' hq' z g h
    unfold lookP at h
    dsimp only at h
    cases h1 : getI fb.1 x with
    | none => rw [h1] at h; exact t.low q' hq' z g h
    | some w =>
      rw [h1] at h
      dsimp only at h
      cases h2 : getI fb.1 y with
      | none => rw [h2] at h; exact main w h1 h
      | some u =>
        rw [h2] at h
        dsimp only at h
        split at h
        · exact main w h1 h
        · exact t.low q' hq' z g h
  · obtain ⟨g, h1, h2⟩ := t.at_
    obtain ⟨g', h3, h4⟩ := look_le fb ((x, y), c) _ _ h1
    exact ⟨g', h3, by omega⟩
theorem TI.round (hq : Fea φ q) : ∀ (es : List Ed), (∀ e ∈ es, φ e.1.1 e.1.2 = some e.2) → ∀ {fb : T2 × T2}, TI φ s fb → TI φ s (roundP es fb)
  | [], _, fb, t => t
  | ((x, y), c) :: es, h, fb, t => TI.round hq es (fun e he => h e (List.mem_cons_of_mem _ he)) (t.look hq (h _ (List.mem_cons_self ..)))
theorem TI.tour (hq : Fea φ q) (G : Gr φ n es) : ∀ k, TI φ s (tourP es k ([(s, 0)], []))
  | 0 => TI.st
  | k + 1 => TI.round hq es (fun e he => (G.mem _ _ _).mp he) (TI.tour hq G k)
theorem tour_sw (G : Gr φ n es) {V : List Int} {y f : Int} (h : SW φ s V y f) : ∀ k, V.length ≤ k + 1 → ∃ g, getI (tourP es k ([(s, 0)], [])).1 y = some g ∧ g ≤ f := by
  induction h with
  | st =>
    intro k hk
    have : ∀ k, ∃ g, getI (tourP es k ([(s, 0)], [])).1 s = some g ∧ g ≤ 0 := fun k => by
      induction k with
      | zero => exact ⟨0, by show getI [(s, 0)] s = _; rw [getI_A, getA_cons, if_pos rfl], Int.le_refl _⟩
      | succ k ih =>
        obtain ⟨g, h1, h2⟩ := ih
        obtain ⟨g', h3, h4⟩ := round_le es _ _ _ h1
        exact ⟨g', h3, by omega⟩
    exact this k
  | @up V x g y c h e ny ih =>
    intro k hk
    cases k with
    | zero => cases h <;> simp at hk
    | succ k =>
      obtain ⟨g1, h1, h2⟩ := ih k (by simpa using hk)
      obtain ⟨g2, h3, h4⟩ := round_hit es (tourP es k ([(s, 0)], [])) ((G.mem _ _ _).mpr e) h1
      exact ⟨g2, h3, by dsimp only at h4; omega⟩
/-- what a tour holds when it is made -/
structure TourOk (φ : Int → Int → Option Int) (n : Nat) (s : Int) (far : T2) : Prop where
  here : ∀ y : Int, 0 ≤ y → y ≤ n → ∃ g, getI far y = some g
  zero : getI far s = some 0
  step : ∀ x y c g, φ x y = some c → getI far x = some g → ∃ g', getI far y = some g' ∧ g' ≤ g + c
  low : ∀ q, Fea φ q → ∀ y g, getI far y = some g → q y - q s ≤ g
theorem tour_ok (G : Gr φ n es) (hq : Fea φ q) (hs : 0 ≤ s ∧ s ≤ n) (next : ∀ x : Int, 0 ≤ x → x < n → (∃ c, φ x (x + 1) = some c) ∧ ∃ c, φ (x + 1) x = some c) : TourOk φ n s (tourP es (n + 1) ([(s, 0)], [])).1 := by
  have t := TI.tour (s := s) hq G (n + 1)
  have st : ∀ x y c g, φ x y = some c → getI (tourP es (n + 1) ([(s, 0)], [])).1 x = some g → ∃ g', getI (tourP es (n + 1) ([(s, 0)], [])).1 y = some g' ∧ g' ≤ g + c := fun x y c g e h => by
    obtain ⟨V, g1, h1, h2⟩ := t.way x g h
    obtain ⟨V', g2, h3, h4⟩ := h1.ext hq e
    obtain ⟨g3, h5, h6⟩ := tour_sw G h3 (n + 1) (by have := h3.len G hs; omega)
    exact ⟨g3, h5, by omega⟩
  obtain ⟨g0, h0, h0'⟩ := t.at_
  have z : getI (tourP es (n + 1) ([(s, 0)], [])).1 s = some 0 := by
    have := t.low q hq s g0 h0
    rw [h0]
    congr 1
    omega
  refine ⟨fun y y0 y1 => ?_, z, st, t.low⟩
  have up : ∀ k : Nat, s + k ≤ n → ∃ g, getI (tourP es (n + 1) ([(s, 0)], [])).1 (s + k) = some g := fun k => by
    induction k with
    | zero => intro _; exact ⟨0, by rw [show s + ((0 : Nat) : Int) = s by omega]; exact z⟩
    | succ k ih =>
      intro hk
      obtain ⟨g, hg⟩ := ih (by omega)
      obtain ⟨⟨c, hc⟩, _⟩ := next (s + k) (by omega) (by omega)
      obtain ⟨g', h1, _⟩ := st _ _ _ _ hc hg
      exact ⟨g', by rw [show s + ((k + 1 : Nat) : Int) = s + k + 1 by omega]; exact h1⟩
  have dn : ∀ k : Nat, 0 ≤ s - k → ∃ g, getI (tourP es (n + 1) ([(s, 0)], [])).1 (s - k) = some g := fun k => by
    induction k with
    | zero => intro _; exact ⟨0, by rw [show s - ((0 : Nat) : Int) = s by omega]; exact z⟩
    | succ k ih =>
      intro hk
      obtain ⟨g, hg⟩ := ih (by omega)
      obtain ⟨_, ⟨c, hc⟩⟩ := next (s - ((k + 1 : Nat) : Int)) (by omega) (by omega)
      rw [show s - ((k + 1 : Nat) : Int) + 1 = s - k by omega] at hc
      obtain ⟨g', h1, _⟩ := st _ _ _ _ hc hg
      exact ⟨g', h1⟩
  by_cases h : s ≤ y
  · obtain ⟨g, hg⟩ := up (y - s).toNat (by omega)
    exact ⟨g, by rw [show s + (((y - s).toNat : Nat) : Int) = y by omega] at hg; exact hg⟩
  · obtain ⟨g, hg⟩ := dn (s - y).toNat (by omega)
    exact ⟨g, by rw [show s - (((s - y).toNat : Nat) : Int) = y by omega] at hg; exact hg⟩
end
end DL
namespace DL
open PySem
/-! ### alarms, signs, what rings: plain -/
def pairsD (l : List (Int × Int)) : List D := l.map fun p => .tup [.int p.1, .int p.2]
def PairsOk (l : List (Int × Int)) : Prop := ∀ p ∈ l, 1 ≤ p.2 ∧ p.2 ≤ p.1 ∧ p.1 ≤ 8
theorem pairsD_len (l : List (Int × Int)) : (pairsD l).length = l.length := List.length_map ..
theorem pairsD_app (l : List (Int × Int)) (p : Int × Int) : pairsD l ++ [.tup [.int p.1, .int p.2]] = pairsD (l ++ [p]) := by
  unfold pairsD
  rw [List.map_append]; rfl
def alarmD (p : Int × Int) : D := .ins "Alarm" ["span", "least"] [.int p.1, .int p.2]
def Sgn (l : List Nat) : Prop := ∀ c ∈ l, c = 120 ∨ c = 46
theorem Sgn.app {l m : List Nat} (h : Sgn l) (k : Sgn m) : Sgn (l ++ m) := fun c hc => (List.mem_append.mp hc).elim (h c) (k c)
theorem Sgn.one {c : Nat} (h : c = 120 ∨ c = 46) : Sgn [c] := fun d hd => by cases List.mem_singleton.mp hd; exact h
theorem Sgn.rep {c k : Nat} (h : c = 120 ∨ c = 46) : Sgn (List.replicate k c) := fun d hd => by rw [List.eq_of_mem_replicate hd]; exact h
theorem sing_flat {α : Type} (xs : List α) : (xs.map fun x => [x]).flatten = xs := by
  induction xs with
  | nil => rfl
  | cons x xs ih => rw [List.map_cons, List.flatten_cons, ih]; rfl
def Sg3 (l : List Nat) : Prop := ∀ c ∈ l, c = 120 ∨ c = 46 ∨ c = 63
theorem Sg3.app {l m : List Nat} (h : Sg3 l) (k : Sg3 m) : Sg3 (l ++ m) := fun c hc => (List.mem_append.mp hc).elim (h c) (k c)
theorem Sg3.one {c : Nat} (h : c = 120 ∨ c = 46 ∨ c = 63) : Sg3 [c] := fun d hd => by cases List.mem_singleton.mp hd; exact h
theorem Sg3.rep {c k : Nat} (h : c = 120 ∨ c = 46 ∨ c = 63) : Sg3 (List.replicate k c) := fun d hd => by rw [List.eq_of_mem_replicate hd]; exact h
theorem Sgn.s3 {l : List Nat} (h : Sgn l) : Sg3 l := fun c hc => (h c hc).elim .inl fun z => .inr (.inl z)
def rg (q : Int × Int) (l : List Nat) (p : Nat) : Bool := decide ((p : Int) + q.1 ≤ l.length) && decide (q.2 ≤ (((l.drop p).take q.1.toNat).count 120 : Nat))
/-- bad ones before a place -/
def cb (t : List Nat) (p : Nat) : Nat := (t.take p).count 120
theorem cb_zero (t : List Nat) : cb t 0 = 0 := rfl
theorem cb_add (t : List Nat) (p w : Nat) : cb t (p + w) = cb t p + ((t.drop p).take w).count 120 := by
  unfold cb
  rw [List.take_add, List.count_append]
theorem cb_succ {t : List Nat} {p c : Nat} (h : t[p]? = some c) : cb t (p + 1) = cb t p + if c = 120 then 1 else 0 := by
  unfold cb
  rw [List.take_succ, h, List.count_append]
  congr 1
  show List.count 120 [c] = _
  rw [List.count_singleton]
  by_cases e : c = 120
  · rw [if_pos e, if_pos (by simpa using e)]
  · rw [if_neg e, if_neg (by simpa using e)]
theorem cb_len (t : List Nat) : cb t t.length = t.count 120 := by unfold cb; rw [List.take_length]
/-- no alarm rings -/
def QT (ps : List (Int × Int)) (t : List Nat) : Prop := ∀ q ∈ ps, ∀ p : Nat, rg q t p = false
def isQ (ps : List (Int × Int)) (t : List Nat) : Bool := ps.all fun q => ((List.range t.length).filter (rg q t)).isEmpty
theorem rg_false {q : Int × Int} {t : List Nat} {p : Nat} (h0 : 0 ≤ q.1) : rg q t p = false ↔ ((p : Int) + q.1 ≤ t.length → ((cb t (p + q.1.toNat) : Nat) : Int) - (cb t p : Nat) ≤ q.2 - 1) := by
  unfold rg
  rw [cb_add, Bool.and_eq_false_iff, decide_eq_false_iff_not, decide_eq_false_iff_not]
  constructor
  · intro h h1
    rcases h with h | h
    · exact absurd h1 h
    · omega
  · intro h
    by_cases h1 : (p : Int) + q.1 ≤ t.length
    · have := h h1
      exact .inr (by omega)
    · exact .inl h1
theorem isQ_iff {ps : List (Int × Int)} (ok : PairsOk ps) {t : List Nat} : isQ ps t = true ↔ QT ps t := by
  unfold isQ QT
  rw [List.all_eq_true]
  constructor
  · intro h q hq p
    have h1 := h q hq
    rw [List.isEmpty_iff] at h1
    cases e : rg q t p with
    | false => rfl
    | true =>
      have hp : p < t.length := by
        unfold rg at e
        have := of_decide_eq_true (Bool.and_eq_true_iff.mp e).1
        have := ok q hq
        omega
      have : p ∈ (List.range t.length).filter (rg q t) := List.mem_filter.mpr ⟨List.mem_range.mpr hp, e⟩
      rw [h1] at this
      cases this
  · intro h q hq
    rw [List.isEmpty_iff]
    refine List.filter_eq_nil_iff.mpr fun p _ => ?_
    rw [h q hq p]
    decide
/-! fillings -/
structure Fill (l t : List Nat) : Prop where
  len : t.length = l.length
  sgn : Sgn t
  at_ : ∀ (i c : Nat), l[i]? = some c → c = 63 ∨ t[i]? = some c
structure QF (l : List Nat) (ps : List (Int × Int)) (t : List Nat) : Prop where
  fill : Fill l t
  quiet : QT ps t
def repl (l : List Nat) : List Nat := l.map fun c => if c = 63 then 46 else c
theorem repl_fill {l : List Nat} (h : Sg3 l) : Fill l (repl l) := by
  refine ⟨List.length_map .., fun c hc => ?_, fun i c hc => ?_⟩
  · obtain ⟨a, ha, rfl⟩ := List.mem_map.mp hc
    rcases h a ha with rfl | rfl | rfl <;> simp
  · by_cases e : c = 63
    · exact .inl e
    · right
      unfold repl
      rw [List.getElem?_map, hc]
      show some (if c = 63 then 46 else c) = _
      rw [if_neg e]
theorem repl_le {l t : List Nat} (h : Fill l t) : ∀ (p k : Nat), p + k ≤ l.length → cb (repl l) (p + k) + cb t p ≤ cb t (p + k) + cb (repl l) p
  | p, 0, _ => by rw [Nat.add_zero]; omega
  | p, k + 1, hk => by
    have ih := repl_le h p k (by omega)
    have h1 : p + k < l.length := by omega
    have e1 : l[p + k]? = some l[p + k] := List.getElem?_eq_getElem h1
    have e2 : (repl l)[p + k]? = some (if l[p + k] = 63 then 46 else l[p + k]) := by
      unfold repl
      rw [List.getElem?_map, e1]; rfl
    have h2 : p + k < t.length := by rw [h.len]; exact h1
    have e3 : t[p + k]? = some t[p + k] := List.getElem?_eq_getElem h2
    rw [← Nat.add_assoc, cb_succ e2, cb_succ e3]
    by_cases e : l[p + k] = 63
    · rw [if_pos e, if_neg (by decide)]
      omega
    · rw [if_neg e]
      have := (h.at_ _ _ e1).resolve_left e
      rw [e3] at this
      rw [Option.some.inj this]
      omega
/-- there is a quiet filling exactly if the unknown ones may be good -/
theorem hasF {l : List Nat} {ps : List (Int × Int)} (ok : PairsOk ps) (h3 : Sg3 l) : (∃ t, QF l ps t) ↔ isQ ps (repl l) = true := by
  constructor
  · rintro ⟨t, f, qt⟩
    rw [isQ_iff ok]
    intro q hq p
    rw [rg_false (by have := ok q hq; omega)]
    intro hp
    have h1 := (rg_false (by have := ok q hq; omega)).mp (qt q hq p)
    have hl : (repl l).length = l.length := List.length_map ..
    have h2 := repl_le f p q.1.toNat (by have := ok q hq; rw [hl] at hp; omega)
    have h3 := h1 (by rw [f.len]; rw [hl] at hp; exact hp)
    omega
  · intro h
    exact ⟨repl l, repl_fill h3, (isQ_iff ok).mp h⟩
/-! potentials -/
theorem fea_mrg {φ : Int → Int → Option Int} {q : Int → Int} {a : Int × Int} {w : Int} : Fea (mrg φ a w) q ↔ Fea φ q ∧ ∀ x, 0 ≤ x → x < w → q (x + a.1) ≤ q x + (a.2 - 1) := by
  constructor
  · intro h
    refine ⟨fun x y c e => ?_, fun x h0 h1 => ?_⟩
    · by_cases hr : x + a.1 = y ∧ 0 ≤ x ∧ x < w
      · have := h x y (min c (a.2 - 1)) (by unfold mrg; rw [if_pos hr, e]; rfl)
        omega
      · exact h x y c (by unfold mrg; rw [if_neg hr]; exact e)
    · have := h x (x + a.1) (min ((φ x (x + a.1)).getD (a.2 - 1)) (a.2 - 1)) (by unfold mrg; rw [if_pos ⟨rfl, h0, h1⟩])
      omega
  · rintro ⟨h1, h2⟩ x y c e
    unfold mrg at e
    by_cases hr : x + a.1 = y ∧ 0 ≤ x ∧ x < w
    · rw [if_pos hr] at e
      have h3 := h2 x hr.2.1 hr.2.2
      rw [hr.1] at h3
      cases e2 : φ x y with
      | none =>
        rw [e2] at e
        cases e
        show q y ≤ q x + min (a.2 - 1) (a.2 - 1)
        omega
      | some c' =>
        have h4 := h1 x y c' e2
        rw [e2] at e
        cases e
        show q y ≤ q x + min c' (a.2 - 1)
        omega
    · rw [if_neg hr] at e
      exact h1 x y c e
theorem fea_fold {l : List Nat} {q : Int → Int} : ∀ (ps : List (Int × Int)) (φ : Int → Int → Option Int), Fea (ps.foldl (fun φ q => mrg φ q (width l q)) φ) q ↔ Fea φ q ∧ ∀ a ∈ ps, ∀ x, 0 ≤ x → x < width l a → q (x + a.1) ≤ q x + (a.2 - 1)
  | [], φ => ⟨fun h => ⟨h, fun a ha => nomatch ha⟩, fun h => h.1⟩
  | a :: ps, φ => by
    rw [List.foldl_cons, fea_fold ps, fea_mrg]
    constructor
    · rintro ⟨⟨h1, h2⟩, h3⟩
      refine ⟨h1, fun b hb => ?_⟩
      rcases List.mem_cons.mp hb with rfl | hb
      · exact h2
      · exact h3 b hb
    · rintro ⟨h1, h2⟩
      exact ⟨⟨h1, h2 a (List.mem_cons_self ..)⟩, fun b hb => h2 b (List.mem_cons_of_mem _ hb)⟩
theorem fea_phi1 {l : List Nat} {q : Int → Int} : Fea (phi1 l l.length) q ↔ ∀ x : Nat, x < l.length → q (x + 1) ≤ q x + (if l[x]? == some 46 then 0 else 1) ∧ q x ≤ q (x + 1) + (if l[x]? == some 120 then -1 else 0) := by
  constructor
  · intro h x hx
    refine ⟨h x (x + 1) _ ?_, h (x + 1) x _ ?_⟩
    · unfold phi1
      rw [if_pos ⟨rfl, by omega, by omega⟩, Int.toNat_natCast]
    · unfold phi1
      rw [if_neg (by omega), if_pos ⟨rfl, by omega, by omega⟩, Int.toNat_natCast]
  · intro h x y c e
    unfold phi1 at e
    split at e
    · rename_i hr
      cases e
      have := (h x.toNat (by omega)).1
      rw [show ((x.toNat : Nat) : Int) = x by omega] at this
      rw [hr.1]
      exact this
    · split at e
      · rename_i hr
        cases e
        have := (h y.toNat (by omega)).2
        rw [show ((y.toNat : Nat) : Int) = y by omega] at this
        rw [hr.1]
        exact this
      · cases e
theorem phi_dom {l : List Nat} {ps : List (Int × Int)} (ok : PairsOk ps) : ∀ x y c, phi l ps x y = some c → (0 ≤ x ∧ x ≤ l.length) ∧ (0 ≤ y ∧ y ≤ l.length) := by
  have h0 : ∀ x y c, phi1 l l.length x y = some c → (0 ≤ x ∧ x ≤ l.length) ∧ (0 ≤ y ∧ y ≤ (l.length : Int)) := fun x y c e => by
    unfold phi1 at e
    split at e
    · omega
    · split at e
      · omega
      · cases e
  have : ∀ (ps : List (Int × Int)) (φ : Int → Int → Option Int), PairsOk ps → (∀ x y c, φ x y = some c → (0 ≤ x ∧ x ≤ l.length) ∧ (0 ≤ y ∧ y ≤ (l.length : Int))) →
      ∀ x y c, ps.foldl (fun φ q => mrg φ q (width l q)) φ x y = some c → (0 ≤ x ∧ x ≤ l.length) ∧ (0 ≤ y ∧ y ≤ (l.length : Int)) := by
    intro ps
    induction ps with
    | nil => intro φ _ h x y c e; exact h x y c e
    | cons a ps ih =>
      intro φ ok h x y c e
      refine ih (mrg φ a (width l a)) (fun b hb => ok b (List.mem_cons_of_mem _ hb)) (fun x y c e => ?_) x y c e
      unfold mrg width at e
      split at e
      · have := ok a (List.mem_cons_self ..)
        omega
      · exact h x y c e
  exact this ps _ ok h0
theorem phi_some {l : List Nat} {ps : List (Int × Int)} {x y : Int} (h : ∃ c, phi1 l l.length x y = some c) : ∃ c, phi l ps x y = some c := by
  have : ∀ (ps : List (Int × Int)) (φ : Int → Int → Option Int), (∃ c, φ x y = some c) → ∃ c, ps.foldl (fun φ q => mrg φ q (width l q)) φ x y = some c := by
    intro ps
    induction ps with
    | nil => intro φ h; exact h
    | cons a ps ih =>
      intro φ h
      refine ih _ ?_
      show ∃ c, mrg φ a (width l a) x y = some c
      unfold mrg
      split
      · exact ⟨_, rfl⟩
      · exact h
  exact this ps _ h
theorem phi_next {l : List Nat} {ps : List (Int × Int)} (x : Int) (h0 : 0 ≤ x) (h1 : x < l.length) : (∃ c, phi l ps x (x + 1) = some c) ∧ ∃ c, phi l ps (x + 1) x = some c := by
  refine ⟨phi_some ⟨if l[x.toNat]? == some 46 then 0 else 1, ?_⟩, phi_some ⟨if l[x.toNat]? == some 120 then -1 else 0, ?_⟩⟩
  · unfold phi1
    rw [if_pos ⟨rfl, h0, h1⟩]
  · unfold phi1
    rw [if_neg (by omega), if_pos ⟨rfl, h0, h1⟩]
theorem fea_phi {l : List Nat} {ps : List (Int × Int)} (ok : PairsOk ps) {q : Int → Int} : Fea (phi l ps) q ↔ (∀ x : Nat, x < l.length → q (x + 1) ≤ q x + (if l[x]? == some 46 then 0 else 1) ∧ q x ≤ q (x + 1) + (if l[x]? == some 120 then -1 else 0)) ∧
    ∀ a ∈ ps, ∀ x : Nat, (x : Int) + a.1 ≤ l.length → q (x + a.1) ≤ q x + (a.2 - 1) := by
  unfold phi
  rw [fea_fold, fea_phi1]
  refine and_congr Iff.rfl ⟨fun h a ha x hx => h a ha x (by omega) (by unfold width; omega), fun h a ha x h0 h1 => ?_⟩
  have := h a ha x.toNat (by unfold width at h1; omega)
  rw [show ((x.toNat : Nat) : Int) = x by omega] at this
  exact this
/-- a quiet filling is a potential -/
theorem QF.fea {l : List Nat} {ps : List (Int × Int)} (ok : PairsOk ps) {t : List Nat} (h : QF l ps t) : Fea (phi l ps) fun x => (cb t x.toNat : Nat) := by
  rw [fea_phi ok]
  refine ⟨fun x hx => ?_, fun a ha x hx => ?_⟩
  · have h1 : x < t.length := by rw [h.fill.len]; exact hx
    have e1 : l[x]? = some l[x] := List.getElem?_eq_getElem hx
    have e2 : t[x]? = some t[x] := List.getElem?_eq_getElem h1
    have es := cb_succ e2
    have c1 : ((x : Int) + 1).toNat = x + 1 := by omega
    rw [c1, Int.toNat_natCast, es, e1]
    have hf := h.fill.at_ _ _ e1
    rw [e2] at hf
    have b1 : ∀ v : Nat, (some l[x] == some v) = decide (l[x] = v) := fun v => rfl
    rw [b1 46, b1 120]
    constructor
    · by_cases e : l[x] = 46
      · rw [if_pos (decide_eq_true e)]
        have hf := Option.some.inj (hf.resolve_left (by rw [e]; decide))
        rw [hf, if_neg (by rw [e]; decide)]
        omega
      · rw [if_neg (show ¬ decide (l[x] = 46) = true by rw [decide_eq_false e]; decide)]
        split <;> omega
    · by_cases e : l[x] = 120
      · rw [if_pos (decide_eq_true e)]
        have hf := Option.some.inj (hf.resolve_left (by rw [e]; decide))
        rw [hf, if_pos e]
        omega
      · rw [if_neg (show ¬ decide (l[x] = 120) = true by rw [decide_eq_false e]; decide)]
        split <;> omega
  · have h0 := ok a ha
    have := (rg_false (by omega)).mp (h.quiet a ha x) (by rw [h.fill.len]; exact hx)
    rw [Int.toNat_natCast, show ((x : Int) + a.1).toNat = x + a.1.toNat by omega]
    omega
/-- the pattern with so many before each place -/
def patOf (d : Int → Int) (n : Nat) : List Nat := (List.range n).map fun x : Nat => if d x < d (x + 1) then 120 else 46
theorem patOf_len {d : Int → Int} {n : Nat} : (patOf d n).length = n := by unfold patOf; rw [List.length_map, List.length_range]
theorem patOf_get {d : Int → Int} {n x : Nat} (h : x < n) : (patOf d n)[x]? = some (if d x < d (x + 1) then 120 else 46) := by
  unfold patOf
  rw [List.getElem?_map, List.getElem?_range h]; rfl
theorem patOf_sgn {d : Int → Int} {n : Nat} : Sgn (patOf d n) := fun c hc => by
  obtain ⟨x, _, rfl⟩ := List.mem_map.mp hc
  split
  · exact .inl rfl
  · exact .inr rfl
theorem patOf_cb {d : Int → Int} {n : Nat} (h : ∀ x : Nat, x < n → d x ≤ d (x + 1) ∧ d (x + 1) ≤ d x + 1) : ∀ x : Nat, x ≤ n → ((cb (patOf d n) x : Nat) : Int) = d x - d 0
  | 0, _ => by rw [cb_zero]; show (0 : Int) = d 0 - d 0; omega
  | x + 1, hx => by
    have ih := patOf_cb h x (by omega)
    have h1 := h x (by omega)
    rw [cb_succ (patOf_get (by omega : x < n))]
    have e : (((x + 1 : Nat)) : Int) = (x : Int) + 1 := by omega
    rw [e]
    by_cases hc : d x < d (x + 1)
    · rw [if_pos hc, if_pos rfl]
      omega
    · rw [if_neg hc, if_neg (by decide)]
      omega
theorem pat_qf {l : List Nat} {ps : List (Int × Int)} (ok : PairsOk ps) (h3 : Sg3 l) {d : Int → Int} (hd : Fea (phi l ps) d) : QF l ps (patOf d l.length) ∧ ∀ x : Nat, x ≤ l.length → ((cb (patOf d l.length) x : Nat) : Int) = d x - d 0 := by
  rw [fea_phi ok] at hd
  have st : ∀ x : Nat, x < l.length → d x ≤ d (x + 1) ∧ d (x + 1) ≤ d x + 1 := fun x hx => by
    obtain ⟨h1, h2⟩ := hd.1 x hx
    split at h1 <;> split at h2 <;> omega
  have hc := patOf_cb st
  refine ⟨⟨⟨patOf_len, patOf_sgn, fun i c hi => ?_⟩, fun q hq p => ?_⟩, hc⟩
  · have hlt := (List.getElem?_eq_some_iff.mp hi).1
    obtain ⟨h1, h2⟩ := hd.1 i hlt
    rw [hi] at h1 h2
    rw [patOf_get hlt]
    rcases h3 c (List.mem_of_getElem? hi) with rfl | rfl | rfl
    · right
      rw [if_pos (by simp)] at h2
      rw [if_pos (by omega)]
    · right
      rw [if_pos (by simp)] at h1
      rw [if_neg (by omega)]
    · exact .inl rfl
  · have h0 := ok q hq
    rw [rg_false (by omega), patOf_len]
    intro hp
    rw [hc _ (by omega), hc _ (by omega), show (((p + q.1.toNat : Nat)) : Int) = (p : Int) + q.1 by omega]
    have := hd.2 q hq p hp
    omega
end DL
namespace DL
open PySem
/-! ### the best filling, minute after minute: plain -/
def rgE (q : Int × Int) (t : List Nat) : Bool := decide (q.1 ≤ t.length) && decide (q.2 ≤ ((t.drop (t.length - q.1.toNat)).count 120 : Nat))
/-- whether an alarm rings for the last minutes -/
def nowB (ps : List (Int × Int)) (t : List Nat) : Bool := ps.any fun q => rgE q t
def PQ (ps : List (Int × Int)) (t : List Nat) : Prop := ∀ j, j ≤ t.length → nowB ps (t.take j) = false
theorem rgE_take {q : Int × Int} {t : List Nat} {p : Nat} (h0 : 0 ≤ q.1) (hp : (p : Int) + q.1 ≤ t.length) : rgE q (t.take (p + q.1.toNat)) = rg q t p := by
  unfold rgE rg
  have hl : (t.take (p + q.1.toNat)).length = p + q.1.toNat := by rw [List.length_take]; omega
  rw [hl, show p + q.1.toNat - q.1.toNat = p by omega, List.drop_take, show p + q.1.toNat - p = q.1.toNat by omega, decide_eq_true hp, decide_eq_true (show q.1 ≤ ((p + q.1.toNat : Nat) : Int) by omega)]
theorem pq_iff {ps : List (Int × Int)} (ok : PairsOk ps) {t : List Nat} : PQ ps t ↔ QT ps t := by
  constructor
  · intro h q hq p
    have h0 := ok q hq
    by_cases hp : (p : Int) + q.1 ≤ t.length
    · have := h (p + q.1.toNat) (by omega)
      unfold nowB at this
      rw [← rgE_take (by omega) hp]
      have h1 := List.any_eq_false.mp this q hq
      simpa using h1
    · unfold rg
      rw [decide_eq_false hp]; rfl
  · intro h j hj
    unfold nowB
    refine List.any_eq_false.mpr fun q hq => ?_
    have h0 := ok q hq
    by_cases hp : q.1 ≤ j
    · have := rgE_take (q := q) (t := t) (p := j - q.1.toNat) (by omega) (by omega)
      rw [show j - q.1.toNat + q.1.toNat = j by omega] at this
      rw [this, h q hq]
      decide
    · unfold rgE
      rw [decide_eq_false (by rw [List.length_take]; omega), Bool.false_and]
      exact fun z => nomatch z
theorem pq_snoc {ps : List (Int × Int)} {t : List Nat} {c : Nat} : PQ ps (t ++ [c]) ↔ PQ ps t ∧ nowB ps (t ++ [c]) = false := by
  constructor
  · intro h
    refine ⟨fun j hj => ?_, ?_⟩
    · have := h j (by rw [List.length_append]; omega)
      rw [List.take_append_of_le_length hj] at this
      exact this
    · have := h (t.length + 1) (by simp)
      rw [List.take_of_length_le (by simp)] at this
      exact this
  · rintro ⟨h1, h2⟩ j hj
    by_cases hj2 : j ≤ t.length
    · rw [List.take_append_of_le_length hj2]
      exact h1 j hj2
    · rw [List.length_append, List.length_singleton] at hj
      rw [List.take_of_length_le (by simp; omega)]
      exact h2
def last7 (t : List Nat) : List Nat := t.drop (t.length - 7)
theorem last7_len (t : List Nat) : (last7 t).length = min t.length 7 := by unfold last7; rw [List.length_drop]; omega
theorem last7_snoc (t : List Nat) (c : Nat) : last7 (last7 t ++ [c]) = last7 (t ++ [c]) := by
  unfold last7
  by_cases h : t.length ≤ 7
  · rw [show t.length - 7 = 0 by omega, List.drop_zero]
  · rw [List.length_append, List.length_drop, List.length_append, List.length_singleton, ← List.drop_append_of_le_length (by omega), List.drop_drop]
    congr 1
    omega
theorem nowB_snoc {ps : List (Int × Int)} (ok : PairsOk ps) (t : List Nat) (c : Nat) : nowB ps (last7 t ++ [c]) = nowB ps (t ++ [c]) := by
  unfold nowB
  by_cases h : t.length ≤ 7
  · unfold last7
    rw [show t.length - 7 = 0 by omega, List.drop_zero]
  · have key : ∀ q ∈ ps, rgE q (last7 t ++ [c]) = rgE q (t ++ [c]) := fun q hq => by
      have h0 := ok q hq
      have e : last7 t ++ [c] = (t ++ [c]).drop (t.length - 7) := by
        unfold last7
        rw [List.drop_append_of_le_length (by omega)]
      unfold rgE
      rw [e, List.length_drop, List.length_append, List.length_singleton, List.drop_drop, decide_eq_true (show q.1 ≤ ((t.length + 1 - (t.length - 7) : Nat) : Int) by omega), decide_eq_true (show q.1 ≤ ((t.length + 1 : Nat) : Int) by omega),
        show t.length - 7 + (t.length + 1 - (t.length - 7) - q.1.toNat) = t.length + 1 - q.1.toNat by omega]
    have : ∀ l : List (Int × Int), (∀ q ∈ l, rgE q (last7 t ++ [c]) = rgE q (t ++ [c])) → (l.any fun q => rgE q (last7 t ++ [c])) = l.any fun q => rgE q (t ++ [c]) := by
      intro l
      induction l with
      | nil => intro _; rfl
      | cons q l ih =>
        intro h
        rw [List.any_cons, List.any_cons, h q (List.mem_cons_self ..), ih fun a ha => h a (List.mem_cons_of_mem _ ha)]
    exact this ps key
def wsum (ws : List Int) (t : List Nat) : Int := ((List.range t.length).map fun i => if t[i]? = some 120 then ws.getD i 0 else 0).sum
theorem wsum_nil (ws : List Int) : wsum ws [] = 0 := rfl
theorem wsum_snoc (ws : List Int) (t : List Nat) (c : Nat) : wsum ws (t ++ [c]) = wsum ws t + if c = 120 then ws.getD t.length 0 else 0 := by
  unfold wsum
  rw [List.length_append, List.length_singleton, List.range_succ, List.map_append, List.sum_append]
  congr 1
  · congr 1
    refine List.map_congr_left fun i hi => ?_
    rw [List.getElem?_append_left (List.mem_range.mp hi)]
  · simp
/-- the table's steps: (rings, key, worth) -/
abbrev Cand := Bool × List Nat × Int
def stepC (lat : List (List Nat × Int)) (x : Cand) : List (List Nat × Int) := if x.1 = false then putA lat x.2.1 (max ((getA lat x.2.1).getD x.2.2) x.2.2) else lat
def LatOk (cs : List Cand) (lat : List (List Nat × Int)) : Prop := NdA lat ∧ (∀ k v, getA lat k = some v → (false, k, v) ∈ cs) ∧ ∀ k v, (false, k, v) ∈ cs → ∃ w, getA lat k = some w ∧ v ≤ w
theorem LatOk.nil : LatOk [] [] := ⟨List.nodup_nil, (fun _ _ h => by cases h), (fun _ _ h => by cases h)⟩
theorem LatOk.step {cs : List Cand} {lat : List (List Nat × Int)} (h : LatOk cs lat) (x : Cand) : LatOk (cs ++ [x]) (stepC lat x) := by
  obtain ⟨b, k, m⟩ := x
  unfold stepC
  cases b with
  | true =>
    rw [if_neg (fun z => nomatch z)]
    refine ⟨h.1, fun k' v e => List.mem_append_left _ (h.2.1 k' v e), fun k' v e => ?_⟩
    rcases List.mem_append.mp e with e | e
    · exact h.2.2 k' v e
    · cases List.mem_singleton.mp e
  | false =>
    rw [if_pos rfl]
    dsimp only
    refine ⟨h.1.put _ _, fun k' v e => ?_, fun k' v e => ?_⟩
    · rw [getA_put] at e
      split at e
      · rename_i hk
        subst hk
        cases e
        cases e2 : getA lat k' with
        | none =>
          refine List.mem_append_right _ (List.mem_singleton.mpr ?_)
          show (false, k', max m m) = _
          rw [Int.max_self]
        | some w =>
          show (false, k', max w m) ∈ _
          rcases Int.le_total w m with hw | hw
          · rw [Int.max_eq_right hw]; exact List.mem_append_right _ (List.mem_singleton.mpr rfl)
          · rw [Int.max_eq_left hw]; exact List.mem_append_left _ (h.2.1 _ _ e2)
      · exact List.mem_append_left _ (h.2.1 k' v e)
    · rw [getA_put]
      rcases List.mem_append.mp e with e | e
      · obtain ⟨w, h1, h2⟩ := h.2.2 k' v e
        split
        · rename_i hk
          subst hk
          refine ⟨_, rfl, ?_⟩
          rw [h1]
          show v ≤ max w m
          omega
        · exact ⟨w, h1, h2⟩
      · cases List.mem_singleton.mp e
        rw [if_pos rfl]
        exact ⟨_, rfl, by omega⟩
theorem stepC_len {lat : List (List Nat × Int)} {x : Cand} : (stepC lat x).length ≤ lat.length + 1 := by
  unfold stepC
  split
  · exact putA_len
  · omega
theorem LatOk.fold {lat : List (List Nat × Int)} : ∀ {xs cs : List Cand}, LatOk cs lat → LatOk (cs ++ xs) (xs.foldl stepC lat) := by
  intro xs
  induction xs generalizing lat with
  | nil => intro cs h; rw [List.append_nil]; exact h
  | cons x xs ih =>
    intro cs h
    have := ih (h.step x)
    rw [List.append_assoc] at this
    exact this
/-- keys are few -/
def code : List Nat → Int
  | [] => 1
  | c :: k => 2 * code k + if c = 120 then 1 else 0
theorem code_pos : ∀ k : List Nat, 1 ≤ code k
  | [] => by unfold code; omega
  | c :: k => by have := code_pos k; unfold code; split <;> omega
theorem code_lt : ∀ k : List Nat, code k < 2 ^ (k.length + 1)
  | [] => by unfold code; decide
  | c :: k => by
    have := code_lt k
    unfold code
    rw [List.length_cons, Int.pow_succ]
    split <;> omega
theorem code_inj : ∀ {k m : List Nat}, Sgn k → Sgn m → code k = code m → k = m
  | [], [], _, _, _ => rfl
  | [], c :: m, _, _, h => by have := code_pos m; unfold code at h; split at h <;> omega
  | c :: k, [], _, _, h => by have := code_pos k; unfold code at h; split at h <;> omega
  | c :: k, d :: m, hk, hm, h => by
    have h1 := hk c (List.mem_cons_self ..)
    have h2 := hm d (List.mem_cons_self ..)
    unfold code at h
    have e : c = d ∧ code k = code m := by
      rcases h1 with rfl | rfl <;> rcases h2 with rfl | rfl
      · exact ⟨rfl, by omega⟩
      · rw [if_pos rfl, if_neg (by decide)] at h; omega
      · rw [if_pos rfl, if_neg (by decide)] at h; omega
      · exact ⟨rfl, by omega⟩
    rw [e.1, code_inj (fun a ha => hk a (List.mem_cons_of_mem _ ha)) (fun a ha => hm a (List.mem_cons_of_mem _ ha)) e.2]
theorem nodup_map {α β : Type} {f : α → β} : ∀ {l : List α}, (∀ a ∈ l, ∀ b ∈ l, f a = f b → a = b) → l.Nodup → (l.map f).Nodup
  | [], _, _ => List.nodup_nil
  | a :: l, h, nd => by
    obtain ⟨n1, n2⟩ := List.nodup_cons.mp nd
    rw [List.map_cons]
    refine List.nodup_cons.mpr ⟨fun hm => ?_, nodup_map (fun x hx y hy => h x (List.mem_cons_of_mem _ hx) y (List.mem_cons_of_mem _ hy)) n2⟩
    obtain ⟨b, hb, e⟩ := List.mem_map.mp hm
    exact n1 (by rw [← h b (List.mem_cons_of_mem _ hb) a (List.mem_cons_self ..) e]; exact hb)
theorem few {es : List (List Nat × Int)} (nd : NdA es) (h : ∀ k v, getA es k = some v → Sgn k ∧ k.length ≤ 7) : es.length ≤ 256 := by
  have h' : ∀ e ∈ es, Sgn e.1 ∧ e.1.length ≤ 7 := fun e he => h e.1 e.2 (nd.mem.mpr he)
  have : (es.map fun e => code e.1).length ≤ 256 := by
    refine nodup_le 256 _ ?_ fun v hv => ?_
    · have : es.map (fun e => code e.1) = (es.map (·.1)).map code := by rw [List.map_map]; rfl
      rw [this]
      refine nodup_map (fun a ha b hb e => ?_) nd
      obtain ⟨x, hx, rfl⟩ := List.mem_map.mp ha
      obtain ⟨y, hy, rfl⟩ := List.mem_map.mp hb
      exact code_inj (h' x hx).1 (h' y hy).1 e
    · obtain ⟨e, he, rfl⟩ := List.mem_map.mp hv
      have h1 := code_pos e.1
      have h2 := code_lt e.1
      have h3 := (h' e he).2
      have h4 : (2 : Int) ^ (e.1.length + 1) ≤ 2 ^ 8 := by
        have := Nat.pow_le_pow_right (n := 2) (by omega) (show e.1.length + 1 ≤ 8 by omega)
        exact_mod_cast this
      have h5 : (2 : Int) ^ 8 = 256 := by decide
      omega
  rw [List.length_map] at this
  exact this
end DL
namespace DL
open PySem
def signsOf (c : Nat) : List Nat := if c = 63 then [46, 120] else [c]
def candOf (ps : List (Int × Int)) (w : Int) (e : List Nat × Int) (one : Nat) : Cand := (nowB ps (e.1 ++ [one]), last7 (e.1 ++ [one]), e.2 + if one = 120 then w else 0)
def cands (ps : List (Int × Int)) (w : Int) (es : List (List Nat × Int)) (c : Nat) : List Cand := es.flatMap fun e => (signsOf c).map (candOf ps w e)
def stepB (ps : List (Int × Int)) (w : Int) (es : List (List Nat × Int)) (c : Nat) : List (List Nat × Int) := (cands ps w es c).foldl stepC []
structure PF (l : List Nat) (i : Nat) (t : List Nat) : Prop where
  len : t.length = i
  sgn : Sgn t
  at_ : ∀ (j c : Nat), j < i → l[j]? = some c → c = 63 ∨ t[j]? = some c
theorem PF.fill {l t : List Nat} : PF l l.length t ↔ Fill l t :=
  ⟨fun h => ⟨h.len, h.sgn, fun i c e => h.at_ i c (List.getElem?_eq_some_iff.mp e).1 e⟩, fun h => ⟨h.len, h.sgn, fun j c _ e => h.at_ j c e⟩⟩
structure DP (l : List Nat) (ps : List (Int × Int)) (ws : List Int) (i : Nat) (es : List (List Nat × Int)) : Prop where
  nd : NdA es
  snd : ∀ k v, getA es k = some v → ∃ t, PF l i t ∧ PQ ps t ∧ last7 t = k ∧ wsum ws t = v
  cmp : ∀ t, PF l i t → PQ ps t → ∃ v, getA es (last7 t) = some v ∧ wsum ws t ≤ v
theorem DP.few {l : List Nat} {ps : List (Int × Int)} {ws : List Int} {i : Nat} {es : List (List Nat × Int)} (h : DP l ps ws i es) : es.length ≤ 256 :=
  DL.few h.nd fun k v e => by
    obtain ⟨t, p, _, rfl, _⟩ := h.snd k v e
    refine ⟨fun c hc => p.sgn c (List.drop_subset _ _ hc), ?_⟩
    rw [last7_len]; omega
theorem DP.key {l : List Nat} {ps : List (Int × Int)} {ws : List Int} {i : Nat} {es : List (List Nat × Int)} (h : DP l ps ws i es) {e : List Nat × Int} (he : e ∈ es) : Sgn e.1 ∧ e.1.length ≤ 7 ∧ ∃ t, PF l i t ∧ wsum ws t = e.2 := by
  obtain ⟨t, p, _, h2, h3⟩ := h.snd e.1 e.2 (h.nd.mem.mpr he)
  refine ⟨fun c hc => p.sgn c (List.drop_subset _ _ (by unfold last7 at h2; rw [h2]; exact hc)), ?_, t, p, h3⟩
  rw [← h2, last7_len]; omega
theorem DP.zero {l : List Nat} {ps : List (Int × Int)} (ok : PairsOk ps) {ws : List Int} : DP l ps ws 0 [([], 0)] := by
  have h : ∀ k, getA [(([] : List Nat), (0 : Int))] k = if [] = k then some 0 else none := fun k => by rw [getA_cons]; rfl
  refine ⟨by unfold NdA; simp, fun k v e => ?_, fun t p _ => ?_⟩
  · rw [h] at e
    split at e
    · rename_i hk
      cases e
      subst hk
      refine ⟨[], ⟨rfl, (fun c hc => by cases hc), fun j c hj _ => absurd hj (by omega)⟩, fun j hj => ?_, rfl, rfl⟩
      have : j = 0 := by simpa using hj
      subst this
      unfold nowB
      refine List.any_eq_false.mpr fun q hq => ?_
      have h0 := ok q hq
      unfold rgE
      rw [decide_eq_false (by simp; omega), Bool.false_and]
      exact fun z => nomatch z
    · cases e
  · have e : t = [] := List.eq_nil_of_length_eq_zero p.len
    subst e
    exact ⟨0, by rw [h]; rfl, Int.le_refl _⟩
theorem DP.step {l : List Nat} {ps : List (Int × Int)} (ok : PairsOk ps) {ws : List Int} {i : Nat} {es : List (List Nat × Int)} (h : DP l ps ws i es) {c : Nat} (hc : l[i]? = some c) (h3 : c = 120 ∨ c = 46 ∨ c = 63) : DP l ps ws (i + 1) (stepB ps (ws.getD i 0) es c) := by
  have lat := LatOk.fold (xs := cands ps (ws.getD i 0) es c) LatOk.nil
  rw [List.nil_append] at lat
  have ext : ∀ t one, PF l i t → (one = 120 ∨ one = 46) → (c = 63 ∨ c = one) → PF l (i + 1) (t ++ [one]) := fun t one p h1 h2 => by
    refine ⟨by rw [List.length_append, p.len]; rfl, p.sgn.app (Sgn.one h1), fun j d hj hd => ?_⟩
    by_cases hji : j < i
    · rw [List.getElem?_append_left (by rw [p.len]; exact hji)]
      exact p.at_ j d hji hd
    · have : j = i := by omega
      subst this
      rw [hc] at hd
      cases hd
      rcases h2 with h2 | h2
      · exact .inl h2
      · right
        rw [List.getElem?_append_right (by rw [p.len]; omega), p.len, Nat.sub_self, h2]; rfl
  refine ⟨lat.1, fun k v e => ?_, fun t' p' q' => ?_⟩
  · have := lat.2.1 k v e
    obtain ⟨en, hen, hm⟩ := List.mem_flatMap.mp this
    obtain ⟨one, ho, he⟩ := List.mem_map.mp hm
    unfold candOf at he
    obtain ⟨hq, rfl, rfl⟩ := (by simpa only [Prod.mk.injEq] using he : nowB ps (en.1 ++ [one]) = false ∧ last7 (en.1 ++ [one]) = k ∧ (en.2 + if one = 120 then ws.getD i 0 else 0) = v)
    obtain ⟨t, p, q, h4, h5⟩ := h.snd en.1 en.2 (h.nd.mem.mpr hen)
    have hone : (one = 120 ∨ one = 46) ∧ (c = 63 ∨ c = one) := by
      unfold signsOf at ho
      split at ho
      · rename_i h63
        refine ⟨?_, .inl h63⟩
        rcases List.mem_cons.mp ho with rfl | ho
        · exact .inr rfl
        · exact .inl (List.mem_singleton.mp ho)
      · rename_i h63
        rw [List.mem_singleton.mp ho]
        refine ⟨?_, .inr rfl⟩
        rcases h3 with h3 | h3 | h3
        · exact .inl h3
        · exact .inr h3
        · exact absurd h3 h63
    refine ⟨t ++ [one], ext t one p hone.1 hone.2, pq_snoc.mpr ⟨q, ?_⟩, ?_, ?_⟩
    · rw [← nowB_snoc ok, h4]
      exact hq
    · rw [← last7_snoc, h4]
    · rw [wsum_snoc, h5, p.len]
  · obtain ⟨t, one, rfl⟩ : ∃ t one, t' = t ++ [one] := by
      have hne : t' ≠ [] := fun z => by have := p'.len; rw [z] at this; simp at this
      exact ⟨t'.dropLast, t'.getLast hne, (List.dropLast_concat_getLast hne).symm⟩
    have hl : t.length = i := by have := p'.len; rw [List.length_append] at this; simp at this; exact this
    obtain ⟨q1, q2⟩ := pq_snoc.mp q'
    have p : PF l i t := by
      refine ⟨hl, fun d hd => p'.sgn d (List.mem_append_left _ hd), fun j d hj hd => ?_⟩
      have := p'.at_ j d (by omega) hd
      rw [List.getElem?_append_left (by omega)] at this
      exact this
    obtain ⟨v, h4, h5⟩ := h.cmp t p q1
    have hone : one ∈ signsOf c := by
      have h6 := p'.at_ i c (by omega) hc
      rw [List.getElem?_append_right (by omega), hl, Nat.sub_self] at h6
      have h7 := p'.sgn one (List.mem_append_right _ (List.mem_singleton.mpr rfl))
      unfold signsOf
      split
      · rcases h7 with rfl | rfl <;> simp
      · rename_i h63
        have := h6.resolve_left h63
        cases this
        exact List.mem_singleton.mpr rfl
    have hm : (false, last7 (t ++ [one]), v + if one = 120 then ws.getD i 0 else 0) ∈ cands ps (ws.getD i 0) es c := by
      refine List.mem_flatMap.mpr ⟨(last7 t, v), h.nd.mem.mp h4, List.mem_map.mpr ⟨one, hone, ?_⟩⟩
      unfold candOf
      dsimp only
      rw [nowB_snoc ok, q2, last7_snoc]
    obtain ⟨w, h8, h9⟩ := lat.2.2 _ _ hm
    refine ⟨w, h8, ?_⟩
    rw [wsum_snoc, hl]
    omega
/-- the greatest sum of weights -/
def bestB (es : List (List Nat × Int)) : Option Int := if es.isEmpty then none else some (topOf (es.map (·.2)))
def Best (l : List Nat) (ps : List (Int × Int)) (ws : List Int) : Option Int → Prop
  | none => ∀ t, ¬ QF l ps t
  | some M => (∃ t, QF l ps t ∧ wsum ws t = M) ∧ ∀ t, QF l ps t → wsum ws t ≤ M
theorem Best.uniq {l : List Nat} {ps : List (Int × Int)} {ws : List Int} {a b : Option Int} (ha : Best l ps ws a) (hb : Best l ps ws b) : a = b := by
  cases a with
  | none =>
    cases b with
    | none => rfl
    | some M => obtain ⟨⟨t, h, _⟩, _⟩ := hb; exact absurd h (ha t)
  | some M =>
    cases b with
    | none => obtain ⟨⟨t, h, _⟩, _⟩ := ha; exact absurd h (hb t)
    | some N =>
      obtain ⟨⟨t, h, e⟩, hm⟩ := ha
      obtain ⟨⟨u, k, f⟩, hn⟩ := hb
      have := hm u k
      have := hn t h
      congr 1
      omega
theorem DP.best {l : List Nat} {ps : List (Int × Int)} (ok : PairsOk ps) {ws : List Int} {es : List (List Nat × Int)} (h : DP l ps ws l.length es) : Best l ps ws (bestB es) := by
  have qf : ∀ t, QF l ps t ↔ PF l l.length t ∧ PQ ps t := fun t => ⟨fun q => ⟨PF.fill.mpr q.fill, (pq_iff ok).mpr q.quiet⟩, fun q => ⟨PF.fill.mp q.1, (pq_iff ok).mp q.2⟩⟩
  unfold bestB
  cases es with
  | nil =>
    intro t q
    obtain ⟨p, q⟩ := (qf t).mp q
    obtain ⟨v, h1, _⟩ := h.cmp t p q
    cases h1
  | cons e es =>
    have hne : (e :: es).map (·.2) ≠ [] := by simp
    obtain ⟨m1, m2⟩ := topOf_ok hne
    refine ⟨?_, fun t q => ?_⟩
    · obtain ⟨x, hx, hv⟩ := List.mem_map.mp m1
      obtain ⟨t, p, q, _, h5⟩ := h.snd x.1 x.2 (h.nd.mem.mpr hx)
      exact ⟨t, (qf t).mpr ⟨p, q⟩, by rw [h5, hv]⟩
    · obtain ⟨p, q⟩ := (qf t).mp q
      obtain ⟨v, h1, h2⟩ := h.cmp t p q
      have := m2 v (List.mem_map.mpr ⟨(last7 t, v), h.nd.mem.mp h1, rfl⟩)
      omega
def bestF (ps : List (Int × Int)) (ws : List Int) (l : List Nat) : Nat → List (List Nat × Int)
  | 0 => [([], 0)]
  | i + 1 => stepB ps (ws.getD i 0) (bestF ps ws l i) (l.getD i 0)
theorem dp_all {l : List Nat} {ps : List (Int × Int)} (ok : PairsOk ps) (h3 : Sg3 l) {ws : List Int} : ∀ i, i ≤ l.length → DP l ps ws i (bestF ps ws l i)
  | 0, _ => DP.zero ok
  | i + 1, h => by
    have e : l[i]? = some l[i] := List.getElem?_eq_getElem h
    have d := DP.step ok (dp_all ok h3 (ws := ws) i (by omega)) e (h3 _ (List.mem_of_getElem? e))
    show DP l ps ws (i + 1) (stepB ps (ws.getD i 0) (bestF ps ws l i) (l.getD i 0))
    rw [show l.getD i 0 = l[i] by rw [List.getD_eq_getElem?_getD, e]; rfl]
    exact d
end DL
namespace DL
open PySem PySem.Spec PyProof.Rows L2
/-! ### rules for the plain law: tries, items, tours -/
section
variable {E : Ex → List Sl → Prop} {σ : List Sl}
theorem w_LcItemsO {j : Nat} {vs : List Nat} {s : D → List Sl → Option (List Sl)} {tt : M Bool} {te : M D} {ks : List Key} {ds : List D} {Q : Sl → List Sl → Prop} (e : σ[j]? = some (.o (.dk ks ds)))
    (h : wp (evLc vs s (fun σ => .ok (itemsK ks ds) σ) tt te (σ.set j (.d (.dk ks ds)))) E Q) : wp (evLcItems j vs s tt te σ) E Q := by
  unfold evLcItems
  rw [e]
  exact h
theorem w_LcItemsD {j : Nat} {vs : List Nat} {s : D → List Sl → Option (List Sl)} {tt : M Bool} {te : M D} {ks : List Key} {ds : List D} {Q : Sl → List Sl → Prop} (e : σ[j]? = some (.d (.dk ks ds)))
    (h : wp (evLc vs s (fun σ => .ok (itemsK ks ds) σ) tt te σ) E Q) : wp (evLcItems j vs s tt te σ) E Q := by
  unfold evLcItems
  rw [e]
  exact h
theorem w_okL {ds : List D} {Q : List D → List Sl → Prop} (h : Q ds σ) : wp ((fun σ => Res.ok ds σ) σ) E Q := wp_ok h
theorem w_Try {mb ms : M Fl} {tb : List (Str × Bool)} {Q : Fl → List Sl → Prop} (h : wp (mb σ) (fun e σ1 => (tb.lookup e.cls = some true ∧ wp (ms σ1) (fun _ _ => False) Q) ∨ (tb.lookup e.cls = some false ∧ E e σ1)) Q) : wp (evTry mb tb ms σ) E Q := by
  unfold evTry
  rw [wpZ] at h ⊢
  cases e : mb σ with
  | ok f σ1 => rw [e] at h; exact h
  | bad => rw [e] at h; exact h.elim
  | ex x σ1 =>
    rw [e] at h
    dsimp only
    rcases h with ⟨h1, h2⟩ | ⟨h1, h2⟩
    · rw [h1]
      have := w_noEx (E := E) h2
      rw [wpZ] at this
      exact this
    · rw [h1]
      exact h2
theorem w_CO {c : Str} {f : List Sl → Res Sl} {mf : M D} {ml : M (List D)} {Q : Sl → List Sl → Prop} (h : wp (mf σ) E fun x σ1 => ∃ ns vs, x = .ins c ns vs ∧ wp (ml σ1) E fun ds σ2 => wp (f ((x :: ds).map .d)) (fun _ _ => False) fun r _ => Q r σ2) : wp (semCO c f mf ml σ) E Q := by
  refine wp_bind (wp_mono h (fun x σ1 h => ?_) fun _ _ h => h)
  obtain ⟨ns, vs, rfl, h⟩ := h
  dsimp only
  rw [if_pos rfl]
  refine wp_bind (wp_mono h (fun ds σ2 h => ?_) fun _ _ h => h)
  rw [wpZ] at h ⊢
  cases e : f ((D.ins c ns vs :: ds).map .d) with
  | ok a ps => rw [e] at h; exact h
  | ex x ps => rw [e] at h; exact h.elim
  | bad => rw [e] at h; exact h.elim
theorem w_Tour {m3 : M D} {m4 : M (List D)} {s1 s2 : Sl} {st : Int} {r : List Sl} {Q : Fl → List Sl → Prop} (hr : r.length = 5)
    (h : wp (m3 (.un :: s1 :: s2 :: .d (.int st) :: r)) (fun _ _ => False) fun x σ1 => wp (m4 (σ1.set 4 (.d x))) (fun _ _ => False) fun ds σ2 => ∃ es : List Ed, σ2[4]? = some (.d (.dt (keyA encP es) (valA es))) ∧ 1 + ds.length * es.length < szMax ∧
      Q .nx (((((σ2.set 5 .un).set 6 .un).set 7 .un).set 8 .un).set 0 (.o (tourO (tourP es ds.length ([(st, 0)], [])))))) : wp (evTour m3 m4 (.o (.ins cTour [] []) :: s1 :: s2 :: .d (.int st) :: r)) E Q := by
  unfold evTour
  dsimp only
  rw [if_pos ⟨rfl, hr⟩]
  rw [wpZ] at h ⊢
  cases e : m3 (.un :: s1 :: s2 :: .d (.int st) :: r) with
  | ex x σ1 => rw [e] at h; exact h.elim
  | bad => rw [e] at h; exact h.elim
  | ok x σ1 =>
    rw [e] at h
    dsimp only
    have h : wp (m4 (σ1.set 4 (.d x))) _ _ := h
    rw [wpZ] at h
    cases e2 : m4 (σ1.set 4 (.d x)) with
    | ex x σ1 => rw [e2] at h; exact h.elim
    | bad => rw [e2] at h; exact h.elim
    | ok ds σ2 =>
      rw [e2] at h
      obtain ⟨es, h1, h2, h3⟩ := h
      dsimp only
      rw [h1]
      dsimp only
      rw [edges_A]
      dsimp only
      rw [if_pos h2]
      exact h3
variable {P : D → Prop}
theorem o_eqNilT {xs : List D} (h : Sm (.tup xs)) (hd : dep (.tup xs) ≤ 64) (q : P (.bl xs.isEmpty)) : owp (dEq (.tup xs) (.tup [])) P := by
  have e : PyData.eqv (toPy (.tup xs)) (toPy (.tup [])) = xs.isEmpty := by
    simp only [toPy, PyData.eqv]
    cases xs with
    | nil => simp only [toPyL, PyData.eqvAll, List.isEmpty_nil]
    | cons d ds => simp only [toPyL, PyData.eqvAll, List.isEmpty_cons]
  unfold dEq
  rw [eqb_tup (eqOk_of h (by simp only [Sm, SmL]) hd (by simp only [dep, depL]; decide)), e, owpZ]
  exact q
theorem o_neNilT {xs : List D} (h : Sm (.tup xs)) (hd : dep (.tup xs) ≤ 64) (q : P (.bl (!xs.isEmpty))) : owp (dNe (.tup xs) (.tup [])) P := by
  have e : PyData.eqv (toPy (.tup xs)) (toPy (.tup [])) = xs.isEmpty := by
    simp only [toPy, PyData.eqv]
    cases xs with
    | nil => simp only [toPyL, PyData.eqvAll, List.isEmpty_nil]
    | cons d ds => simp only [toPyL, PyData.eqvAll, List.isEmpty_cons]
  unfold dNe
  rw [eqb_tup (eqOk_of h (by simp only [Sm, SmL]) hd (by simp only [dep, depL]; decide)), e, owpZ]
  exact q
theorem sm_ints {l : List Int} (h : ∀ i ∈ l, -1000000000000 ≤ i ∧ i ≤ 1000000000000) (hl : l.length ≤ 1000) : Sm (.tup (l.map .int)) ∧ dep (.tup (l.map .int)) ≤ 64 := by
  have h1 : ∀ d ∈ l.map D.int, Sm d := fun d hd => by
    obtain ⟨i, hi, rfl⟩ := List.mem_map.mp hd
    exact sm_int (h i hi).1 (h i hi).2
  have h2 : depL (l.map D.int) ≤ 0 := depL_of fun d hd => by
    obtain ⟨i, hi, rfl⟩ := List.mem_map.mp hd
    simp only [dep]
    exact Nat.le_refl _
  refine ⟨?_, ?_⟩
  · simp only [Sm]
    exact smL_of h1
  · simp only [dep]
    omega
theorem get_dkI {l : T2} {k : Int} : getK (l.map fun kv => (.inl kv.1 : Key)) (l.map fun kv => D.int kv.2) (.inl k) = (getI l k).map .int :=
  get_A (enc := fun k : Int => (.inl k : Key)) (fun _ _ h => Sum.inl.inj h) (es := l)
theorem o_dgI {l : T2} {k v : Int} (e : getI l k = some v) (h : P (.int v)) : owp (dDGet (dkI l) (.int k)) P := by
  have : dDGet (dkI l) (.int k) = some (.int v) := by
    show getK (l.map fun kv => (.inl kv.1 : Key)) (l.map fun kv => D.int kv.2) (.inl k) = _
    rw [get_dkI, e]; rfl
  exact owp_some this h
theorem o_dinI {l : T2} {k : Int} (h : P (.bl (getI l k).isSome)) : owp (dDIn (.int k) (dkI l)) P := by
  have : dDIn (.int k) (dkI l) = some (.bl (getI l k).isSome) := by
    show some (D.bl (getK (l.map fun kv => (.inl kv.1 : Key)) (l.map fun kv => D.int kv.2) (.inl k)).isSome) = _
    rw [get_dkI]
    cases getI l k <;> rfl
  exact owp_some this h
theorem intsOf_map (ns : List Int) : intsOf (ns.map .int) = some ns := by
  induction ns with
  | nil => rfl
  | cons i ns ih =>
    rw [List.map_cons]
    unfold intsOf
    rw [ih]; rfl
theorem o_maxD {ns : List Int} {z : D} (h : P (if ns.isEmpty = true then z else .int (topOf ns))) : owp (dMaxD (.lst (ns.map .int)) z) P := by
  have : dMaxD (.lst (ns.map .int)) z = some (if ns.isEmpty = true then z else .int (topOf ns)) := by
    show (intsOf (ns.map .int)).bind _ = _
    rw [intsOf_map]
    show (if ns.isEmpty = true then some z else some (D.int (topOf ns))) = _
    split <;> rfl
  exact owp_some this h
theorem o_rpl {l : List Nat} {y z : Str} {c d : Nat} (hy : y = tx [c]) (hz : z = tx [d]) (hl : l.length ≤ 1000) (h : P (.str (tx (l.map fun a => if a = c then d else a)))) : owp (dRpl y z (.str (tx l))) P := by
  subst hy hz
  have e : dRpl (tx [c]) (tx [d]) (.str (tx l)) = some (.str (tx (l.map fun a => if a = c then d else a))) := by
    show (if (tx l).length ≤ 1000 ∧ (tx [d]).length ≤ 1000 then some (D.str (Txt.replace (tx l) (tx [c]) (tx [d]))) else none) = _
    rw [if_pos ⟨hl, by show 1 ≤ 1000; omega⟩]
    congr 2
    refine PySem.Str.ext' ?_
    have := StrLaws.replace_list (x := tx l) (y := tx [c]) (z := tx [d]) (by show 1 ≤ 1; omega)
    exact Array.toList_inj.mp (this.trans (replL1 l))
  exact owp_some e h
/-! dicts of text to int -/
def encS (k : List Nat) : Key := .inr (tx k)
theorem encS_inj (a b : List Nat) (h : encS a = encS b) : a = b := tx_inj (Sum.inr.inj h)
def dkS (es : List (List Nat × Int)) : O := .dk (keyA encS es) (valA es)
theorem o_setS {es : List (List Nat × Int)} {k : List Nat} {v : Int} {P : O → Prop} (hl : es.length < szMax) (h : P (dkS (putA es k v))) : owp (setD (dkS es) (.str (tx k)) (.int v)) P := by
  have e : setD (dkS es) (.str (tx k)) (.int v) = some (dkS (putA es k v)) := by
    unfold dkS
    show (if (keyA encS es).length < szMax then some (O.dk (dPutK (keyA encS es) (encS k)) (dPutV (keyA encS es) (valA es) (encS k) (.int v))) else none) = _
    rw [if_pos (by unfold keyA; rw [List.length_map]; exact hl), putK_A encS_inj, putV_A encS_inj]
  exact owp_some e h
theorem o_getS {es : List (List Nat × Int)} {k : List Nat} {z : Int} (h : P (.int ((getA es k).getD z))) : owp (getDD (dkS es).frz (.str (tx k)) (.int z)) P := by
  have e : getDD (dkS es).frz (.str (tx k)) (.int z) = some (.int ((getA es k).getD z)) := by
    show some ((getK (keyA encS es) (valA es) (encS k)).getD (.int z)) = _
    rw [get_A encS_inj]
    cases getA es k <;> rfl
  exact owp_some e h
theorem items_S : ∀ es : List (List Nat × Int), itemsK (keyA encS es) (valA es) = es.map fun e => .tup [.str (tx e.1), .int e.2]
  | [] => rfl
  | e :: es => by
    show D.tup [.str (tx e.1), .int e.2] :: itemsK (keyA encS es) (valA es) = _
    rw [items_S es]; rfl
end
end DL
namespace DL
open PySem
/-! ### what a tour tells: plain -/
def dOf (far : T2) (x : Int) : Int := (getI far x).getD 0
section
variable {l : List Nat} {ps : List (Int × Int)} {s : Int} {far : T2}
theorem TourOk.get (t : TourOk (phi l ps) l.length s far) {x : Int} (h0 : 0 ≤ x) (h1 : x ≤ l.length) : getI far x = some (dOf far x) := by
  obtain ⟨g, hg⟩ := t.here x h0 h1
  unfold dOf
  rw [hg]; rfl
theorem TourOk.fea (ok : PairsOk ps) (t : TourOk (phi l ps) l.length s far) : Fea (phi l ps) (dOf far) := fun x y c e => by
  obtain ⟨⟨x0, x1⟩, y0, y1⟩ := phi_dom ok x y c e
  obtain ⟨g, h1, h2⟩ := t.step x y c _ e (t.get x0 x1)
  rw [t.get y0 y1] at h1
  cases h1
  exact h2
theorem TourOk.at0 (t : TourOk (phi l ps) l.length s far) : dOf far s = 0 := by unfold dOf; rw [t.zero]; rfl
/-- the filling that a tour shows -/
theorem TourOk.qf (ok : PairsOk ps) (h3 : Sg3 l) (t : TourOk (phi l ps) l.length s far) : QF l ps (patOf (dOf far) l.length) ∧ ∀ x : Nat, x ≤ l.length → ((cb (patOf (dOf far) l.length) x : Nat) : Int) = dOf far x - dOf far 0 := pat_qf ok h3 (t.fea ok)
theorem TourOk.le (ok : PairsOk ps) (t : TourOk (phi l ps) l.length s far) {u : List Nat} (h : QF l ps u) {x : Int} (h0 : 0 ≤ x) (h1 : x ≤ l.length) : ((cb u x.toNat : Nat) : Int) - (cb u s.toNat : Nat) ≤ dOf far x :=
  t.low _ (h.fea ok) x _ (t.get h0 h1)
end
theorem wsum_ones {n : Nat} {t : List Nat} (h : t.length ≤ n) : ∀ k, k ≤ t.length → wsum (List.replicate n 1) (t.take k) = (cb t k : Nat)
  | 0, _ => by rw [List.take_zero]; rfl
  | k + 1, hk => by
    have ih := wsum_ones h k (by omega)
    have e : t[k]? = some t[k] := List.getElem?_eq_getElem hk
    rw [List.take_succ, e]
    show wsum _ (t.take k ++ [t[k]]) = _
    rw [wsum_snoc, ih, cb_succ e, List.length_take, Nat.min_eq_left (by omega)]
    have : (List.replicate n (1 : Int)).getD k 0 = 1 := by
      rw [List.getD_eq_getElem?_getD, List.getElem?_replicate, if_pos (by omega)]; rfl
    rw [this]
    split <;> omega
theorem wsum_one {l t : List Nat} {ps : List (Int × Int)} (h : QF l ps t) : wsum (List.replicate l.length 1) t = (cb t l.length : Nat) := by
  have := wsum_ones (n := l.length) (t := t) (by rw [h.fill.len]; omega) t.length (Nat.le_refl _)
  rw [List.take_length, h.fill.len] at this
  exact this
theorem TourOk.most {l : List Nat} {ps : List (Int × Int)} {far : T2} (ok : PairsOk ps) (h3 : Sg3 l) (t : TourOk (phi l ps) l.length 0 far) : Best l ps (List.replicate l.length 1) (some (dOf far l.length)) := by
  obtain ⟨q, hc⟩ := t.qf ok h3
  refine ⟨⟨_, q, ?_⟩, fun u hu => ?_⟩
  · rw [wsum_one q, hc _ (Nat.le_refl _), t.at0]
    omega
  · rw [wsum_one hu]
    have := t.le ok hu (x := l.length) (by omega) (Int.le_refl _)
    rw [Int.toNat_natCast, show (0 : Int).toNat = 0 from rfl, cb_zero] at this
    omega
end DL
local macro_rules | `(tactic| walk_at "vstep") => `(tactic| first
  | with_reducible refine DL.w_CO ?_
  | with_reducible refine DL.w_Try ?_
  | with_reducible refine DL.w_Par3 ?_)
namespace DL
open PySem
/-! ### weights: plain -/
theorem wsum_take {ws : List Int} {t : List Nat} {k : Nat} (hk : k < t.length) : wsum ws (t.take (k + 1)) = wsum ws (t.take k) + if t[k]? = some 120 then ws.getD k 0 else 0 := by
  have e : t[k]? = some t[k] := List.getElem?_eq_getElem hk
  rw [List.take_succ, e]
  show wsum _ (t.take k ++ [t[k]]) = _
  rw [wsum_snoc, List.length_take, Nat.min_eq_left (by omega)]
  congr 1
  simp
def wwin (n : Nat) (f la sg : Int) : List Int := (List.range n).map fun i : Nat => if f ≤ i ∧ i < la then sg else 0
theorem wwin_len {n : Nat} {f la sg : Int} : (wwin n f la sg).length = n := by unfold wwin; rw [List.length_map, List.length_range]
theorem wwin_get {n k : Nat} {f la sg : Int} (h : k < n) : (wwin n f la sg).getD k 0 = if f ≤ k ∧ k < la then sg else 0 := by
  unfold wwin
  rw [List.getD_eq_getElem?_getD, List.getElem?_map, List.getElem?_range h]; rfl
theorem wsum_win {n : Nat} {f la sg : Int} (h0 : 0 ≤ f) (h1 : f ≤ la) (h2 : la ≤ n) {t : List Nat} (ht : t.length = n) : ∀ k, k ≤ n → wsum (wwin n f la sg) (t.take k) = sg * (((cb t (min k la.toNat) : Nat) : Int) - (cb t (min k f.toNat) : Nat))
  | 0, _ => by
    rw [List.take_zero, Nat.zero_min, Nat.zero_min, cb_zero]
    show (0 : Int) = sg * (0 - 0)
    simp
  | k + 1, hk => by
    have ih := wsum_win (sg := sg) h0 h1 h2 ht k (by omega)
    have hkt : k < t.length := by omega
    have e : t[k]? = some t[k] := List.getElem?_eq_getElem hkt
    have w := wwin_get (n := n) (k := k) (f := f) (la := la) (sg := sg) (by omega)
    rw [wsum_take hkt, ih, e]
    have cs := cb_succ e
    have cnd : (some t[k] = some 120) ↔ t[k] = 120 := by simp
    by_cases hf : f ≤ k
    · have m1 : min k f.toNat = f.toNat := by omega
      have m2 : min (k + 1) f.toNat = f.toNat := by omega
      rw [m1, m2]
      by_cases hl : (k : Int) < la
      · have m3 : min k la.toNat = k := by omega
        have m4 : min (k + 1) la.toNat = k + 1 := by omega
        rw [if_pos ⟨hf, hl⟩] at w
        rw [m3, m4, cs, w]
        by_cases hc : t[k] = 120
        · rw [if_pos (cnd.mpr hc), if_pos hc]
          have : ((cb t k + 1 : Nat) : Int) - (cb t f.toNat : Nat) = ((cb t k : Nat) : Int) - (cb t f.toNat : Nat) + 1 := by omega
          rw [this, Int.mul_add, Int.mul_one]
        · rw [if_neg (fun z => hc (cnd.mp z)), if_neg hc, Nat.add_zero, Int.add_zero]
      · have m3 : min k la.toNat = la.toNat := by omega
        have m4 : min (k + 1) la.toNat = la.toNat := by omega
        rw [if_neg (fun z => hl z.2)] at w
        rw [m3, m4, w]
        split <;> simp
    · have m1 : min k f.toNat = k := by omega
      have m2 : min (k + 1) f.toNat = k + 1 := by omega
      have m3 : min k la.toNat = k := by omega
      have m4 : min (k + 1) la.toNat = k + 1 := by omega
      rw [if_neg (fun z => hf z.1)] at w
      rw [m1, m2, m3, m4, w, Int.sub_self, Int.sub_self]
      split <;> simp
theorem wsum_all {n : Nat} {f la sg : Int} (h0 : 0 ≤ f) (h1 : f ≤ la) (h2 : la ≤ n) {t : List Nat} (ht : t.length = n) : wsum (wwin n f la sg) t = sg * (((cb t la.toNat : Nat) : Int) - (cb t f.toNat : Nat)) := by
  have := wsum_win (sg := sg) h0 h1 h2 ht n (Nat.le_refl _)
  rw [show t.take n = t from List.take_of_length_le (by omega), Nat.min_eq_right (by omega), Nat.min_eq_right (by omega)] at this
  exact this
section
variable {l : List Nat} {ps : List (Int × Int)} {far : T2} {f la : Int}
theorem TourOk.win (ok : PairsOk ps) (h3 : Sg3 l) (h0 : 0 ≤ f) (h1 : f ≤ la) (h2 : la ≤ l.length) (t : TourOk (phi l ps) l.length f far) : Best l ps (wwin l.length f la 1) (some (dOf far la)) := by
  obtain ⟨q, hc⟩ := t.qf ok h3
  have c1 := hc la.toNat (by omega)
  have c2 := hc f.toNat (by omega)
  rw [show ((la.toNat : Nat) : Int) = la by omega] at c1
  rw [show ((f.toNat : Nat) : Int) = f by omega] at c2
  have z := t.at0
  refine ⟨⟨_, q, ?_⟩, fun u hu => ?_⟩
  · rw [wsum_all h0 h1 h2 q.fill.len, c1, c2]
    omega
  · rw [wsum_all h0 h1 h2 hu.fill.len]
    have := t.le ok hu (x := la) (by omega) h2
    omega
theorem TourOk.winB (ok : PairsOk ps) (h3 : Sg3 l) (h0 : 0 ≤ f) (h1 : f ≤ la) (h2 : la ≤ l.length) (t : TourOk (phi l ps) l.length la far) : Best l ps (wwin l.length f la (-1)) (some (dOf far f)) := by
  obtain ⟨q, hc⟩ := t.qf ok h3
  have c1 := hc la.toNat (by omega)
  have c2 := hc f.toNat (by omega)
  rw [show ((la.toNat : Nat) : Int) = la by omega] at c1
  rw [show ((f.toNat : Nat) : Int) = f by omega] at c2
  have z := t.at0
  refine ⟨⟨_, q, ?_⟩, fun u hu => ?_⟩
  · rw [wsum_all h0 h1 h2 q.fill.len, c1, c2]
    omega
  · rw [wsum_all h0 h1 h2 hu.fill.len]
    have := t.le ok hu (x := f) h0 (by omega)
    omega
end
theorem cb_le (t : List Nat) (p : Nat) : cb t p ≤ t.length := by
  unfold cb
  have := List.count_le_length (a := 120) (l := t.take p)
  rw [List.length_take] at this
  omega
theorem win_bd {l : List Nat} {ps : List (Int × Int)} {f la sg M : Int} (h0 : 0 ≤ f) (h1 : f ≤ la) (h2 : la ≤ l.length) (hs : sg = 1 ∨ sg = -1) (h : Best l ps (wwin l.length f la sg) (some M)) : -(l.length : Int) ≤ M ∧ M ≤ l.length := by
  obtain ⟨⟨t, q, rfl⟩, _⟩ := h
  rw [wsum_all h0 h1 h2 q.fill.len]
  have a := cb_le t la.toNat
  have b := cb_le t f.toNat
  rw [q.fill.len] at a b
  rcases hs with rfl | rfl <;> omega
theorem best_bd {l : List Nat} {ps : List (Int × Int)} {M : Int} (h : Best l ps (List.replicate l.length 1) (some M)) : 0 ≤ M ∧ M ≤ l.length := by
  obtain ⟨⟨t, q, rfl⟩, _⟩ := h
  rw [wsum_one q]
  have := cb_le t l.length
  rw [q.fill.len] at this
  omega
end DL
namespace DL
namespace Lw
open PySem PySem.Spec PyProof.Rows L2
/-- _law_pen(_law_cell); slots 0 _law_cell -/
def m_law_pen : M Fl :=
  (evRet (evLst (evCons (evL dMax2 (evCons (evC (.int 0)) (evCons (ev2 dSub (evV 0) (ev2 dPow (evC (.int 10)) (evC (.int 18)))) evNil))) (evCons (ev2 dMod (evV 0) (evC (.int 1000000007))) (evCons (evC (.int 0)) evNil)))))
def s_law_pen : List Sl → Res Sl := semOf 1 1 [] m_law_pen
/-- _law_cell_at(_law_script, _law_k); slots 0 _law_script 1 _law_k -/
def m_law_cell_at : M Fl :=
  (evSeq (evIf (toB (ev2 dLt (evV 1) (evLenP dLen 0))) (evRet (asS (evIxP dIx 0 (evV 1)))) evPass)
  (evRet (asS (evC (.int 0)))))
def s_law_cell_at : List Sl → Res Sl := semOf 2 2 [] m_law_cell_at
/-- _law_draw(_law_pen_here, _law_size); slots 0 _law_pen_here 1 _law_size 2 _law_digit 3 _law_stir -/
def m_law_draw : M Fl :=
  (evSeq (evIf (toB (ev2 dGt (evIxP dIx 0 (evC (.int 0))) (evC (.int 0)))) (evSeq (evSet 2 (asS (ev2 dMod (evIxP dIx 0 (evC (.int 0))) (evV 1))))
  (evSeq (evSetIx setIx 0 (ev2 dFdiv (evIxP dIx 0 (evC (.int 0))) (evV 1)) (evC (.int 0)))
  (evRet (evMv 2)))) evPass)
  (evSeq (evSetIx setIx 0 (ev2 dAdd (evIxP dIx 0 (evC (.int 2))) (evC (.int 1))) (evC (.int 2)))
  (evSeq (evSet 3 (asS (ev2 dMod (ev2 dMul (ev2 dAdd (evIxP dIx 0 (evC (.int 1))) (ev2 dMul (evC (.int 17)) (evIxP dIx 0 (evC (.int 2))))) (ev2 dAdd (evC (.int 69621)) (ev2 dMul (evC (.int 2)) (evIxP dIx 0 (evC (.int 2)))))) (evC (.int 2147483647)))))
  (evSeq (evSet 3 (asS (ev2 dMod (ev2 dAdd (ev2 dAdd (ev2 dMul (evV 3) (evV 3)) (ev2 dMul (evC (.int 40503)) (evIxP dIx 0 (evC (.int 2))))) (evC (.int 5))) (evC (.int 2147483629)))))
  (evRet (asS (ev2 dMod (ev2 dFdiv (ev2 dMod (ev2 dMul (evV 3) (evC (.int 48271))) (evC (.int 2147483647))) (evC (.int 32))) (evV 1))))))))
def s_law_draw : List Sl → Res Sl := semOf 2 4 [0] m_law_draw
/-- _law_pick(_law_pen_here, _law_things); slots 0 _law_pen_here 1 _law_things -/
def m_law_pick : M Fl :=
  (evRet (asS (evIxP dIx 1 (frzM (semIO s_law_draw 0 (evCons (evLenP dLen 1) evNil))))))
def s_law_pick : List Sl → Res Sl := semOf 2 2 [0] m_law_pick
/-- _law_pairs(_law_pen_here); slots 0 _law_pen_here 1 _law_found 2 _law_lap 3 _law_wide 4 _law_low -/
def m_law_pairs_b1 : M Fl :=
  (evSeq (evSet 3 (asS (ev2 dAdd (evC (.int 1)) (frzM (semIO s_law_draw 0 (evCons (evC (.int 8)) evNil))))))
  (evSeq (evSet 4 (asS (evIf (tAndM (toB (ev2 dGt (evV 3) (evC (.int 1)))) (toB (ev2 dGt (frzM (semIO s_law_draw 0 (evCons (evC (.int 8)) evNil))) (evC (.int 0))))) (evC (.int 2)) (evC (.int 1)))))
  (evDrop (asS (evMut appD 1 (evCons (evL dTup (evCons (evV 3) (evCons (ev2 dAdd (evV 4) (frzM (semIO s_law_draw 0 (evCons (ev2 dAdd (ev2 dSub (evV 3) (evV 4)) (evC (.int 1))) evNil)))) evNil))) evNil))))))
def m_law_pairs : M Fl :=
  (evSeq (evSet 1 (evLst evNil))
  (evSeq (evFor (sgName 2) (evR1 (evCons (frzM (semIO s_law_pick 0 (evCons (frzM (evLst (evCons (evC (.int 0)) (evCons (evC (.int 1)) (evCons (evC (.int 1)) (evCons (evC (.int 2)) (evCons (evC (.int 2)) (evCons (evC (.int 3)) (evCons (evC (.int 4)) evNil))))))))) evNil))) evNil))
  m_law_pairs_b1)
  (evSeq (evIf (tAndM (toB (ev2 dNe (evV 1) (frzM (evLst evNil)))) (toB (ev2 dEq (frzM (semIO s_law_draw 0 (evCons (evC (.int 9)) evNil))) (evC (.int 0))))) (evSet 1 (asS (evSl dCut (ev2 dAdd (evV 1) (evSl dCut (evV 1) evNo (evPt (evC (.int 1))))) evNo (evPt (evC (.int 4)))))) evPass)
  (evRet (evMv 1)))))
def s_law_pairs : List Sl → Res Sl := semOf 1 5 [0] m_law_pairs
/-- _law_hidden(_law_pen_here, _law_text_here, _law_part); slots 0 _law_pen_here 1 _law_text_here 2 _law_part 3 _law_sign -/
def m_law_hidden_e1 : M D :=
  (evIf (toB (ev2 dLt (frzM (semIO s_law_draw 0 (evCons (evC (.int 5)) evNil))) (evV 2))) (evC (.str ("?" : Str))) (evV 3))
def m_law_hidden : M Fl :=
  (evRet (asS (evBm isStr dJoin (evC (.str ("" : Str))) (evCons (frzM (evLc [3] (sgName 3) (evItX (evV 1)) tYesM m_law_hidden_e1)) evNil))))
def s_law_hidden : List Sl → Res Sl := semOf 3 4 [0] m_law_hidden
/-- _law_text(_law_pen_here, _law_size, _law_part); slots 0 _law_pen_here 1 _law_size 2 _law_part 3 _law_lap -/
def m_law_text_e1 : M D :=
  (evIf (toB (ev2 dEq (frzM (semIO s_law_draw 0 (evCons (evV 2) evNil))) (evC (.int 0)))) (evC (.str ("x" : Str))) (evC (.str ("." : Str))))
def m_law_text : M Fl :=
  (evRet (asS (evBm isStr dJoin (evC (.str ("" : Str))) (evCons (frzM (evLc [3] (sgName 3) (evR1 (evCons (evV 1) evNil)) tYesM m_law_text_e1)) evNil))))
def s_law_text : List Sl → Res Sl := semOf 3 4 [0] m_law_text
/-- _law_rings(_law_pair, _law_text_here, _law_place); slots 0 _law_pair 1 _law_text_here 2 _law_place 3 _law_wide 4 _law_many -/
def m_law_rings : M Fl :=
  (evSeq (evAsg (sgTup 2 (sgCons (sgName 3) (sgCons (sgName 4) sgNil))) (evV 0))
  (evRet (asS (evAnd (ev2 dLe (ev2 dAdd (evV 2) (evV 3)) (evLenP dLen 1)) (ev2 dGe (evBm isStr dCnt (evSl dCut (evV 1) (evPt (evV 2)) (evPt (ev2 dAdd (evV 2) (evV 3)))) (evCons (evC (.str ("x" : Str))) evNil)) (evV 4))))))
def s_law_rings : List Sl → Res Sl := semOf 3 5 [] m_law_rings
/-- _law_is_quiet(_law_pairs_here, _law_text_here); slots 0 _law_pairs_here 1 _law_text_here 2 _law_pair 3 _law_place -/
def m_law_is_quiet_t1 : M Bool :=
  (toB (frzM (semC s_law_rings (evCons (evV 2) (evCons (evV 1) (evCons (evV 3) evNil))))))
def m_law_is_quiet_b2 : M Fl :=
  (evIf (toB (ev2 dNe (frzM (evLc [3] (sgName 3) (evR1 (evCons (evLenP dLen 1) evNil)) m_law_is_quiet_t1 (evC (.int 1)))) (frzM (evLst evNil)))) (evRet (asS (evC (.bl false)))) evPass)
def m_law_is_quiet : M Fl :=
  (evSeq (evFor (sgName 2) (evItX (evV 0))
  m_law_is_quiet_b2)
  (evRet (asS (evC (.bl true)))))
def s_law_is_quiet : List Sl → Res Sl := semOf 2 4 [] m_law_is_quiet
/-- _law_quiet_text(_law_pen_here, _law_pairs_here, _law_size); slots 0 _law_pen_here 1 _law_pairs_here 2 _law_size 3 _law_text_here 4 _law_lap 5 _law_sign 6 _law_whole -/
def m_law_quiet_text_b1 : M Fl :=
  (evSeq (evSet 5 (asS (evIf (toB (ev2 dGt (frzM (semIO s_law_draw 0 (evCons (evC (.int 3)) evNil))) (evC (.int 0)))) (evC (.str ("x" : Str))) (evC (.str ("." : Str))))))
  (evSeq (evSet 6 (asS (ev2 dAdd (ev2 dAdd (evV 3) (evV 5)) (ev2 dMul (evC (.str ("." : Str))) (ev2 dSub (ev2 dSub (evV 2) (evV 4)) (evC (.int 1)))))))
  (evSet 3 (asS (ev2 dAdd (evV 3) (evIf (toB (frzM (semC s_law_is_quiet (evCons (evV 1) (evCons (evV 6) evNil))))) (evV 5) (evC (.str ("." : Str)))))))))
def m_law_quiet_text : M Fl :=
  (evSeq (evSet 3 (asS (evC (.str ("" : Str)))))
  (evSeq (evFor (sgName 4) (evR1 (evCons (evV 2) evNil))
  m_law_quiet_text_b1)
  (evRet (evMv 3))))
def s_law_quiet_text : List Sl → Res Sl := semOf 3 7 [0] m_law_quiet_text
/-- _law_sheet(_law_pen_here, _law_pairs_here, _law_cap); slots 0 _law_pen_here 1 _law_pairs_here 2 _law_cap 3 _law_size 4 _law_way -/
def m_law_sheet : M Fl :=
  (evSeq (evPar 3 4 (evCons (ev2 dAdd (evC (.int 1)) (frzM (semIO s_law_draw 0 (evCons (evV 2) evNil)))) (evCons (frzM (semIO s_law_draw 0 (evCons (evC (.int 6)) evNil))) evNil)))
  (evSeq (evIf (toB (ev2 dEq (evV 4) (evC (.int 0)))) (evRet (asS (ev2 dMul (evC (.str ("?" : Str))) (evV 3)))) evPass)
  (evSeq (evIf (toB (ev2 dLt (evV 4) (evC (.int 5)))) (evRet (semIO s_law_hidden 0 (evCons (frzM (semIO s_law_quiet_text 0 (evCons (evV 1) (evCons (evV 3) evNil)))) (evCons (ev2 dAdd (evC (.int 1)) (frzM (semIO s_law_draw 0 (evCons (evC (.int 4)) evNil)))) evNil)))) evPass)
  (evRet (semIO s_law_hidden 0 (evCons (frzM (semIO s_law_text 0 (evCons (evV 3) (evCons (evC (.int 3)) evNil)))) (evCons (ev2 dAdd (evC (.int 2)) (frzM (semIO s_law_draw 0 (evCons (evC (.int 3)) evNil)))) evNil)))))))
def s_law_sheet : List Sl → Res Sl := semOf 3 5 [0] m_law_sheet
/-- is_whole(thing); slots 0 thing -/
def m_is_whole : M Fl :=
  (evRet (asS (evAnd (ev1 (dIsi [("NoneType", false), ("bool", true), ("int", true), ("str", false), ("tuple", false), ("list", false)] [(("Alarm" : Str), false), (("Tour" : Str), false)]) (evV 0)) (ev1 dNot (ev1 (dIsi [("NoneType", false), ("bool", true), ("int", false), ("str", false), ("tuple", false), ("list", false)] [(("Alarm" : Str), false), (("Tour" : Str), false)]) (evV 0))))))
def s_is_whole : List Sl → Res Sl := semOf 1 1 [] m_is_whole
/-- is_between(thing, low, high); slots 0 thing 1 low 2 high -/
def m_is_between : M Fl :=
  (evRet (asS (evAnd (frzM (semC s_is_whole (evCons (evV 0) evNil))) (evChain dLe dLe (evV 1) (evV 0) (evV 2)))))
def s_is_between : List Sl → Res Sl := semOf 3 3 [] m_is_between
/-- Alarm.__init__(self, wide, many); slots 0 self 1 wide 2 many -/
def m_Alarm_init : M Fl :=
  (evSeq (evIf (tOrM (tNotM (toB (frzM (semC s_is_between (evCons (evV 1) (evCons (evC (.int 1)) (evCons (evC (.int 8)) evNil))))))) (tNotM (toB (frzM (semC s_is_between (evCons (evV 2) (evCons (evC (.int 1)) (evCons (evV 1) evNil)))))))) (evRaise ("NoNumber" : Str)) evPass)
  (evSeq (evFldS ("Alarm" : Str) ("span" : Str) 0 (evV 1))
  (evFldS ("Alarm" : Str) ("least" : Str) 0 (evV 2))))
def s_Alarm_init : List Sl → Res Sl := semOf 3 3 [0] m_Alarm_init
/-- _law_made(_law_pairs_here); slots 0 _law_pairs_here 1 _law_wide 2 _law_many -/
def m_law_made_e1 : M D :=
  (frzM (semK ("Alarm" : Str) s_Alarm_init (evCons (evV 1) (evCons (evV 2) evNil))))
def m_law_made : M Fl :=
  (evRet (asS (evL (f1 dTupOf) (evCons (frzM (evLc [1, 2] (sgTup 2 (sgCons (sgName 1) (sgCons (sgName 2) sgNil))) (evItX (evV 0)) tYesM m_law_made_e1)) evNil))))
def s_law_made : List Sl → Res Sl := semOf 1 3 [] m_law_made
/-- _law_now(_law_pairs_here, _law_text_here); slots 0 _law_pairs_here 1 _law_text_here 2 _law_at 3 _law_wide 4 _law_many -/
def m_law_now_t1 : M Bool :=
  (tAndM (toB (ev2 dGe (evLenP dLen 1) (evV 3))) (toB (ev2 dGe (evBm isStr dCnt (evSl dCut (evV 1) (evPt (ev1 dNeg (evV 3))) evNo) (evCons (evC (.str ("x" : Str))) evNil)) (evV 4))))
def m_law_now : M Fl :=
  (evRet (asS (evL (f1 dTupOf) (evCons (frzM (evLc [2, 3, 4] (sgTup 2 (sgCons (sgName 2) (sgCons (sgTup 2 (sgCons (sgName 3) (sgCons (sgName 4) sgNil))) sgNil))) (evEnum (evCons (evV 0) evNil)) m_law_now_t1 (evV 2))) evNil))))
def s_law_now : List Sl → Res Sl := semOf 2 5 [] m_law_now
/-- _law_best(_law_sheet_here, _law_pairs_here, _law_weights); slots 0 _law_sheet_here 1 _law_pairs_here 2 _law_weights 3 _law_found 4 _law_minute 5 _law_sign 6 _law_later 7 _law_end 8 _law_worth 9 _law_one 10 _law_text_here 11 _law_more -/
def m_law_best_b1 : M Fl :=
  (evSeq (evPar 10 11 (evCons (ev2 dAdd (evV 7) (evV 9)) (evCons (ev2 dAdd (evV 8) (evIf (toB (ev2 dEq (evV 9) (evC (.str ("x" : Str))))) (evIxP dIx 2 (evV 4)) (evC (.int 0)))) evNil)))
  (evIf (toB (ev2 dEq (frzM (semC s_law_now (evCons (evV 1) (evCons (evV 10) evNil)))) (evL dTup evNil))) (evSetIx setD 6 (evL dMax2 (evCons (evGetP 6 (evSl dCut (evV 10) (evPt (ev1 dNeg (evC (.int 7)))) evNo) (evV 11)) (evCons (evV 11) evNil))) (evSl dCut (evV 10) (evPt (ev1 dNeg (evC (.int 7)))) evNo)) evPass))
def m_law_best_b2 : M Fl :=
  (evFor (sgName 9) (evItX (evIf (toB (ev2 dEq (evV 5) (evC (.str ("?" : Str))))) (frzM (evLst (evCons (evC (.str ("." : Str))) (evCons (evC (.str ("x" : Str))) evNil)))) (frzM (evLst (evCons (evV 5) evNil)))))
  m_law_best_b1)
def m_law_best_b3 : M Fl :=
  (evSeq (evSet 6 evDK0)
  (evSeq (evForItems 3 (sgTup 2 (sgCons (sgName 7) (sgCons (sgName 8) sgNil)))
  m_law_best_b2)
  (evSet 3 (asS (evV 6)))))
def m_law_best : M Fl :=
  (evSeq (evSet 3 (evDK1 (.inr ("" : Str)) (.int 0)))
  (evSeq (evFor (sgTup 2 (sgCons (sgName 4) (sgCons (sgName 5) sgNil))) (evEnum (evCons (evV 0) evNil))
  m_law_best_b3)
  (evRet (asS (ev2 dMaxD (frzM (evLcItems 3 [7, 8] (sgTup 2 (sgCons (sgName 7) (sgCons (sgName 8) sgNil))) tYesM (evV 8))) (evC .non))))))
def s_law_best : List Sl → Res Sl := semOf 3 12 [] m_law_best
/-- _law_between(_law_sheet_here, _law_pairs_here, _law_first, _law_last, _law_sign); slots 0 _law_sheet_here 1 _law_pairs_here 2 _law_first 3 _law_last 4 _law_sign 5 _law_weights 6 _law_minute -/
def m_law_between_e1 : M D :=
  (evIf (toB (evChain dLe dLt (evV 2) (evV 6) (evV 3))) (evV 4) (evC (.int 0)))
def m_law_between : M Fl :=
  (evSeq (evSet 5 (evLc [6] (sgName 6) (evR1 (evCons (evLenP dLen 0) evNil)) tYesM m_law_between_e1))
  (evRet (asS (ev2 dMul (evV 4) (frzM (semC s_law_best (evCons (evV 0) (evCons (evV 1) (evCons (evV 5) evNil)))))))))
def s_law_between : List Sl → Res Sl := semOf 5 7 [] m_law_between
/-- has_signs(thing, signs); slots 0 thing 1 signs 2 one -/
def m_has_signs : M Fl :=
  (evRet (asS (evAnd (ev1 (dIsi [("NoneType", false), ("bool", false), ("int", false), ("str", true), ("tuple", false), ("list", false)] [(("Alarm" : Str), false), (("Tour" : Str), false)]) (evV 0)) (evAnd (evChain dLe dLe (evC (.int 1)) (evLenP dLen 0) (evC (.int 30))) (evL (f1 dAll) (evCons (frzM (evLc [2] (sgName 2) (evItX (evV 0)) tYesM (ev2 dIn (evV 2) (evV 1)))) evNil))))))
def s_has_signs : List Sl → Res Sl := semOf 2 3 [] m_has_signs
/-- is_sheet(thing); slots 0 thing -/
def m_is_sheet : M Fl :=
  (evRet (semC s_has_signs (evCons (evV 0) (evCons (evL dTup (evCons (evC (.str ("x" : Str))) (evCons (evC (.str ("." : Str))) (evCons (evC (.str ("?" : Str))) evNil)))) evNil))))
def s_is_sheet : List Sl → Res Sl := semOf 1 1 [] m_is_sheet
/-- need_sheet(thing); slots 0 thing -/
def m_need_sheet : M Fl :=
  (evIf (tNotM (toB (frzM (semC s_is_sheet (evCons (evV 0) evNil))))) (evRaise ("NoSheet" : Str)) evPass)
def s_need_sheet : List Sl → Res Sl := semOf 1 1 [] m_need_sheet
/-- are_alarms(thing); slots 0 thing 1 one -/
def m_are_alarms_e1 : M D :=
  (ev1 (dIsi [("NoneType", false), ("bool", false), ("int", false), ("str", false), ("tuple", false), ("list", false)] [(("Alarm" : Str), true), (("Tour" : Str), false)]) (evV 1))
def m_are_alarms : M Fl :=
  (evRet (asS (evAnd (ev1 (dIsi [("NoneType", false), ("bool", false), ("int", false), ("str", false), ("tuple", true), ("list", false)] [(("Alarm" : Str), false), (("Tour" : Str), false)]) (evV 0)) (evAnd (ev2 dLe (evLenP dLen 0) (evC (.int 4))) (evL (f1 dAll) (evCons (frzM (evLc [1] (sgName 1) (evItX (evV 0)) tYesM m_are_alarms_e1)) evNil))))))
def s_are_alarms : List Sl → Res Sl := semOf 1 2 [] m_are_alarms
/-- need_alarms(thing); slots 0 thing -/
def m_need_alarms : M Fl :=
  (evIf (tNotM (toB (frzM (semC s_are_alarms (evCons (evV 0) evNil))))) (evRaise ("NoAlarms" : Str)) evPass)
def s_need_alarms : List Sl → Res Sl := semOf 1 1 [] m_need_alarms
/-- Alarm.does_ring(self, pattern, place); slots 0 self 1 pattern 2 place 3 own -/
def m_Alarm_does_ring : M Fl :=
  (evSeq (evSet 3 (asS (evSl dCut (evV 1) (evPt (evV 2)) (evPt (ev2 dAdd (evV 2) (evFldP ("Alarm" : Str) ("span" : Str) 0))))))
  (evRet (asS (evAnd (ev2 dEq (evLenP dLen 3) (evFldP ("Alarm" : Str) ("span" : Str) 0)) (ev2 dGe (evBm isStr dCnt (evV 3) (evCons (evC (.str ("x" : Str))) evNil)) (evFldP ("Alarm" : Str) ("least" : Str) 0))))))
def s_Alarm_does_ring : List Sl → Res Sl := semOf 3 4 [] m_Alarm_does_ring
/-- Alarm.places_in(self, pattern); slots 0 self 1 pattern 2 place -/
def m_Alarm_places_in_t1 : M Bool :=
  (toB (frzM (semM ("Alarm" : Str) ("does_ring" : Str) s_Alarm_does_ring (evV 0) (evCons (evV 1) (evCons (evV 2) evNil)))))
def m_Alarm_places_in : M Fl :=
  (evRet (asS (evL (f1 dTupOf) (evCons (frzM (evLc [2] (sgName 2) (evR1 (evCons (evLenP dLen 1) evNil)) m_Alarm_places_in_t1 (evV 2))) evNil))))
def s_Alarm_places_in : List Sl → Res Sl := semOf 2 3 [] m_Alarm_places_in
/-- is_quiet(pattern, alarms); slots 0 pattern 1 alarms 2 one -/
def m_is_quiet_e1 : M D :=
  (ev2 dEq (frzM (semM ("Alarm" : Str) ("places_in" : Str) s_Alarm_places_in (evV 2) (evCons (evV 0) evNil))) (evL dTup evNil))
def m_is_quiet : M Fl :=
  (evRet (asS (evL (f1 dAll) (evCons (frzM (evLc [2] (sgName 2) (evItX (evV 1)) tYesM m_is_quiet_e1)) evNil))))
def s_is_quiet : List Sl → Res Sl := semOf 2 3 [] m_is_quiet
/-- can_be_quiet(sheet, alarms); slots 0 sheet 1 alarms -/
def m_can_be_quiet : M Fl :=
  (evRet (semC s_is_quiet (evCons (ev1 (dRpl ("?" : Str) ("." : Str)) (evV 0)) (evCons (evV 1) evNil))))
def s_can_be_quiet : List Sl → Res Sl := semOf 2 2 [] m_can_be_quiet
/-- has_filling(sheet, alarms); slots 0 sheet 1 alarms -/
def m_has_filling : M Fl :=
  (evSeq (evDrop (semC s_need_sheet (evCons (evV 0) evNil)))
  (evSeq (evDrop (semC s_need_alarms (evCons (evV 1) evNil)))
  (evRet (semC s_can_be_quiet (evCons (evV 0) (evCons (evV 1) evNil))))))
def s_has_filling : List Sl → Res Sl := semOf 2 2 [] m_has_filling
/-- need_filling(sheet, alarms); slots 0 sheet 1 alarms -/
def m_need_filling : M Fl :=
  (evIf (tNotM (toB (frzM (semC s_has_filling (evCons (evV 0) (evCons (evV 1) evNil)))))) (evRaise ("NoFilling" : Str)) evPass)
def s_need_filling : List Sl → Res Sl := semOf 2 2 [] m_need_filling
/-- is_place(sheet, thing); slots 0 sheet 1 thing -/
def m_is_place : M Fl :=
  (evRet (semC s_is_between (evCons (evV 1) (evCons (evC (.int 0)) (evCons (evLenP dLen 0) evNil)))))
def s_is_place : List Sl → Res Sl := semOf 2 2 [] m_is_place
/-- need_places(sheet, alarms, first, last); slots 0 sheet 1 alarms 2 first 3 last -/
def m_need_places : M Fl :=
  (evSeq (evDrop (semC s_need_sheet (evCons (evV 0) evNil)))
  (evSeq (evDrop (semC s_need_alarms (evCons (evV 1) evNil)))
  (evSeq (evIf (tOrM (tNotM (toB (frzM (semC s_is_place (evCons (evV 0) (evCons (evV 2) evNil)))))) (tOrM (tNotM (toB (frzM (semC s_is_place (evCons (evV 0) (evCons (evV 3) evNil)))))) (toB (ev2 dGt (evV 2) (evV 3))))) (evRaise ("NoPlace" : Str)) evPass)
  (evDrop (semC s_need_filling (evCons (evV 0) (evCons (evV 1) evNil)))))))
def s_need_places : List Sl → Res Sl := semOf 4 4 [] m_need_places
/-- Tour.__call__(self, goal); slots 0 self 1 goal -/
def m_Tour_call : M Fl :=
  (evRet (asS (ev2 dDGet (evFldP ("Tour" : Str) ("far" : Str) 0) (evV 1))))
def s_Tour_call : List Sl → Res Sl := semOf 2 2 [] m_Tour_call
/-- Alarm.wide(self); slots 0 self -/
def m_Alarm_wide : M Fl :=
  (evRet (asS (evFldP ("Alarm" : Str) ("span" : Str) 0)))
def s_Alarm_wide : List Sl → Res Sl := semOf 1 1 [] m_Alarm_wide
/-- Alarm.many(self); slots 0 self -/
def m_Alarm_many : M Fl :=
  (evRet (asS (evFldP ("Alarm" : Str) ("least" : Str) 0)))
def s_Alarm_many : List Sl → Res Sl := semOf 1 1 [] m_Alarm_many
/-- costs_of(sheet, alarms); slots 0 sheet 1 alarms 2 found 3 place 4 sign 5 alarm 6 step -/
def m_costs_of_b1 : M Fl :=
  (evSeq (evSetIx setD 2 (evIf (toB (ev2 dEq (evV 4) (evC (.str ("." : Str))))) (evC (.int 0)) (evC (.int 1))) (evL dTup (evCons (evV 3) (evCons (ev2 dAdd (evV 3) (evC (.int 1))) evNil))))
  (evSetIx setD 2 (evIf (toB (ev2 dEq (evV 4) (evC (.str ("x" : Str))))) (ev1 dNeg (evC (.int 1))) (evC (.int 0))) (evL dTup (evCons (ev2 dAdd (evV 3) (evC (.int 1))) (evCons (evV 3) evNil)))))
def m_costs_of_b2 : M Fl :=
  (evSeq (evSet 6 (asS (evL dTup (evCons (evV 3) (evCons (ev2 dAdd (evV 3) (frzM (semP ("Alarm" : Str) s_Alarm_wide (evV 5)))) evNil)))))
  (evSetIx setD 2 (evL dMin2 (evCons (evGetP 2 (evV 6) (ev2 dSub (frzM (semP ("Alarm" : Str) s_Alarm_many (evV 5))) (evC (.int 1)))) (evCons (ev2 dSub (frzM (semP ("Alarm" : Str) s_Alarm_many (evV 5))) (evC (.int 1))) evNil))) (evV 6)))
def m_costs_of_b3 : M Fl :=
  (evFor (sgName 3) (evR1 (evCons (ev2 dAdd (ev2 dSub (evLenP dLen 0) (frzM (semP ("Alarm" : Str) s_Alarm_wide (evV 5)))) (evC (.int 1))) evNil))
  m_costs_of_b2)
def m_costs_of : M Fl :=
  (evSeq (evSet 2 evDT0)
  (evSeq (evFor (sgTup 2 (sgCons (sgName 3) (sgCons (sgName 4) sgNil))) (evEnum (evCons (evV 0) evNil))
  m_costs_of_b1)
  (evSeq (evFor (sgName 5) (evItX (evV 1))
  m_costs_of_b3)
  (evRet (evMv 2)))))
def s_costs_of : List Sl → Res Sl := semOf 2 7 [] m_costs_of
/-- Tour.__init__(self, sheet, alarms, start); slots 0 self 1 sheet 2 alarms 3 start 4 costs 5 turn 6 place 7 other 8 cost -/
def m_Tour_init : M Fl :=
  (evTour (frzM (semC s_costs_of (evCons (evV 1) (evCons (evV 2) evNil)))) (evR1 (evCons (ev2 dAdd (evLenP dLen 1) (evC (.int 1))) evNil)))
def s_Tour_init : List Sl → Res Sl := semOf 4 9 [0] m_Tour_init
/-- most_between(sheet, alarms, first, last); slots 0 sheet 1 alarms 2 first 3 last -/
def m_most_between : M Fl :=
  (evSeq (evDrop (semC s_need_places (evCons (evV 0) (evCons (evV 1) (evCons (evV 2) (evCons (evV 3) evNil))))))
  (evRet (semCO ("Tour" : Str) s_Tour_call (frzM (semK ("Tour" : Str) s_Tour_init (evCons (evV 0) (evCons (evV 1) (evCons (evV 2) evNil))))) (evCons (evV 3) evNil))))
def s_most_between : List Sl → Res Sl := semOf 4 4 [] m_most_between
/-- least_between(sheet, alarms, first, last); slots 0 sheet 1 alarms 2 first 3 last -/
def m_least_between : M Fl :=
  (evSeq (evDrop (semC s_need_places (evCons (evV 0) (evCons (evV 1) (evCons (evV 2) (evCons (evV 3) evNil))))))
  (evRet (asS (ev1 dNeg (frzM (semCO ("Tour" : Str) s_Tour_call (frzM (semK ("Tour" : Str) s_Tour_init (evCons (evV 0) (evCons (evV 1) (evCons (evV 3) evNil))))) (evCons (evV 2) evNil)))))))
def s_least_between : List Sl → Res Sl := semOf 4 4 [] m_least_between
/-- _law_most(_law_sheet_here, _law_pairs_here); slots 0 _law_sheet_here 1 _law_pairs_here -/
def m_law_most : M Fl :=
  (evRet (semC s_law_best (evCons (evV 0) (evCons (evV 1) (evCons (ev2 dMul (frzM (evLst (evCons (evC (.int 1)) evNil))) (evLenP dLen 0)) evNil)))))
def s_law_most : List Sl → Res Sl := semOf 2 2 [] m_law_most
/-- Alarm.text(self); slots 0 self -/
def m_Alarm_text : M Fl :=
  (evRet (asS ((evJc (ev1 dFmt (evFldP ("Alarm" : Str) ("least" : Str) 0)) (evJc (evC (.str (" " : Str))) (evJc (ev1 dFmt (evC (.str ("of" : Str)))) (evJc (evC (.str (" " : Str))) (evJc (ev1 dFmt (evFldP ("Alarm" : Str) ("span" : Str) 0)) evJ0))))) Str.empty)))
def s_Alarm_text : List Sl → Res Sl := semOf 1 1 [] m_Alarm_text
/-- Alarm.__repr__(self); slots 0 self -/
def m_Alarm_repr : M Fl :=
  (evRet (asS ((evJc (evC (.str ("Alarm(" : Str))) (evJc (ev1 dFmt (frzM (semM ("Alarm" : Str) ("text" : Str) s_Alarm_text (evV 0) evNil))) (evJc (evC (.str (")" : Str))) evJ0))) Str.empty)))
def s_Alarm_repr : List Sl → Res Sl := semOf 1 1 [] m_Alarm_repr
def rpD : D → Option Str
  | .ins c ns vs =>
    if c = ("Alarm" : Str) then txR (s_Alarm_repr [.d (.ins c ns vs)]) else
    none
  | _ => none
/-- _law_same(_law_found, _law_due); slots 0 _law_found 1 _law_due -/
def m_law_same : M Fl :=
  (evRet (asS (ev2 dEq (evL (f1 (dReprX rpD)) (evCons (evV 0) evNil)) (evL (f1 (dReprX rpD)) (evCons (evV 1) evNil)))))
def s_law_same : List Sl → Res Sl := semOf 2 2 [] m_law_same
/-- law(_law_script); slots 0 _law_script 1 _law_k 2 _law_pen_here 3 _law_lap 4 _law_pairs_here 5 _law_sheet_here 6 _law_alarms 7 _law_turn 8 _law_first 9 _law_last 10 _law_due 11 _law_told -/
def m_law_b1 : M Fl :=
  (evSeq (evSet 8 (semIO s_law_draw 2 (evCons (ev2 dAdd (evLenP dLen 5) (evC (.int 1))) evNil)))
  (evSeq (evSet 9 (asS (ev2 dAdd (evV 8) (frzM (semIO s_law_draw 2 (evCons (ev2 dSub (ev2 dAdd (evLenP dLen 5) (evC (.int 1))) (evV 8)) evNil))))))
  (evSeq (evSet 10 (evLst (evCons (frzM (semC s_law_between (evCons (evV 5) (evCons (evV 4) (evCons (evV 8) (evCons (evV 9) (evCons (evC (.int 1)) evNil))))))) (evCons (frzM (semC s_law_between (evCons (evV 5) (evCons (evV 4) (evCons (evV 8) (evCons (evV 9) (evCons (ev1 dNeg (evC (.int 1))) evNil))))))) evNil))))
  (evSeq (evSet 11 (evLst (evCons (frzM (semC s_most_between (evCons (evV 5) (evCons (evV 6) (evCons (evV 8) (evCons (evV 9) evNil)))))) (evCons (frzM (semC s_least_between (evCons (evV 5) (evCons (evV 6) (evCons (evV 8) (evCons (evV 9) evNil)))))) evNil))))
  (evIf (tOrM (tNotM (toB (frzM (semC s_law_same (evCons (evV 11) (evCons (evV 10) evNil)))))) (toB (ev2 dNe (frzM (semC s_most_between (evCons (evV 5) (evCons (evV 6) (evCons (evV 8) (evCons (evV 9) evNil)))))) (evIxP dIx 10 (evC (.int 0)))))) (evRet (asS (evC (.bl false)))) evPass)))))
def m_law_b2 : M Fl :=
  (evSeq (evSet 4 (semIO s_law_pairs 2 evNil))
  (evSeq (evPar 5 6 (evCons (frzM (semIO s_law_sheet 2 (evCons (evV 4) (evCons (ev2 dIx (frzM (evLst (evCons (evC (.int 14)) (evCons (evC (.int 14)) (evCons (evC (.int 30)) evNil))))) (evV 3)) evNil)))) (evCons (frzM (semC s_law_made (evCons (evV 4) evNil))) evNil)))
  (evFor (sgName 7) (evR1 (evCons (evIf (toB (ev2 dIsNot (frzM (semC s_law_most (evCons (evV 5) (evCons (evV 4) evNil)))) (evC .non))) (evC (.int 6)) (evC (.int 0))) evNil))
  m_law_b1)))
def m_law_b3 : M Fl :=
  (evSeq (evSet 2 (semC s_law_pen (evCons (frzM (semC s_law_cell_at (evCons (evV 0) (evCons (evV 1) evNil)))) evNil)))
  (evFor (sgName 3) (evR1 (evCons (evC (.int 3)) evNil))
  m_law_b2))
def m_law : M Fl :=
  (evSeq (evFor (sgName 1) (evR1 (evCons (evL dMax2 (evCons (evC (.int 1)) (evCons (evL dMin2 (evCons (evLenP dLen 0) (evCons (evC (.int 3)) evNil))) evNil))) evNil))
  m_law_b3)
  (evRet (asS (evC (.bl true)))))
def s_law : List Sl → Res Sl := semOf 1 12 [] m_law
end Lw
end DL
namespace DL
namespace Lw
open PySem
def penO (a b c : Int) : O := .lst [.int a, .int b, .int c]
structure PenOk (a b c n : Int) : Prop where
  a0 : 0 ≤ a
  b0 : 0 ≤ b
  b1 : b < 1000000007
  c0 : 0 ≤ c
  c1 : c ≤ n
theorem PenOk.mono {a b c n m : Int} (p : PenOk a b c n) (h : n ≤ m) : PenOk a b c m := ⟨p.a0, p.b0, p.b1, p.c0, Int.le_trans p.c1 h⟩
section
variable {E : Ex → List Sl → Prop} {Q : Sl → List Sl → Prop} {a b c n size : Int}
theorem draw_wp (p : PenOk a b c n) (hn : n < 1000000000) (hs : 0 < size) (hs2 : size < 1000000)
    (h : ∀ r a' b' c', 0 ≤ r → r < size → PenOk a' b' c' (n + 1) → Q (.d (.int r)) [.o (penO a' b' c'), .d (.int size)]) : wp (s_law_draw [.o (penO a b c), .d (.int size)]) E Q := by
  obtain ⟨a0, b0, b1, c0, c1⟩ := p
  walk_at "wsem"
  unfold m_law_draw
  walk_at "vc"
  refine ⟨fun hb => ?_, fun hb => ?_⟩
  · have hb := of_decide_eq_true hb
    walk_at "vc"
    refine h _ _ _ _ ?_ ?_ ?_
    · exact Int.emod_nonneg _ (by omega)
    · exact Int.emod_lt_of_pos _ hs
    · exact ⟨Int.ediv_nonneg a0 (by omega), b0, b1, c0, by omega⟩
  · walk_at "vc"
    refine h _ _ _ _ ?_ ?_ ?_
    · exact Int.emod_nonneg _ (by omega)
    · exact Int.emod_lt_of_pos _ hs
    · exact ⟨a0, b0, b1, by omega, by omega⟩
theorem cell_wp {ns : List Int} {k : Int} (hk : 0 ≤ k) (h : ∀ x, Q (.d (.int x)) [.d (.scr ns), .d (.int k)]) : wp (s_law_cell_at [.d (.scr ns), .d (.int k)]) E Q := by
  walk_at "wsem"
  unfold m_law_cell_at
  walk_at "vc"
  refine ⟨fun hb => ?_, fun hb => ?_⟩
  · have hb := of_decide_eq_true hb
    have e : dIx (.scr ns) (.int k) = some (.int (ns[k.toNat]'(by omega))) := by
      have e1 : L2.atI ns k = some (ns[k.toNat]'(by omega)) := by
        unfold L2.atI L2.ixN
        rw [if_pos hk, if_pos hb]
        show ns[k.toNat]? = _
        rw [List.getElem?_eq_getElem]
      show (L2.atI ns k).map D.int = _
      rw [e1]; rfl
    walk_at "vc"
    refine o_ixR e ?_
    walk_at "vc"
    exact h _
  · walk_at "vc"
    exact h _
theorem pen_wp {x : Int} (h : ∀ a b, PenOk a b 0 0 → Q (.o (penO a b 0)) [.d (.int x)]) : wp (s_law_pen [.d (.int x)]) E Q := by
  walk_at "wsem"
  unfold m_law_pen
  walk_at "vc"
  refine o_powI (by omega) (by omega) (by decide) ?_
  walk_at "vc"
  refine h _ _ ⟨?_, Int.emod_nonneg _ (by omega), Int.emod_lt_of_pos _ (by omega), by omega, by omega⟩
  split <;> omega
theorem pick_wp {xs : List D} (p : PenOk a b c n) (hn : n < 1000000000) (hs : 0 < xs.length) (hs2 : xs.length < 1000000)
    (h : ∀ (i : Nat) d a' b' c', xs[i]? = some d → PenOk a' b' c' (n + 1) → Q (.d d) [.o (penO a' b' c'), .d (.lst xs)]) : wp (s_law_pick [.o (penO a b c), .d (.lst xs)]) E Q := by
  walk_at "wsem"
  unfold m_law_pick
  walk_at "vc"
  refine draw_wp (size := (xs.length : Int)) p hn (by omega) (by omega) fun r a' b' c' r0 r1 p' => ?_
  walk_at "vc"
  have hr : r.toNat < xs.length := by omega
  have e : dIx (.lst xs) (.int r) = some xs[r.toNat] := by
    show L2.atI xs r = _
    unfold L2.atI L2.ixN
    rw [if_pos r0, if_pos r1]
    show xs[r.toNat]? = _
    rw [List.getElem?_eq_getElem hr]
  refine o_ixR e ?_
  walk_at "vc"
  exact h r.toNat _ _ _ _ (List.getElem?_eq_getElem hr) p'
end
end Lw
end DL
namespace DL
namespace Lw
open PySem

section
variable {E : Ex → List Sl → Prop} {a b c n m : Int}
theorem pairs_b {Q : Fl → List Sl → Prop} {l : List (Int × Int)} {s2 s3 s4 : Sl} (p : PenOk a b c m) (hm : m + 10 < 1000000000) (lo : PairsOk l) (hl : l.length ≤ 3)
    (h : ∀ l' a' b' c' s3 s4, PairsOk l' → l'.length = l.length + 1 → PenOk a' b' c' (m + 3) → Q .nx [.o (penO a' b' c'), .o (.lst (pairsD l')), s2, s3, s4]) :
    wp (m_law_pairs_b1 [.o (penO a b c), .o (.lst (pairsD l)), s2, s3, s4]) E Q := by
  unfold m_law_pairs_b1
  walk_at "vc"
  refine draw_wp p (by omega) (by decide) (by decide) fun r a3 b3 c3 r0 r1 p3 => ?_
  walk_at "vc"
  refine ⟨fun hb => ?_, fun hb => ?_⟩
  · have hb := of_decide_eq_true hb
    walk_at "vc"
    refine draw_wp p3 (by omega) (by decide) (by decide) fun q a4 b4 c4 q0 q1 p4 => ?_
    walk_at "vc"
    refine ⟨fun hb => ?_, fun hb => ?_⟩
    · walk_at "vc"
      refine draw_wp p4 (by omega) (by omega) (by omega) fun q a5 b5 c5 q0 q1 p5 => ?_
      walk_at "vc"
      refine o_app (by rw [pairsD_len]; unfold szMax; omega) ?_
      have e := pairsD_app l (1 + r, 2 + q)
      dsimp only at e
      rw [e]
      refine h (l ++ [(1 + r, 2 + q)]) a5 b5 c5 _ _ ?_ ?_ (p5.mono (by omega))
      · intro z hz
        rcases List.mem_append.mp hz with hz | hz
        · exact lo z hz
        · cases List.mem_singleton.mp hz
          dsimp only
          omega
      · rw [List.length_append]; rfl
    · walk_at "vc"
      refine draw_wp p4 (by omega) (by omega) (by omega) fun q a5 b5 c5 q0 q1 p5 => ?_
      walk_at "vc"
      refine o_app (by rw [pairsD_len]; unfold szMax; omega) ?_
      have e := pairsD_app l (1 + r, 1 + q)
      dsimp only at e
      rw [e]
      refine h (l ++ [(1 + r, 1 + q)]) a5 b5 c5 _ _ ?_ ?_ (p5.mono (by omega))
      · intro z hz
        rcases List.mem_append.mp hz with hz | hz
        · exact lo z hz
        · cases List.mem_singleton.mp hz
          dsimp only
          omega
      · rw [List.length_append]; rfl
  · walk_at "vc"
    refine draw_wp p3 (by omega) (by omega) (by omega) fun q a5 b5 c5 q0 q1 p5 => ?_
    walk_at "vc"
    refine o_app (by rw [pairsD_len]; unfold szMax; omega) ?_
    have e := pairsD_app l (1 + r, 1 + q)
    dsimp only at e
    rw [e]
    refine h (l ++ [(1 + r, 1 + q)]) a5 b5 c5 _ _ ?_ ?_ (p5.mono (by omega))
    · intro z hz
      rcases List.mem_append.mp hz with hz | hz
      · exact lo z hz
      · cases List.mem_singleton.mp hz
        dsimp only
        omega
    · rw [List.length_append]; rfl

theorem pairsD_sm {l : List (Int × Int)} (h : PairsOk l) : Sm (.lst (pairsD l)) ∧ dep (.lst (pairsD l)) ≤ 64 := by
  constructor
  · simp only [Sm]
    refine smL_of fun d hd => ?_
    obtain ⟨p, hp, rfl⟩ := List.mem_map.mp hd
    have := h p hp
    simp only [Sm, SmL]
    exact ⟨by simpa only [Sm] using sm_int (i := p.1) (by omega) (by omega), by simpa only [Sm] using sm_int (i := p.2) (by omega) (by omega), trivial⟩
  · simp only [dep]
    have := depL_of (ds := pairsD l) (k := 1) fun d hd => by
      obtain ⟨p, hp, rfl⟩ := List.mem_map.mp hd
      simp only [dep, depL]; decide
    omega
theorem pick7 {i : Nat} {d : D} (hd : ([.int 0, .int 1, .int 1, .int 2, .int 2, .int 3, .int 4] : List D)[i]? = some d) : ∃ k, d = .int k ∧ 0 ≤ k ∧ k ≤ 4 := by
  have hi : i < 7 := (List.getElem?_eq_some_iff.mp hd).1
  match i, hi with
  | 0, _ => cases hd; exact ⟨_, rfl, by decide, by decide⟩
  | 1, _ => cases hd; exact ⟨_, rfl, by decide, by decide⟩
  | 2, _ => cases hd; exact ⟨_, rfl, by decide, by decide⟩
  | 3, _ => cases hd; exact ⟨_, rfl, by decide, by decide⟩
  | 4, _ => cases hd; exact ⟨_, rfl, by decide, by decide⟩
  | 5, _ => cases hd; exact ⟨_, rfl, by decide, by decide⟩
  | 6, _ => cases hd; exact ⟨_, rfl, by decide, by decide⟩
theorem pairs_wp {Q : Sl → List Sl → Prop} (p : PenOk a b c n) (hn : n + 100 < 1000000000)
    (h : ∀ l a' b' c', PairsOk l → l.length ≤ 4 → PenOk a' b' c' (n + 20) → Q (.d (.lst (pairsD l))) [.o (penO a' b' c')]) : wp (s_law_pairs [.o (penO a b c)]) E Q := by
  walk_at "wsem"
  unfold m_law_pairs
  walk_at "vc"
  refine pick_wp p (by omega) (by decide) (by decide) fun i d a1 b1 c1 hd p1 => ?_
  obtain ⟨k, rfl, k0, k1⟩ := pick7 hd
  walk_at "vc"
  refine ⟨by omega, forL_inv (fun i σ => ∃ (l : List (Int × Int)) (a b c : Int) (s2 s3 s4 : Sl), σ = [.o (penO a b c), .o (.lst (pairsD l)), s2, s3, s4] ∧ l.length = i ∧ PairsOk l ∧ PenOk a b c (n + 1 + 3 * i)) _ 0 _ ⟨[], _, _, _, _, _, _, rfl, rfl, (fun _ z => nomatch z), p1.mono (by omega)⟩ ?_ ?_⟩
  · rintro j d σ hd ⟨l, a2, b2, c2, s2, s3, s4, rfl, hl, lo, p2⟩
    obtain ⟨hj, rfl⟩ := rng_get hd
    walk_at "vc"
    refine pairs_b p2 (by omega) lo (by omega) fun l' a3 b3 c3 s3 s4 lo' hl' p3 => ?_
    walk_at "vc"
    exact ⟨l', a3, b3, c3, _, _, _, rfl, by omega, lo', p3.mono (by omega)⟩
  · rintro σ ⟨l, a2, b2, c2, s2, s3, s4, rfl, hl, lo, p2⟩
    have hl : l.length = k.toNat := by rw [hl]; unfold rng; rw [List.length_map, List.length_range]; omega
    walk_at "vc"
    refine o_neNil (pairsD_sm lo).1 (pairsD_sm lo).2 ?_
    walk_at "vc"
    have sl4 : l.length ≤ 4 := by omega
    have p3 : ∀ {x y z m : Int}, PenOk x y z m → m ≤ n + 20 → PenOk x y z (n + 20) := fun q h => q.mono h
    have lr : (rng 0 k.toNat).length = k.toNat := by unfold rng; rw [List.length_map, List.length_range]
    rw [lr] at p2
    refine ⟨fun hb => ?_, fun hb => ?_⟩
    · walk_at "vc"
      refine draw_wp p2 (by omega) (by decide) (by decide) fun r a3 b3 c3 r0 r1 p3 => ?_
      walk_at "vc"
      refine ⟨fun hb => ?_, fun hb => ?_⟩
      · walk_at "vc"
        refine o_cutL ?_
        rw [cutD_to _ (by decide)]
        refine o_addL (by rw [List.length_take]; simp only [pairsD_len]; unfold szMax; omega) ?_
        walk_at "vc"
        refine o_cutL ?_
        rw [cutD_to _ (by decide)]
        walk_at "vc"
        have e : ((pairsD l) ++ (pairsD l).take (Int.toNat 1)).take (Int.toNat 4) = pairsD ((l ++ l.take 1).take 4) := by
          unfold pairsD
          rw [← List.map_take, ← List.map_append, ← List.map_take]; rfl
        show Q (.d (.lst (((pairsD l) ++ (pairsD l).take (Int.toNat 1)).take (Int.toNat 4)))) _
        rw [e]
        refine h _ a3 b3 c3 (fun z hz => ?_) (by rw [List.length_take]; omega) (p3.mono (by omega))
        rcases List.mem_append.mp (List.mem_of_mem_take hz) with hz | hz
        · exact lo z hz
        · exact lo z (List.mem_of_mem_take hz)
      · walk_at "vc"
        exact h l a3 b3 c3 lo sl4 (p3.mono (by omega))
    · walk_at "vc"
      exact h l a2 b2 c2 lo sl4 (p2.mono (by omega))
end
end Lw
end DL
namespace DL
namespace Lw
open PySem
section
variable {E : Ex → List Sl → Prop} {Q : Sl → List Sl → Prop} {a b c n m w i lo hi : Int}
theorem whole_wp (h : Q (.d (.bl true)) [.d (.int i)]) : wp (s_is_whole [.d (.int i)]) E Q := by
  walk_at "wsem"
  unfold m_is_whole
  walk_at "vc"
  refine owp_some (a := .bl true) rfl ?_
  walk_at "vc"
  refine owp_some (a := .bl false) rfl ?_
  walk_at "vc"
  exact h
theorem between_wp (h : Q (.d (.bl (decide (lo ≤ i) && decide (i ≤ hi)))) [.d (.int i), .d (.int lo), .d (.int hi)]) : wp (s_is_between [.d (.int i), .d (.int lo), .d (.int hi)]) E Q := by
  walk_at "wsem"
  unfold m_is_between
  walk_at "vc"
  refine whole_wp ?_
  walk_at "vc"
  refine ⟨fun hb => ?_, fun hb => ?_⟩
  · walk_at "vc"
    rw [hb] at h
    exact h
  · walk_at "vc"
    rw [hb] at h
    exact h
theorem init_wp (h1 : 1 ≤ m) (h2 : m ≤ w) (h3 : w ≤ 8) (h : Q (.d .non) [.o (.ins "Alarm" ["span", "least"] [.int w, .int m]), .d (.int w), .d (.int m)]) :
    wp (s_Alarm_init [.o (.ins "Alarm" [] []), .d (.int w), .d (.int m)]) E Q := by
  walk_at "wsem"
  unfold m_Alarm_init
  walk_at "vc"
  refine between_wp ?_
  rw [decide_eq_true (show 1 ≤ w by omega), decide_eq_true h3]
  walk_at "vc"
  refine between_wp ?_
  rw [decide_eq_true h1, decide_eq_true h2]
  walk_at "vc"
  exact h
theorem init_made (h1 : 1 ≤ m) (h2 : m ≤ w) (h3 : w ≤ 8) {Q : D → List Sl → Prop} {s0 : Sl} (h : Q (alarmD (w, m)) [s0, .d (.int w), .d (.int m)]) : wp (m_law_made_e1 [s0, .d (.int w), .d (.int m)]) E Q := by
  unfold m_law_made_e1
  walk_at "vc"
  refine init_wp h1 h2 h3 ?_
  walk_at "vc"
  exact h
theorem made_wp {l : List (Int × Int)} (lo : PairsOk l) (hl : l.length ≤ 1000) (h : Q (.d (.tup (l.map alarmD))) [.d (.lst (pairsD l))]) : wp (s_law_made [.d (.lst (pairsD l))]) E Q := by
  walk_at "wsem"
  unfold m_law_made
  walk_at "vc"
  try refine ⟨rfl, ?_⟩
  obtain ⟨σ, e, s1, s2, rfl⟩ := lc_map (vs := [1, 2]) (s := sgTup 2 (sgCons (sgName 1) (sgCons (sgName 2) sgNil))) (tt := tYesM) (te := m_law_made_e1) (σ := [.d (.lst (pairsD l)), .un, .un]) (fun σ => ∃ s1 s2, σ = [.d (.lst (pairsD l)), s1, s2]) (fun _ => true) (fun d => match d with
    | .tup [.int w, .int m] => alarmD (w, m)
    | d => d) (ds := pairsD l) (by rw [pairsD_len]; unfold szMax; omega) ⟨_, _, rfl⟩ (by
    rintro d σ hd ⟨s1, s2, rfl⟩
    obtain ⟨q, hq, rfl⟩ := List.mem_map.mp hd
    have ho := lo q hq
    walk_at "vc"
    refine init_made ho.1 ho.2.1 ho.2.2 ?_
    exact ⟨rfl, rfl, _, _, rfl⟩)
  refine ⟨_, _, e, ?_⟩
  walk_at "vc"
  have e2 : ((pairsD l).filter fun _ => true).map (fun d => match d with
    | .tup [.int w, .int m] => alarmD (w, m)
    | d => d) = l.map alarmD := by
    rw [List.filter_eq_self.mpr (fun _ _ => rfl)]
    unfold pairsD
    rw [List.map_map]; rfl
  rw [e2, owpZ]
  exact h
end
end Lw
end DL
namespace DL
namespace Lw
open PySem
section
variable {E : Ex → List Sl → Prop} {Q : Sl → List Sl → Prop} {a b c n m w i lo hi t : Int}
theorem alarms_wp {l : List (Int × Int)} (hl : l.length ≤ 4) (h : Q (.d (.bl true)) [.d (.tup (l.map alarmD))]) : wp (s_are_alarms [.d (.tup (l.map alarmD))]) E Q := by
  walk_at "wsem"
  unfold m_are_alarms
  walk_at "vc"
  refine owp_some (a := .bl true) rfl ?_
  walk_at "vc"
  refine ⟨fun _ => ?_, fun hb => ?_⟩
  · walk_at "vc"
    try refine ⟨rfl, ?_⟩
    obtain ⟨σ, e, s1, rfl⟩ := lc_map (vs := [1]) (s := sgName 1) (tt := tYesM) (te := m_are_alarms_e1) (σ := [.d (.tup (l.map alarmD)), .un]) (fun σ => ∃ s1, σ = [.d (.tup (l.map alarmD)), s1]) (fun _ => true) (fun _ => .bl true) (ds := l.map alarmD) (by rw [List.length_map]; unfold szMax; omega) ⟨_, rfl⟩ (by
      rintro d σ hd ⟨s1, rfl⟩
      obtain ⟨q, hq, rfl⟩ := List.mem_map.mp hd
      walk_at "vc"
      unfold m_are_alarms_e1
      walk_at "vc"
      refine owp_some (a := .bl true) rfl ?_
      exact ⟨rfl, rfl, _, rfl⟩)
    refine ⟨_, _, e, ?_⟩
    walk_at "vc"
    refine o_allT (fun d hd => ?_) ?_
    · obtain ⟨_, _, rfl⟩ := List.mem_map.mp hd
      rfl
    walk_at "vc"
    exact h
  · rw [List.length_map] at hb
    rw [decide_eq_true (by omega)] at hb
    cases hb
theorem need_wp {l : List (Int × Int)} (hl : l.length ≤ 4) (h : Q (.d .non) [.d (.tup (l.map alarmD))]) : wp (s_need_alarms [.d (.tup (l.map alarmD))]) E Q := by
  walk_at "wsem"
  unfold m_need_alarms
  walk_at "vc"
  refine alarms_wp hl ?_
  walk_at "vc"
  exact h
end
end Lw
end DL
namespace DL
namespace Lw
open PySem
section
variable {E : Ex → List Sl → Prop} {Q : Sl → List Sl → Prop} {a b c n m w i lo hi t : Int}
theorem text_wp {size part : Int} (p : PenOk a b c n) (hn : n + 100 < 1000000000) (hs : 0 ≤ size) (hs2 : size ≤ 40) (hp : 0 < part) (hp2 : part < 1000)
    (h : ∀ l a' b' c', Sgn l → l.length = size.toNat → PenOk a' b' c' (n + 40) → Q (.d (.str (tx l))) [.o (penO a' b' c'), .d (.int size), .d (.int part)]) :
    wp (s_law_text [.o (penO a b c), .d (.int size), .d (.int part)]) E Q := by
  walk_at "wsem"
  unfold m_law_text
  walk_at "vc"
  refine ⟨⟨by omega, by omega⟩, ?_⟩
  walk_at "vc"
  obtain ⟨acc, σ, e, _, l, a2, b2, c2, s3, rfl, rfl, p2, ho, hl⟩ := lc_inv (vs := [3]) (s := sgName 3) (tt := tYesM) (te := m_law_text_e1) (σ := [.o (penO a b c), .d (.int size), .d (.int part), .un])
    (fun i acc σ => ∃ l a' b' c' s3, σ = [.o (penO a' b' c'), .d (.int size), .d (.int part), s3] ∧ acc = (l.map fun x => [x]).map (fun l => .str (tx l)) ∧ PenOk a' b' c' (n + i) ∧ Sgn l ∧ l.length = i) (ds := rng 0 size.toNat) (by rw [rng_len]; unfold szMax; omega) ⟨[], _, _, _, _, rfl, rfl, p.mono (by omega), (fun z hz => nomatch hz), rfl⟩ (by
    rintro i d acc σ hd ha ⟨l, a1, b1, c1, s3, rfl, rfl, p1, ho, hl⟩
    obtain ⟨h5, rfl⟩ := rng_get hd
    walk_at "vc"
    unfold m_law_text_e1
    walk_at "vc"
    refine draw_wp p1 (by omega) hp (by omega) fun d a2 b2 c2 d1 d2 p2 => ?_
    walk_at "vc"
    refine ⟨fun hb => ?_, fun hb => ?_⟩
    · walk_at "vc"
      refine ⟨l ++ [120], _, _, _, _, rfl, ?_, p2.mono (by omega), ho.app (.one (.inl rfl)), by rw [List.length_append, hl]; rfl⟩
      rw [List.map_append, List.map_append]; rfl
    · walk_at "vc"
      refine ⟨l ++ [46], _, _, _, _, rfl, ?_, p2.mono (by omega), ho.app (.one (.inr rfl)), by rw [List.length_append, hl]; rfl⟩
      rw [List.map_append, List.map_append]; rfl)
  rw [rng_len] at hl p2
  refine ⟨_, _, e, ?_⟩
  walk_at "vc"
  refine o_join0 rfl (by rw [sing_flat, hl]; unfold szMax; omega) ?_
  rw [sing_flat]
  walk_at "vc"
  exact h _ _ _ _ ho hl (p2.mono (by omega))
end
end Lw
end DL
namespace DL
namespace Lw
open PySem
section
variable {E : Ex → List Sl → Prop} {Q : Sl → List Sl → Prop} {a b c n m w i lo hi t : Int}
theorem rings_wp {n p : Nat} {l : List Nat} (hl : l.length ≤ 40) (hp : p ≤ 40) {q : Int × Int} (hq : 1 ≤ q.2 ∧ q.2 ≤ q.1 ∧ q.1 ≤ 8)
    (h : Q (.d (.bl (rg q l p))) [.d (.tup [.int q.1, .int q.2]), .d (.str (tx l)), .d (.int p)]) :
    wp (s_law_rings [.d (.tup [.int q.1, .int q.2]), .d (.str (tx l)), .d (.int p)]) E Q := by
  walk_at "wsem"
  unfold m_law_rings
  walk_at "vc"
  unfold rg at h
  refine ⟨fun hb => ?_, fun hb => ?_⟩
  · rw [hb, Bool.true_and] at h
    have hb := of_decide_eq_true hb
    walk_at "vc"
    rw [cutA_mid _ (by omega) (by omega) (by omega), Int.toNat_natCast, show ((p : Int) + q.1 - p).toNat = q.1.toNat by omega]
    exact h
  · rw [hb, Bool.false_and] at h
    walk_at "vc"
    exact h
theorem quiet_b {l : List Nat} (hl : l.length ≤ 40) {q : Int × Int} (hq : 1 ≤ q.2 ∧ q.2 ≤ q.1 ∧ q.1 ≤ 8) {x s3 : Sl} {Q : Fl → List Sl → Prop}
    (h : Q .nx [x, .d (.str (tx l)), .d (.tup [.int q.1, .int q.2]), .un]) (h2 : Q (.rt (.d (.bl false))) [x, .d (.str (tx l)), .d (.tup [.int q.1, .int q.2]), .un]) :
    wp (m_law_is_quiet_b2 [x, .d (.str (tx l)), .d (.tup [.int q.1, .int q.2]), .un]) E Q := by
  unfold m_law_is_quiet_b2
  walk_at "vc"
  refine ⟨⟨by omega, by omega⟩, rfl, ?_⟩
  rw [Int.toNat_natCast]
  obtain ⟨acc, σ, e, ha, s4, rfl, hz⟩ := lc_inv (vs := [3]) (s := sgName 3) (tt := m_law_is_quiet_t1) (te := evC (.int 1)) (σ := [x, .d (.str (tx l)), .d (.tup [.int q.1, .int q.2]), .un]) (fun i acc σ => ∃ s4, σ = [x, .d (.str (tx l)), .d (.tup [.int q.1, .int q.2]), s4] ∧ ∀ d ∈ acc, d = .int 1) (ds := rng 0 l.length) (by rw [rng_len]; unfold szMax; omega) ⟨_, rfl, (fun z hz => nomatch hz)⟩ (by
    rintro i d acc σ hd ha ⟨s4, rfl, hz⟩
    obtain ⟨h5, rfl⟩ := rng_get hd
    rw [Int.zero_add]
    walk_at "vc"
    unfold m_law_is_quiet_t1
    walk_at "vc"
    refine rings_wp (n := 0) hl (by omega) hq ?_
    walk_at "vc"
    refine ⟨fun hb => ⟨_, rfl, hz⟩, fun hb => ?_⟩
    walk_at "vc"
    refine ⟨_, rfl, fun z hm => ?_⟩
    rcases List.mem_append.mp hm with hm | hm
    · exact hz z hm
    · exact List.mem_singleton.mp hm)
  rw [rng_len] at ha
  refine ⟨_, _, e, ?_⟩
  walk_at "vc"
  have hsm : Sm (.lst acc) := by
    simp only [Sm]
    exact smL_of fun d hd => by rw [hz d hd]; exact sm_int (by decide) (by decide)
  have hdp : dep (.lst acc) ≤ 64 := by
    simp only [dep]
    have := depL_of (k := 0) (ds := acc) fun d hd => by rw [hz d hd]; simp only [dep]; omega
    omega
  refine o_neNil hsm hdp ?_
  walk_at "vc"
  refine ⟨fun hb => ?_, fun hb => ?_⟩
  · walk_at "vc"
    exact h2
  · walk_at "vc"
    exact h
theorem quiet_wp {l : List Nat} (hl : l.length ≤ 40) {ps : List (Int × Int)} (ok : PairsOk ps)
    (h : ∀ v, Q (.d (.bl v)) [.d (.lst (pairsD ps)), .d (.str (tx l))]) :
    wp (s_law_is_quiet [.d (.lst (pairsD ps)), .d (.str (tx l))]) E Q := by
  walk_at "wsem"
  unfold m_law_is_quiet
  walk_at "vc"
  refine forL_inv (fun i σ => ∃ s2, σ = [.d (.lst (pairsD ps)), .d (.str (tx l)), s2, .un]) _ 0 _ ⟨_, rfl⟩ ?_ ?_
  · rintro i d σ hd ⟨s2, rfl⟩
    obtain ⟨q, hq, rfl⟩ : ∃ q, q ∈ ps ∧ d = .tup [.int q.1, .int q.2] := by
      obtain ⟨q, hq, rfl⟩ := List.mem_map.mp (List.mem_of_getElem? hd)
      exact ⟨q, hq, rfl⟩
    walk_at "vc"
    refine quiet_b hl (ok q hq) (s3 := .un) ?_ ?_
    · walk_at "vc"
      exact ⟨_, rfl⟩
    · walk_at "vc"
      exact h _
  · rintro σ ⟨s2, rfl⟩
    walk_at "vc"
    exact h _
theorem qt_b {Q : Fl → List Sl → Prop} {ps : List (Int × Int)} (ok : PairsOk ps) {size : Int} {l : List Nat} {k : Nat} {s4 s5 s6 : Sl} (p : PenOk a b c n) (hn : n + 100 < 1000000000) (hk : (k : Int) < size) (hs : size ≤ 30) (ho : Sgn l) (hl : l.length = k)
    (h : ∀ l' a' b' c' s5 s6, Sgn l' → l'.length = k + 1 → PenOk a' b' c' (n + 1) → Q .nx [.o (penO a' b' c'), .d (.lst (pairsD ps)), .d (.int size), .d (.str (tx l')), .d (.int k), s5, s6]) :
    wp (m_law_quiet_text_b1 [.o (penO a b c), .d (.lst (pairsD ps)), .d (.int size), .d (.str (tx l)), .d (.int k), s5, s6]) E Q := by
  have go : ∀ {a b c n : Int} {g : Nat} {z : Str}, z = tx [g] → g = 120 ∨ g = 46 → PenOk a b c n → (∀ l' a' b' c' s5 s6, Sgn l' → l'.length = k + 1 → PenOk a' b' c' n → Q .nx [.o (penO a' b' c'), .d (.lst (pairsD ps)), .d (.int size), .d (.str (tx l')), .d (.int k), s5, s6]) →
      wp ((evSeq (evSet 6 (asS (ev2 dAdd (ev2 dAdd (evV 3) (evV 5)) (ev2 dMul (evC (.str ("." : Str))) (ev2 dSub (ev2 dSub (evV 2) (evV 4)) (evC (.int 1)))))))
  (evSet 3 (asS (ev2 dAdd (evV 3) (evIf (toB (frzM (semC s_law_is_quiet (evCons (evV 1) (evCons (evV 6) evNil))))) (evV 5) (evC (.str ("." : Str)))))))) [.o (penO a b c), .d (.lst (pairsD ps)), .d (.int size), .d (.str (tx l)), .d (.int k), .d (.str z), s6]) E Q := by
    intro a b c n g z ez hg p h
    subst ez
    walk_at "vc"
    refine o_addS (m := [g]) rfl (by simp; unfold szMax; omega) ?_
    walk_at "vc"
    refine o_mulS (c := 46) rfl (by omega) (by omega) ?_
    walk_at "vc"
    refine o_addS (m := List.replicate (size - k - 1).toNat 46) rfl (by rw [List.length_append, List.length_replicate]; simp; unfold szMax; omega) ?_
    walk_at "vc"
    refine quiet_wp (l := l ++ [g] ++ List.replicate (size - k - 1).toNat 46) (by rw [List.length_append, List.length_append, List.length_replicate]; simp; omega) ok fun v => ?_
    walk_at "vc"
    refine ⟨fun hb => ?_, fun hb => ?_⟩
    · walk_at "vc"
      refine o_addS (m := [g]) rfl (by simp; unfold szMax; omega) ?_
      walk_at "vc"
      exact h _ _ _ _ _ _ (ho.app (.one hg)) (by rw [List.length_append, hl]; rfl) p
    · walk_at "vc"
      refine o_addS (m := [46]) rfl (by simp; unfold szMax; omega) ?_
      walk_at "vc"
      exact h _ _ _ _ _ _ (ho.app (.one (.inr rfl))) (by rw [List.length_append, hl]; rfl) p
  unfold m_law_quiet_text_b1
  walk_at "vc"
  refine draw_wp p (by omega) (by decide) (by decide) fun d a2 b2 c2 d1 d2 p2 => ?_
  walk_at "vc"
  refine ⟨fun hb => ?_, fun hb => ?_⟩
  · with_reducible refine w_C ?_
    refine k_nx (z := [.o (penO a2 b2 c2), .d (.lst (pairsD ps)), .d (.int size), .d (.str (tx l)), .d (.int k), .d (.str ("x" : Str)), s6]) rfl ?_
    exact go (g := 120) rfl (.inl rfl) p2 h
  · with_reducible refine w_C ?_
    refine k_nx (z := [.o (penO a2 b2 c2), .d (.lst (pairsD ps)), .d (.int size), .d (.str (tx l)), .d (.int k), .d (.str ("." : Str)), s6]) rfl ?_
    exact go (g := 46) rfl (.inr rfl) p2 h
theorem qt_wp {ps : List (Int × Int)} (ok : PairsOk ps) {size : Int} (p : PenOk a b c n) (hn : n + 200 < 1000000000) (hs : 0 ≤ size) (hs2 : size ≤ 30)
    (h : ∀ l a' b' c', Sgn l → l.length = size.toNat → PenOk a' b' c' (n + 40) → Q (.d (.str (tx l))) [.o (penO a' b' c'), .d (.lst (pairsD ps)), .d (.int size)]) :
    wp (s_law_quiet_text [.o (penO a b c), .d (.lst (pairsD ps)), .d (.int size)]) E Q := by
  walk_at "wsem"
  unfold m_law_quiet_text
  walk_at "vc"
  refine ⟨⟨by omega, by omega⟩, ?_⟩
  refine forR_inv (fun i σ => ∃ l a' b' c' s4 s5 s6, σ = [.o (penO a' b' c'), .d (.lst (pairsD ps)), .d (.int size), .d (.str (tx l)), s4, s5, s6] ∧ PenOk a' b' c' (n + i) ∧ Sgn l ∧ l.length = i) ⟨[], _, _, _, _, _, _, rfl, p.mono (by omega), (fun z hz => nomatch hz), rfl⟩ ?_ ?_
  · rintro i σ hi ⟨l, a1, b1, c1, s4, s5, s6, rfl, p1, ho, hl⟩
    rw [Int.zero_add]
    walk_at "vc"
    refine qt_b ok p1 (by omega) (by omega) hs2 ho hl (s4 := .un) fun l' a' b' c' s5 s6 o' e' p' => ?_
    walk_at "vc"
    exact ⟨_, _, _, _, _, _, _, rfl, p'.mono (by omega), o', e'⟩
  · rintro σ ⟨l, a1, b1, c1, s4, s5, s6, rfl, p1, ho, hl⟩
    walk_at "vc"
    exact h _ _ _ _ ho hl (p1.mono (by omega))
end
end Lw
end DL
namespace DL
namespace Lw
open PySem
section
variable {E : Ex → List Sl → Prop} {Q : Sl → List Sl → Prop} {a b c n m w i lo hi t : Int}
theorem same_wp' {d : D} {y : Str} (hd : dReprX rpD d = some (.str y)) (h : Q (.d (.bl true)) [.d d, .d d]) : wp (s_law_same [.d d, .d d]) E Q := by
  walk_at "wsem"
  unfold m_law_same
  walk_at "vc"
  have e1 : ∀ {P : D → Prop}, P (.str y) → owp (dReprX rpD d) P := fun h => by rw [hd, owpZ]; exact h
  refine e1 ?_
  walk_at "vc"
  refine e1 ?_
  walk_at "vc"
  rw [← tx_tl y]
  refine o_eqTx.mpr ?_
  rw [beq_self_eq_true]
  walk_at "vc"
  exact h
end
end Lw
end DL
namespace DL
namespace Lw
open PySem
section
variable {E : Ex → List Sl → Prop} {Q : Sl → List Sl → Prop} {a b c n m w i lo hi t : Int}
def rpOk (p : Int × Int) : Bool := match rpD (alarmD p) with
  | some t => Nat.ble t.length 60
  | none => false
theorem rp_tab : ∀ w m : Fin 9, rpOk (w.val, m.val) = true := by decide +kernel
theorem alarm_tx {p : Int × Int} (hp : 1 ≤ p.2 ∧ p.2 ≤ p.1 ∧ p.1 ≤ 8) : TxB rpD (alarmD p) 60 0 := by
  obtain ⟨w, m⟩ := p
  dsimp only at hp
  obtain ⟨w, rfl⟩ := Int.eq_ofNat_of_zero_le (a := w) (by omega)
  obtain ⟨m, rfl⟩ := Int.eq_ofNat_of_zero_le (a := m) (by omega)
  have := rp_tab ⟨w, by omega⟩ ⟨m, by omega⟩
  unfold rpOk at this
  split at this
  · rename_i t ht
    exact TxB.ins ht (Nat.le_of_ble_eq_true this)
  · cases this
theorem made_tx {l : List (Int × Int)} (ok : PairsOk l) (hl : l.length ≤ 4) : ∃ y, dReprX rpD (.tup (l.map alarmD)) = some (.str y) := by
  refine TxB.repr (TxB.tup (n := 60) (k := 0) fun d hd => ?_) ?_ (by decide)
  · obtain ⟨p, hp, rfl⟩ := List.mem_map.mp hd
    exact alarm_tx (ok p hp)
  · rw [List.length_map]; unfold szMax; omega
theorem sg3_ok {l : List Nat} (ho : Sg3 l) : PyData.strOk (tx l) = true := by
  unfold PyData.strOk
  rw [← Array.all_toList]
  refine List.all_eq_true.mpr fun c hc => ?_
  rcases ho c hc with rfl | rfl | rfl <;> decide
theorem txt3_tx {l : List Nat} (ho : Sg3 l) (hl : l.length ≤ 30) : TxB rpD (.str (tx l)) 1000 0 := by
  refine TxB.str (sg3_ok ho) ?_ (by decide)
  simp only [DL.wt]
  rw [tx_len]
  omega
theorem made_txb {l : List (Int × Int)} (ok : PairsOk l) (hl : l.length ≤ 4) : TxB rpD (.tup (l.map alarmD)) 1000 1 := by
  refine (TxB.tup (n := 60) (k := 0) fun d hd => ?_).mono ?_ (by decide)
  · obtain ⟨p, hp, rfl⟩ := List.mem_map.mp hd
    exact alarm_tx (ok p hp)
  · rw [List.length_map]; omega
theorem held_tx {ps : List (Int × Int)} (ok : PairsOk ps) (hp : ps.length ≤ 4) {l : List Nat} (ho : Sg3 l) (hl : l.length ≤ 30) : ∃ y, dReprX rpD (.tup [.str (tx l), .tup (ps.map alarmD)]) = some (.str y) := by
  refine TxB.repr (TxB.tup (n := 1000) (k := 1) fun d hd => ?_) (by simp only [List.length_cons, List.length_nil]; decide) (by decide)
  rcases List.mem_cons.mp hd with rfl | hd
  · exact (txt3_tx ho hl).mono (by decide) (by decide)
  · cases List.mem_singleton.mp hd
    exact made_txb ok hp
theorem o_neS {y : Str} {P : D → Prop} (h : P (.bl false)) : owp (dNe (.str y) (.str y)) P := by
  rw [owpZ]
  show P (.bl (!(y == y)))
  rw [beq_self_eq_true]
  exact h
end
end Lw
end DL
namespace DL
namespace Lw
open PySem
section
variable {E : Ex → List Sl → Prop} {Q : Sl → List Sl → Prop} {a b c n m w i lo hi t : Int}
theorem hidden_wp {l : List Nat} {part : Int} (p : PenOk a b c n) (hn : n + 100 < 1000000000) (ho : Sgn l) (hl : l.length ≤ 30)
    (h : ∀ k a' b' c', Sg3 k → k.length = l.length → PenOk a' b' c' (n + 40) → Q (.d (.str (tx k))) [.o (penO a' b' c'), .d (.str (tx l)), .d (.int part)]) :
    wp (s_law_hidden [.o (penO a b c), .d (.str (tx l)), .d (.int part)]) E Q := by
  walk_at "wsem"
  unfold m_law_hidden
  walk_at "vc"
  obtain ⟨acc, σ, e, _, k, a2, b2, c2, s3, rfl, rfl, p2, ko, kl⟩ := lc_inv (vs := [3]) (s := sgName 3) (tt := tYesM) (te := m_law_hidden_e1) (σ := [.o (penO a b c), .d (.str (tx l)), .d (.int part), .un])
    (fun i acc σ => ∃ k a' b' c' s3, σ = [.o (penO a' b' c'), .d (.str (tx l)), .d (.int part), s3] ∧ acc = (k.map fun x => [x]).map (fun l => .str (tx l)) ∧ PenOk a' b' c' (n + i) ∧ Sg3 k ∧ k.length = i) (ds := sgnD (tx l)) (by rw [sgn_tx, List.length_map]; unfold szMax; omega) ⟨[], _, _, _, _, rfl, rfl, p.mono (by omega), (fun z hz => nomatch hz), rfl⟩ (by
    rintro i d acc σ hd ha ⟨k, a1, b1, c1, s3, rfl, rfl, p1, ko, kl⟩
    rw [sgn_tx, List.getElem?_map] at hd
    obtain ⟨g, hg, rfl⟩ := Option.map_eq_some_iff.mp hd
    have hi : i < l.length := (List.getElem?_eq_some_iff.mp hg).1
    walk_at "vc"
    unfold m_law_hidden_e1
    walk_at "vc"
    refine draw_wp p1 (by omega) (by decide) (by decide) fun d a2 b2 c2 d1 d2 p2 => ?_
    walk_at "vc"
    refine ⟨fun hb => ?_, fun hb => ?_⟩
    · walk_at "vc"
      refine ⟨k ++ [63], _, _, _, _, rfl, ?_, p2.mono (by omega), ko.app (.one (.inr (.inr rfl))), by rw [List.length_append, kl]; rfl⟩
      rw [List.map_append, List.map_append]; rfl
    · walk_at "vc"
      refine ⟨k ++ [g], _, _, _, _, rfl, ?_, p2.mono (by omega), ko.app (.one ((ho g (List.mem_of_getElem? hg)).elim .inl fun h => .inr (.inl h))), by rw [List.length_append, kl]; rfl⟩
      rw [List.map_append, List.map_append]; rfl)
  rw [sgn_tx, List.length_map] at kl p2
  refine ⟨_, _, e, ?_⟩
  walk_at "vc"
  refine o_join0 rfl (by rw [sing_flat, kl]; unfold szMax; omega) ?_
  rw [sing_flat]
  walk_at "vc"
  exact h _ _ _ _ ko kl (p2.mono (by omega))
end
end Lw
end DL
namespace DL
namespace Lw
open PySem
section
variable {E : Ex → List Sl → Prop} {Q : Sl → List Sl → Prop} {a b c n m w i lo hi t : Int}
theorem sheet_wp {ps : List (Int × Int)} (ok : PairsOk ps) {cap : Int} (p : PenOk a b c n) (hn : n + 400 < 1000000000) (h0 : 1 ≤ cap) (h1 : cap ≤ 30)
    (h : ∀ k a' b' c', Sg3 k → 1 ≤ k.length → k.length ≤ cap.toNat → PenOk a' b' c' (n + 200) → Q (.d (.str (tx k))) [.o (penO a' b' c'), .d (.lst (pairsD ps)), .d (.int cap)]) :
    wp (s_law_sheet [.o (penO a b c), .d (.lst (pairsD ps)), .d (.int cap)]) E Q := by
  walk_at "wsem"
  unfold m_law_sheet
  walk_at "vc"
  refine draw_wp p (by omega) (by omega) (by omega) fun d a1 b1 c1 d1 d2 p1 => ?_
  walk_at "vc"
  refine draw_wp p1 (by omega) (by decide) (by decide) fun y a2 b2 c2 y1 y2 p2 => ?_
  walk_at "vc"
  refine ⟨fun hb => ?_, fun hb => ?_⟩
  · walk_at "vc"
    refine o_mulS (c := 63) rfl (by omega) (by omega) ?_
    walk_at "vc"
    exact h _ _ _ _ (.rep (.inr (.inr rfl))) (by rw [List.length_replicate]; omega) (by rw [List.length_replicate]; omega) (p2.mono (by omega))
  · walk_at "vc"
    refine ⟨fun hb => ?_, fun hb => ?_⟩
    · walk_at "vc"
      refine qt_wp ok p2 (by omega) (by omega) (by omega) fun l a3 b3 c3 lo ll p3 => ?_
      walk_at "vc"
      refine draw_wp p3 (by omega) (by decide) (by decide) fun y a4 b4 c4 y1 y2 p4 => ?_
      walk_at "vc"
      refine hidden_wp p4 (by omega) lo (by omega) fun k a5 b5 c5 ko kl p5 => ?_
      walk_at "vc"
      exact h _ _ _ _ ko (by omega) (by omega) (p5.mono (by omega))
    · walk_at "vc"
      refine text_wp p2 (by omega) (by omega) (by omega) (by decide) (by decide) fun l a3 b3 c3 lo ll p3 => ?_
      walk_at "vc"
      refine draw_wp p3 (by omega) (by decide) (by decide) fun y a4 b4 c4 y1 y2 p4 => ?_
      walk_at "vc"
      refine hidden_wp p4 (by omega) lo (by omega) fun k a5 b5 c5 ko kl p5 => ?_
      walk_at "vc"
      exact h _ _ _ _ ko (by omega) (by omega) (p5.mono (by omega))
end
end Lw
end DL
namespace DL
namespace Lw
open PySem
section
variable {E : Ex → List Sl → Prop} {Q : Sl → List Sl → Prop} {a b c n m w i lo hi t : Int}
theorem ixN_nat {n : Nat} {i : Int} (h0 : 0 ≤ i) (h1 : i < n) : L2.ixN n i = some i.toNat := by
  unfold L2.ixN
  rw [if_pos h0, if_pos h1]
theorem o_ixS {l : List Nat} {i : Int} {g : Nat} {P : D → Prop} (hl : l.length ≤ szMax) (h0 : 0 ≤ i) (hc : l[i.toNat]? = some g) (h : P (.str (tx [g]))) : owp (dIx (.str (tx l)) (.int i)) P := by
  have hi : i.toNat < l.length := (List.getElem?_eq_some_iff.mp hc).1
  have e : dIx (.str (tx l)) (.int i) = some (.str (tx [g])) := by
    show (if (tx l).length ≤ szMax then (L2.atI l i).map fun c => D.str ⟨#[c]⟩ else none) = _
    rw [if_pos (by rw [tx_len]; exact hl)]
    unfold L2.atI
    rw [ixN_nat h0 (by omega)]
    show ((l[i.toNat]?).map _) = _
    rw [hc]; rfl
  exact owp_some e h
theorem o_eqCh {g g' : Nat} {z : Str} {P : D → Prop} (hz : z = tx [g']) (h : P (.bl (g == g'))) : owp (dEq (.str (tx [g])) (.str z)) P := by
  subst hz
  refine o_eqTx.mpr ?_
  have : (([g] : List Nat) == [g']) = (g == g') := by
    rw [Bool.eq_iff_iff]
    simp
  rw [this]
  exact h
end
end Lw
end DL
namespace DL
namespace Lw
open PySem
theorem o_ixL {xs : List D} {i : Int} {d : D} {P : D → Prop} (h0 : 0 ≤ i) (hc : xs[i.toNat]? = some d) (h : P d) : owp (dIx (.lst xs) (.int i)) P := by
  have hi : i.toNat < xs.length := (List.getElem?_eq_some_iff.mp hc).1
  have e : dIx (.lst xs) (.int i) = some d := by
    show L2.atI xs i = _
    unfold L2.atI
    rw [ixN_nat h0 (by omega)]
    exact hc
  exact owp_some e h
theorem o_ixT {xs : List D} {i : Int} {d : D} {P : D → Prop} (h0 : 0 ≤ i) (hc : xs[i.toNat]? = some d) (h : P d) : owp (dIx (.tup xs) (.int i)) P := by
  have hi : i.toNat < xs.length := (List.getElem?_eq_some_iff.mp hc).1
  have e : dIx (.tup xs) (.int i) = some d := by
    show L2.atI xs i = _
    unfold L2.atI
    rw [ixN_nat h0 (by omega)]
    exact hc
  exact owp_some e h
end Lw
end DL
namespace DL
namespace Lw
open PySem
section
variable {E : Ex → List Sl → Prop} {Q : Sl → List Sl → Prop} {a b c n m w i lo hi t : Int}
theorem o_allMap {ds : List D} {f : D → D} {P : D → Prop} (h : ∀ d ∈ ds, f d = .bl true) (q : P (.bl true)) : owp (dAll (.lst (ds.map f))) P := o_allT (fun d hd => by
  obtain ⟨e, he, rfl⟩ := List.mem_map.mp hd
  exact h e he) q
theorem in_xd {c : Nat} (h : c = 120 ∨ c = 46 ∨ c = 63) : dIn (.str (tx [c])) (.tup [.str ("x" : Str), .str ("." : Str), .str ("?" : Str)]) = some (.bl true) := by
  have e : dInB (.str (tx [c])) (.tup [.str ("x" : Str), .str ("." : Str), .str ("?" : Str)]) = some true := by
    rcases h with rfl | rfl | rfl
    · decide +kernel
    · decide +kernel
    · decide +kernel
  unfold dIn
  rw [e]; rfl
theorem signs_wp {l : List Nat} (ho : Sg3 l) (h1 : 1 ≤ l.length) (hl : l.length ≤ 30) (h : Q (.d (.bl true)) [.d (.str (tx l)), .d (.tup [.str ("x" : Str), .str ("." : Str), .str ("?" : Str)])]) : wp (s_has_signs [.d (.str (tx l)), .d (.tup [.str ("x" : Str), .str ("." : Str), .str ("?" : Str)])]) E Q := by
  walk_at "wsem"
  unfold m_has_signs
  walk_at "vc"
  refine owp_some (a := .bl true) rfl ?_
  walk_at "vc"
  refine ⟨fun _ => ?_, fun hb => absurd (of_decide_eq_false hb) (by omega)⟩
  walk_at "vc"
  rw [decide_eq_true (show (l.length : Int) ≤ 30 by omega)]
  walk_at "vc"
  obtain ⟨σ, e, s2, rfl⟩ := lc_map (vs := [2]) (s := sgName 2) (tt := tYesM) (te := ev2 dIn (evV 2) (evV 1)) (σ := [.d (.str (tx l)), .d (.tup [.str ("x" : Str), .str ("." : Str), .str ("?" : Str)]), .un]) (fun σ => ∃ s2, σ = [.d (.str (tx l)), .d (.tup [.str ("x" : Str), .str ("." : Str), .str ("?" : Str)]), s2]) (fun _ => true) (fun _ => .bl true) (ds := sgnD (tx l)) (by rw [sgn_tx, List.length_map]; unfold szMax; omega) ⟨_, rfl⟩ (by
    rintro d σ hd ⟨s2, rfl⟩
    rw [sgn_tx] at hd
    obtain ⟨c, hc, rfl⟩ := List.mem_map.mp hd
    walk_at "vc"
    refine owp_some (in_xd (ho c hc)) ?_
    exact ⟨rfl, rfl, _, rfl⟩)
  refine ⟨_, _, e, ?_⟩
  walk_at "vc"
  refine o_allMap (fun d _ => rfl) ?_
  walk_at "vc"
  exact h
theorem issheet_wp {l : List Nat} (ho : Sg3 l) (h1 : 1 ≤ l.length) (hl : l.length ≤ 30) (h : Q (.d (.bl true)) [.d (.str (tx l))]) : wp (s_is_sheet [.d (.str (tx l))]) E Q := by
  walk_at "wsem"
  unfold m_is_sheet
  walk_at "vc"
  refine signs_wp ho h1 hl ?_
  walk_at "vc"
  exact h
theorem nsheet_wp {l : List Nat} (ho : Sg3 l) (h1 : 1 ≤ l.length) (hl : l.length ≤ 30) (h : Q (.d .non) [.d (.str (tx l))]) : wp (s_need_sheet [.d (.str (tx l))]) E Q := by
  walk_at "wsem"
  unfold m_need_sheet
  walk_at "vc"
  refine issheet_wp ho h1 hl ?_
  walk_at "vc"
  exact h
end
end Lw
end DL
namespace DL
namespace Lw
open PySem
open PySem.Spec PyProof.Rows L2
section
variable {κ : Type} [DecidableEq κ] {α : Type}
end
section
variable {E : Ex → List Sl → Prop} {Q : Sl → List Sl → Prop} {a b c n m w i lo hi t : Int}
theorem enum_get : ∀ {ds : List D} {k i : Nat} {d : D}, (enumD k ds)[i]? = some d → ∃ e, ds[i]? = some e ∧ d = .tup [.int ((k + i : Nat) : Int), e]
  | [], _, _, _, h => by cases h
  | e :: ds, k, 0, d, h => by cases h; exact ⟨e, rfl, rfl⟩
  | e :: ds, k, i + 1, d, h => by
    obtain ⟨x, h1, h2⟩ := enum_get (k := k + 1) (i := i) (ds := ds) (by unfold enumD at h; exact h)
    exact ⟨x, h1, by rw [h2, show k + (i + 1) = k + 1 + i by omega]⟩
theorem many_wp {p : Int × Int} (h : Q (.d (.int p.2)) [.d (alarmD p)]) : wp (s_Alarm_many [.d (alarmD p)]) E Q := by
  walk_at "wsem"
  unfold m_Alarm_many
  walk_at "vc"
  exact h
theorem wide_wp {p : Int × Int} (h : Q (.d (.int p.1)) [.d (alarmD p)]) : wp (s_Alarm_wide [.d (alarmD p)]) E Q := by
  walk_at "wsem"
  unfold m_Alarm_wide
  walk_at "vc"
  exact h
theorem costs_b1 {Q : Fl → List Sl → Prop} {s0 s1 s5 s6 : Sl} {l : List Nat} {p g : Nat} (hg : l[p]? = some g) {ks : List (List Key)} {ds : List D} {m : Nat} (h : CD ks ds m (phi1 l p)) (hm : m ≤ 1000)
    (q : ∀ ks ds, CD ks ds (m + 2) (phi1 l (p + 1 : Nat)) → Q .nx [s0, s1, .o (.dt ks ds), .d (.int p), .d (.str (tx [g])), s5, s6]) :
    wp (m_costs_of_b1 [s0, s1, .o (.dt ks ds), .d (.int p), .d (.str (tx [g])), s5, s6]) E Q := by
  have eg : ∀ v : Nat, (l[p]? == some v) = (g == v) := fun v => by rw [hg]; rfl
  have go2 : ∀ ks ds, CD ks ds (m + 1) (upd2 (phi1 l p) p (p + 1) (if l[p]? == some 46 then 0 else 1)) →
      wp ((evSetIx setD 2 (evIf (toB (ev2 dEq (evV 4) (evC (.str ("x" : Str))))) (ev1 dNeg (evC (.int 1))) (evC (.int 0))) (evL dTup (evCons (ev2 dAdd (evV 3) (evC (.int 1))) (evCons (evV 3) evNil)))) [s0, s1, .o (.dt ks ds), .d (.int p), .d (.str (tx [g])), s5, s6]) E Q := fun ks ds h => by
    walk_at "vc"
    refine o_eqCh (g' := 120) rfl ?_
    walk_at "vc"
    have es := fun x y => phi1_step (l := l) (p := p) x y
    rw [eg 120] at es
    refine ⟨fun hc => ?_, fun hc => ?_⟩
    · walk_at "vc"
      refine o_setT h (by unfold szMax; omega) fun ks' ds' h' => ?_
      rw [hc] at es
      exact q _ _ (h'.eq (by omega) es)
    · walk_at "vc"
      refine o_setT h (by unfold szMax; omega) fun ks' ds' h' => ?_
      rw [hc] at es
      exact q _ _ (h'.eq (by omega) es)
  unfold m_costs_of_b1
  rw [eg 46] at go2
  walk_at "vc"
  refine o_eqCh (g' := 46) rfl ?_
  walk_at "vc"
  refine ⟨fun hc => ?_, fun hc => ?_⟩
  · walk_at "vc"
    refine o_setT h (by unfold szMax; omega) fun ks' ds' h' => ?_
    refine k_nx (z := [s0, s1, .o (.dt ks' ds'), .d (.int p), .d (.str (tx [g])), s5, s6]) rfl ?_
    rw [hc] at go2
    exact go2 _ _ h'
  · walk_at "vc"
    refine o_setT h (by unfold szMax; omega) fun ks' ds' h' => ?_
    refine k_nx (z := [s0, s1, .o (.dt ks' ds'), .d (.int p), .d (.str (tx [g])), s5, s6]) rfl ?_
    rw [hc] at go2
    exact go2 _ _ h'
theorem costs_b2 {Q : Fl → List Sl → Prop} {s0 s1 s4 s6 : Sl} {φ : Int → Int → Option Int} {q : Int × Int} {p : Nat} {ks : List (List Key)} {ds : List D} {m : Nat} (h : CD ks ds m (mrg φ q p)) (hm : m ≤ 1000)
    (hq : ∀ ks ds s6, CD ks ds (m + 1) (mrg φ q (p + 1 : Nat)) → Q .nx [s0, s1, .o (.dt ks ds), .d (.int p), s4, .d (alarmD q), s6]) :
    wp (m_costs_of_b2 [s0, s1, .o (.dt ks ds), .d (.int p), s4, .d (alarmD q), s6]) E Q := by
  unfold m_costs_of_b2
  walk_at "vc"
  refine ⟨_, _, rfl, wide_wp ?_⟩
  walk_at "vc"
  refine w_GetP rfl ?_
  walk_at "vc"
  refine ⟨_, _, rfl, many_wp ?_⟩
  walk_at "vc"
  refine o_getT h ?_
  have em : mrg φ q p p (p + q.1) = φ p (p + q.1) := by
    unfold mrg
    rw [if_neg (by omega)]
  rw [em]
  have eg : ((φ p (p + q.1)).map D.int).getD (.int (q.2 - 1)) = .int ((φ p (p + q.1)).getD (q.2 - 1)) := by
    cases φ p (p + q.1) <;> rfl
  rw [eg]
  walk_at "vc"
  refine ⟨_, _, rfl, many_wp ?_⟩
  walk_at "vc"
  have e2 : (if q.2 - 1 < (φ p (p + q.1)).getD (q.2 - 1) then q.2 - 1 else (φ p (p + q.1)).getD (q.2 - 1)) = min ((φ p (p + q.1)).getD (q.2 - 1)) (q.2 - 1) := by
    generalize (φ p (p + q.1)).getD (q.2 - 1) = u
    split <;> omega
  rw [e2]
  refine o_setT h (by unfold szMax; omega) fun ks' ds' h' => ?_
  exact hq _ _ _ (h'.eq (by omega) fun x y => mrg_step x y)
theorem costs_b3 {Q : Fl → List Sl → Prop} {s1 s3 s4 s6 : Sl} {l : List Nat} (hl : l.length ≤ 30) {φ : Int → Int → Option Int} {q : Int × Int} (hq : 1 ≤ q.2 ∧ q.2 ≤ q.1 ∧ q.1 ≤ 8) {ks : List (List Key)} {ds : List D} {m : Nat} (h : CD ks ds m φ) (hm : m ≤ 600)
    (k : ∀ ks ds s3 s6, CD ks ds (m + 40) (mrg φ q (width l q)) → Q .nx [.d (.str (tx l)), s1, .o (.dt ks ds), s3, s4, .d (alarmD q), s6]) :
    wp (m_costs_of_b3 [.d (.str (tx l)), s1, .o (.dt ks ds), s3, s4, .d (alarmD q), s6]) E Q := by
  unfold m_costs_of_b3
  walk_at "vc"
  refine ⟨_, _, rfl, wide_wp ?_⟩
  walk_at "vc"
  refine ⟨⟨by omega, by omega⟩, ?_⟩
  refine forR_inv (fun i σ => ∃ ks ds s3 s6, σ = [.d (.str (tx l)), s1, .o (.dt ks ds), s3, s4, .d (alarmD q), s6] ∧ CD ks ds (m + i) (mrg φ q i)) ⟨_, _, _, _, rfl, h.eq (by omega) fun x y => mrg0 x y⟩ ?_ ?_
  · rintro i σ hi ⟨ks, ds, s3, s6, rfl, h⟩
    have hi : i < (((l.length : Int) - q.1 + 1)).toNat := hi
    rw [Int.zero_add]
    walk_at "vc"
    refine costs_b2 h (by omega) fun ks ds s6 h => ?_
    walk_at "vc"
    exact ⟨_, _, _, _, rfl, h.eq (by omega) fun x y => rfl⟩
  · rintro σ ⟨ks, ds, s3, s6, rfl, h⟩
    exact k _ _ _ _ (h.eq (by omega) fun x y => mrg_neg x y)
theorem costs_wp {l : List Nat} (hl : l.length ≤ 30) {ps : List (Int × Int)} (ok : PairsOk ps) (hp : ps.length ≤ 4)
    (k : ∀ ks ds, CD ks ds 1000 (phi l ps) → Q (.o (.dt ks ds)) [.d (.str (tx l)), .d (.tup (ps.map alarmD))]) :
    wp (s_costs_of [.d (.str (tx l)), .d (.tup (ps.map alarmD))]) E Q := by
  walk_at "wsem"
  unfold m_costs_of
  walk_at "vc"
  refine wp_ok (a := Sl.o (.dt [] [])) ?_
  walk_at "vc"
  refine ⟨_, _, rfl, rfl, ?_⟩
  have h0 : CD [] [] 0 (phi1 l (0 : Nat)) := CD.nil fun x y => by
    unfold phi1
    rw [if_neg (by omega), if_neg (by omega)]
  refine forL_inv (fun i σ => ∃ ks ds s3 s4, σ = [.d (.str (tx l)), .d (.tup (ps.map alarmD)), .o (.dt ks ds), s3, s4, .un, .un] ∧ CD ks ds (2 * i) (phi1 l i) ∧ i ≤ l.length) _ 0 _ ⟨_, _, _, _, rfl, h0, Nat.zero_le _⟩ ?_ ?_
  · rintro i d σ hd ⟨ks, ds, s3, s4, rfl, h, hi⟩
    obtain ⟨e, h2, rfl⟩ := enum_get hd
    obtain ⟨g, h3, rfl⟩ : ∃ g, l[i]? = some g ∧ e = .str (tx [g]) := by
      rw [sgn_tx, List.getElem?_map] at h2
      obtain ⟨q, h3, h4⟩ := Option.map_eq_some_iff.mp h2
      exact ⟨q, h3, h4.symm⟩
    have hlt : i < l.length := (List.getElem?_eq_some_iff.mp h3).1
    simp only [Nat.zero_add] at h hi ⊢
    walk_at "vc"
    refine costs_b1 h3 h (by omega) fun ks ds h => ?_
    walk_at "vc"
    exact ⟨_, _, _, _, rfl, h.eq (by omega) fun x y => rfl, hlt⟩
  · rintro σ ⟨ks, ds, s3, s4, rfl, h, _⟩
    rw [enumD_len, sgn_tx, List.length_map, Nat.zero_add] at h
    walk_at "vc"
    refine forL_inv (fun i σ => ∃ ks ds s3 s4 s5 s6, σ = [.d (.str (tx l)), .d (.tup (ps.map alarmD)), .o (.dt ks ds), s3, s4, s5, s6] ∧ CD ks ds (60 + 40 * i) (phi l (ps.take i)) ∧ i ≤ ps.length) _ 0 _ ⟨_, _, _, _, _, _, rfl, h.eq (by omega) fun x y => rfl, Nat.zero_le _⟩ ?_ ?_
    · rintro i d σ hd ⟨ks, ds, s3, s4, s5, s6, rfl, h, hi⟩
      obtain ⟨q, h3, rfl⟩ : ∃ q, ps[i]? = some q ∧ d = alarmD q := by
        rw [List.getElem?_map] at hd
        obtain ⟨q, h3, h4⟩ := Option.map_eq_some_iff.mp hd
        exact ⟨q, h3, h4.symm⟩
      have hlt : i < ps.length := (List.getElem?_eq_some_iff.mp h3).1
      simp only [Nat.zero_add] at h hi ⊢
      walk_at "vc"
      refine costs_b3 hl (ok q (List.mem_of_getElem? h3)) h (by omega) fun ks ds s3 s6 h => ?_
      walk_at "vc"
      exact ⟨_, _, _, _, _, _, rfl, h.eq (by omega) fun x y => by rw [phi_take h3], hlt⟩
    · rintro σ ⟨ks, ds, s3, s4, s5, s6, rfl, h, _⟩
      rw [List.length_map, Nat.zero_add, List.take_length] at h
      walk_at "vc"
      exact k _ _ (h.eq (by omega) fun x y => rfl)
end
end Lw
end DL
namespace DL
namespace Lw
open PySem
section
variable {E : Ex → List Sl → Prop} {Q : Sl → List Sl → Prop} {a b c n m w i lo hi t : Int}
theorem does_wp {p : Nat} {l : List Nat} (hl : l.length ≤ 40) (hp : p ≤ 40) {q : Int × Int} (hq : 1 ≤ q.2 ∧ q.2 ≤ q.1 ∧ q.1 ≤ 8)
    (h : Q (.d (.bl (rg q l p))) [.d (alarmD q), .d (.str (tx l)), .d (.int p)]) :
    wp (s_Alarm_does_ring [.d (alarmD q), .d (.str (tx l)), .d (.int p)]) E Q := by
  walk_at "wsem"
  unfold m_Alarm_does_ring
  walk_at "vc"
  rw [cutA_over _ (by omega) (by omega), Int.toNat_natCast, show ((p : Int) + q.1 - p).toNat = q.1.toNat by omega]
  have hlen : ((l.drop p).take q.1.toNat).length = min q.1.toNat (l.length - p) := by rw [List.length_take, List.length_drop]
  generalize hc : (l.drop p).take q.1.toNat = c at *
  refine o_lenS (l := c) (by unfold szMax; omega) ?_
  walk_at "vc"
  unfold rg at h
  rw [hc] at h
  refine ⟨fun hb => ?_, fun hb => ?_⟩
  · have hb := of_decide_eq_true hb
    rw [decide_eq_true (show (p : Int) + q.1 ≤ l.length by omega), Bool.true_and] at h
    walk_at "vc"
    exact h
  · have hb := of_decide_eq_false hb
    rw [decide_eq_false (show ¬ (p : Int) + q.1 ≤ l.length by omega), Bool.false_and] at h
    walk_at "vc"
    exact h
theorem places_wp {l : List Nat} (hl : l.length ≤ 30) {q : Int × Int} (hq : 1 ≤ q.2 ∧ q.2 ≤ q.1 ∧ q.1 ≤ 8)
    (h : Q (.d (.tup (((List.range l.length).filter (rg q l)).map fun p : Nat => .int p))) [.d (alarmD q), .d (.str (tx l))]) :
    wp (s_Alarm_places_in [.d (alarmD q), .d (.str (tx l))]) E Q := by
  walk_at "wsem"
  unfold m_Alarm_places_in
  walk_at "vc"
  refine ⟨⟨by omega, by omega⟩, rfl, ?_⟩
  rw [Int.toNat_natCast]
  obtain ⟨acc, σ, e, ha, s2, rfl, hz⟩ := lc_inv (vs := [2]) (s := sgName 2) (tt := m_Alarm_places_in_t1) (te := evV 2) (σ := [.d (alarmD q), .d (.str (tx l)), .un]) (fun i acc σ => ∃ s2, σ = [.d (alarmD q), .d (.str (tx l)), s2] ∧ acc = ((List.range i).filter (rg q l)).map fun p : Nat => .int p) (ds := rng 0 l.length) (by rw [rng_len]; unfold szMax; omega) ⟨_, rfl, rfl⟩ (by
    rintro i d acc σ hd ha ⟨s2, rfl, hz⟩
    obtain ⟨h5, rfl⟩ := rng_get hd
    rw [Int.zero_add]
    walk_at "vc"
    unfold m_Alarm_places_in_t1
    walk_at "vc"
    refine ⟨_, _, rfl, rfl, ?_⟩
    walk_at "vc"
    refine does_wp (p := i) (l := l) (by omega) (by omega) hq ?_
    walk_at "vc"
    refine ⟨fun hb => ⟨_, rfl, ?_⟩, fun hb => ?_⟩
    · rw [List.range_succ, List.filter_append, hz, List.filter_cons, hb]
      simp
    · walk_at "vc"
      refine ⟨_, rfl, ?_⟩
      rw [List.range_succ, List.filter_append, hz, List.filter_cons, hb]
      simp)
  rw [rng_len] at ha hz
  refine ⟨_, _, e, ?_⟩
  subst hz
  walk_at "vc"
  rw [owpZ]
  exact h
end
end Lw
end DL
namespace DL
namespace Lw
open PySem
section
variable {E : Ex → List Sl → Prop} {Q : Sl → List Sl → Prop}
theorem quietE_wp {l : List Nat} (hl : l.length ≤ 30) {q : Int × Int} (hq : 1 ≤ q.2 ∧ q.2 ≤ q.1 ∧ q.1 ≤ 8) {s1 : Sl} {R : D → List Sl → Prop}
    (h : R (.bl ((List.range l.length).filter (rg q l)).isEmpty) [.d (.str (tx l)), s1, .d (alarmD q)]) : wp (m_is_quiet_e1 [.d (.str (tx l)), s1, .d (alarmD q)]) E R := by
  unfold m_is_quiet_e1
  walk_at "vc"
  refine ⟨_, _, rfl, rfl, ?_⟩
  walk_at "vc"
  refine places_wp hl hq ?_
  walk_at "vc"
  have e : (((List.range l.length).filter (rg q l)).map fun p : Nat => D.int p) = (((List.range l.length).filter (rg q l)).map fun p : Nat => (p : Int)).map .int := by rw [List.map_map]; rfl
  have hb : ∀ i ∈ ((List.range l.length).filter (rg q l)).map fun p : Nat => (p : Int), -1000000000000 ≤ i ∧ i ≤ 1000000000000 := fun i hi => by
    obtain ⟨p, hp, rfl⟩ := List.mem_map.mp hi
    have := List.mem_range.mp (List.mem_filter.mp hp).1
    omega
  have hn : (((List.range l.length).filter (rg q l)).map fun p : Nat => (p : Int)).length ≤ 1000 := by
    rw [List.length_map]
    have := List.length_filter_le (rg q l) (List.range l.length)
    rw [List.length_range] at this
    omega
  rw [e]
  obtain ⟨h1, h2⟩ := sm_ints hb hn
  refine o_eqNilT h1 h2 ?_
  have e2 : ((((List.range l.length).filter (rg q l)).map fun p : Nat => (p : Int)).map D.int).isEmpty = ((List.range l.length).filter (rg q l)).isEmpty := by
    cases (List.range l.length).filter (rg q l) <;> rfl
  rw [e2]
  exact h
/-- the program's is_quiet -/
theorem quietP_wp {l : List Nat} (hl : l.length ≤ 30) {ps : List (Int × Int)} (ok : PairsOk ps) (hp : ps.length ≤ 1000) (h : Q (.d (.bl (isQ ps l))) [.d (.str (tx l)), .d (.tup (ps.map alarmD))]) :
    wp (s_is_quiet [.d (.str (tx l)), .d (.tup (ps.map alarmD))]) E Q := by
  walk_at "wsem"
  unfold m_is_quiet
  walk_at "vc"
  obtain ⟨acc, σ, e, ha, s2, rfl, hz⟩ := lc_inv (vs := [2]) (s := sgName 2) (tt := tYesM) (te := m_is_quiet_e1) (σ := [.d (.str (tx l)), .d (.tup (ps.map alarmD)), .un]) (fun i acc σ => ∃ s2, σ = [.d (.str (tx l)), .d (.tup (ps.map alarmD)), s2] ∧ acc = (ps.take i).map fun q => D.bl ((List.range l.length).filter (rg q l)).isEmpty) (ds := ps.map alarmD) (by rw [List.length_map]; unfold szMax; omega) ⟨_, rfl, rfl⟩ (by
    rintro i d acc σ hd ha ⟨s2, rfl, hz⟩
    obtain ⟨q, hq, rfl⟩ : ∃ q, ps[i]? = some q ∧ d = alarmD q := by
      rw [List.getElem?_map] at hd
      obtain ⟨q, h3, h4⟩ := Option.map_eq_some_iff.mp hd
      exact ⟨q, h3, h4.symm⟩
    walk_at "vc"
    refine quietE_wp hl (ok q (List.mem_of_getElem? hq)) ⟨_, rfl, ?_⟩
    rw [hz, List.take_succ, hq, List.map_append]
    rfl)
  rw [List.length_map, List.take_length] at hz
  refine ⟨_, _, e, ?_⟩
  subst hz
  walk_at "vc"
  have e3 : dAll (.lst (ps.map fun q => D.bl ((List.range l.length).filter (rg q l)).isEmpty)) = some (.bl (isQ ps l)) := by
    have : ∀ ps : List (Int × Int), blsOf (ps.map fun q => D.bl ((List.range l.length).filter (rg q l)).isEmpty) = some (ps.map fun q => ((List.range l.length).filter (rg q l)).isEmpty) := by
      intro ps
      induction ps with
      | nil => rfl
      | cons q ps ih =>
        rw [List.map_cons]
        unfold blsOf
        rw [ih]; rfl
    show (blsOf _).map _ = _
    rw [this]
    show some (D.bl ((ps.map fun q => ((List.range l.length).filter (rg q l)).isEmpty).all id)) = _
    rw [List.all_map]; rfl
  refine owp_some e3 ?_
  walk_at "vc"
  exact h
end
end Lw
end DL
namespace DL
namespace Lw
open PySem
section
variable {E : Ex → List Sl → Prop} {Q : Sl → List Sl → Prop}
theorem can_wp {l : List Nat} (hl : l.length ≤ 30) {ps : List (Int × Int)} (ok : PairsOk ps) (hp : ps.length ≤ 1000) (h : Q (.d (.bl (isQ ps (repl l)))) [.d (.str (tx l)), .d (.tup (ps.map alarmD))]) :
    wp (s_can_be_quiet [.d (.str (tx l)), .d (.tup (ps.map alarmD))]) E Q := by
  walk_at "wsem"
  unfold m_can_be_quiet
  walk_at "vc"
  refine o_rpl (c := 63) (d := 46) rfl rfl (by omega) ?_
  walk_at "vc"
  refine quietP_wp (l := repl l) (by unfold repl; rw [List.length_map]; exact hl) ok hp ?_
  walk_at "vc"
  exact h
theorem has_wp {l : List Nat} (h3 : Sg3 l) (h1 : 1 ≤ l.length) (hl : l.length ≤ 30) {ps : List (Int × Int)} (ok : PairsOk ps) (hp : ps.length ≤ 4) (h : Q (.d (.bl (isQ ps (repl l)))) [.d (.str (tx l)), .d (.tup (ps.map alarmD))]) :
    wp (s_has_filling [.d (.str (tx l)), .d (.tup (ps.map alarmD))]) E Q := by
  walk_at "wsem"
  unfold m_has_filling
  walk_at "vc"
  refine nsheet_wp h3 h1 hl ?_
  walk_at "vc"
  refine need_wp hp ?_
  walk_at "vc"
  refine can_wp hl ok (by omega) ?_
  walk_at "vc"
  exact h
theorem needf_wp {l : List Nat} (h3 : Sg3 l) (h1 : 1 ≤ l.length) (hl : l.length ≤ 30) {ps : List (Int × Int)} (ok : PairsOk ps) (hp : ps.length ≤ 4)
    (h : isQ ps (repl l) = true → Q (.d .non) [.d (.str (tx l)), .d (.tup (ps.map alarmD))]) (he : isQ ps (repl l) = false → E ⟨"NoFilling", [], []⟩ [.d (.str (tx l)), .d (.tup (ps.map alarmD))]) :
    wp (s_need_filling [.d (.str (tx l)), .d (.tup (ps.map alarmD))]) E Q := by
  walk_at "wsem"
  unfold m_need_filling
  walk_at "vc"
  refine has_wp h3 h1 hl ok hp ?_
  walk_at "vc"
  cases e : isQ ps (repl l) with
  | true =>
    walk_at "vc"
    exact h e
  | false =>
    walk_at "vc"
    exact he e
end
end Lw
end DL
--IMPORT DLL
namespace DL
namespace Lw
open PySem
section
variable {E : Ex → List Sl → Prop} {Q : Sl → List Sl → Prop}
/-- a tour, as data -/
def tourD (fb : T2 × T2) : D := .ins cTour [fFar, fBef] [dkI fb.1, dkI fb.2]
structure TourAt (l : List Nat) (ps : List (Int × Int)) (s : Int) (fb : T2 × T2) : Prop where
  es : ∃ es : List Ed, Gr (phi l ps) l.length es ∧ fb = tourP es (l.length + 1) ([(s, 0)], [])
theorem tinit_wp {l : List Nat} (hl : l.length ≤ 30) {ps : List (Int × Int)} (ok : PairsOk ps) (hp : ps.length ≤ 4) {s : Int}
    (h : ∀ fb, TourAt l ps s fb → Q (.d .non) [.o (tourO fb), .d (.str (tx l)), .d (.tup (ps.map alarmD)), .d (.int s)]) :
    wp (s_Tour_init [.o (.ins cTour [] []), .d (.str (tx l)), .d (.tup (ps.map alarmD)), .d (.int s)]) E Q := by
  walk_at "wsem"
  unfold m_Tour_init
  refine w_Tour rfl ?_
  walk_at "vc"
  refine costs_wp hl ok hp fun ks ds cd => ?_
  walk_at "vc"
  refine ⟨⟨by omega, by omega⟩, ?_⟩
  rw [rng_len]
  obtain ⟨es, rfl, rfl, h1, nd, hg⟩ := cd.ed
  refine ⟨es, rfl, ?_, ?_⟩
  · have h2 : ((l.length : Int) + 1).toNat * es.length ≤ 31 * 1000 := Nat.mul_le_mul (by omega) h1
    unfold szMax
    omega
  · walk_at "vc"
    refine h _ ⟨es, ⟨fun x y c => ?_, phi_dom ok⟩, ?_⟩
    · rw [← nd.mem, hg]
    · rw [show ((l.length : Int) + 1).toNat = l.length + 1 by omega]
theorem tcall_wp {fb : T2 × T2} {k v : Int} (e : getI fb.1 k = some v) (h : Q (.d (.int v)) [.d (tourD fb), .d (.int k)]) : wp (s_Tour_call [.d (tourD fb), .d (.int k)]) E Q := by
  walk_at "wsem"
  unfold m_Tour_call
  walk_at "vc"
  refine o_dgI e ?_
  walk_at "vc"
  exact h
theorem TourAt.ok {l : List Nat} {ps : List (Int × Int)} (ok : PairsOk ps) (h3 : Sg3 l) (hq : isQ ps (repl l) = true) {s : Int} (hs : 0 ≤ s ∧ s ≤ l.length) {fb : T2 × T2} (t : TourAt l ps s fb) : TourOk (phi l ps) l.length s fb.1 := by
  obtain ⟨es, G, rfl⟩ := t.es
  obtain ⟨u, hu⟩ := (hasF ok h3).mpr hq
  exact tour_ok G (hu.fea ok) hs phi_next
end
end Lw
end DL
namespace DL
namespace Lw
open PySem
/-- the positions that ring for the last minutes -/
def nowN (ps : List (Int × Int)) (t : List Nat) (k : Nat) : List Nat := (List.range k).filter fun i => rgE (ps.getD i (0, 0)) t
theorem nowN_nil {ps : List (Int × Int)} {t : List Nat} : (nowN ps t ps.length).isEmpty = !nowB ps t := by
  rw [Bool.eq_iff_iff]
  unfold nowN nowB
  rw [List.isEmpty_iff, List.filter_eq_nil_iff, Bool.not_eq_true', List.any_eq_false]
  constructor
  · intro h q hq
    obtain ⟨i, hi, e⟩ := List.getElem_of_mem hq
    have := h i (List.mem_range.mpr hi)
    rw [show ps.getD i (0, 0) = q by rw [List.getD_eq_getElem?_getD, List.getElem?_eq_getElem hi, e]; rfl] at this
    exact this
  · intro h i hi
    have hi := List.mem_range.mp hi
    have := h ps[i] (List.getElem_mem hi)
    rw [show ps.getD i (0, 0) = ps[i] by rw [List.getD_eq_getElem?_getD, List.getElem?_eq_getElem hi]; rfl]
    exact this
section
variable {E : Ex → List Sl → Prop} {Q : Sl → List Sl → Prop}
theorem now_wp {t : List Nat} (hl : t.length ≤ 40) {ps : List (Int × Int)} (ok : PairsOk ps) (hp : ps.length ≤ 4) (h : Q (.d (.tup ((nowN ps t ps.length).map fun i : Nat => .int i))) [.d (.lst (pairsD ps)), .d (.str (tx t))]) :
    wp (s_law_now [.d (.lst (pairsD ps)), .d (.str (tx t))]) E Q := by
  walk_at "wsem"
  unfold m_law_now
  walk_at "vc"
  obtain ⟨acc, σ, e, ha, ⟨s2, s3, s4, rfl, hz⟩, hk⟩ := lc_inv (vs := [2, 3, 4]) (s := sgTup 2 (sgCons (sgName 2) (sgCons (sgTup 2 (sgCons (sgName 3) (sgCons (sgName 4) sgNil))) sgNil))) (tt := m_law_now_t1) (te := evV 2) (σ := [.d (.lst (pairsD ps)), .d (.str (tx t)), .un, .un, .un])
    (fun i acc σ => (∃ s2 s3 s4, σ = [.d (.lst (pairsD ps)), .d (.str (tx t)), s2, s3, s4] ∧ acc = (nowN ps t i).map fun i : Nat => .int i) ∧ i ≤ ps.length) (ds := enumD 0 (pairsD ps)) (by rw [enumD_len, pairsD_len]; unfold szMax; omega) ⟨⟨_, _, _, rfl, rfl⟩, Nat.zero_le _⟩ (by
    rintro i d acc σ hd ha ⟨⟨s2, s3, s4, rfl, hz⟩, hk⟩
    obtain ⟨e, h2, rfl⟩ := enum_get hd
    obtain ⟨q, hq, rfl⟩ : ∃ q, ps[i]? = some q ∧ e = .tup [.int q.1, .int q.2] := by
      unfold pairsD at h2
      rw [List.getElem?_map] at h2
      obtain ⟨q, h3, h4⟩ := Option.map_eq_some_iff.mp h2
      exact ⟨q, h3, h4.symm⟩
    have h0 := ok q (List.mem_of_getElem? hq)
    have hlt : i < ps.length := (List.getElem?_eq_some_iff.mp hq).1
    have eq : ps.getD i (0, 0) = q := by rw [List.getD_eq_getElem?_getD, hq]; rfl
    have ns : nowN ps t (i + 1) = nowN ps t i ++ if rgE q t = true then [i] else [] := by
      unfold nowN
      rw [List.range_succ, List.filter_append, List.filter_cons, eq]
      rfl
    simp only [Nat.zero_add]
    walk_at "vc"
    unfold m_law_now_t1
    walk_at "vc"
    refine ⟨fun hb => ?_, fun hb => ?_⟩
    · have hb := of_decide_eq_true hb
      walk_at "vc"
      rw [cutA_last t (by omega)]
      have hlc : (t.drop (t.length - q.1.toNat)).length ≤ 40 := by rw [List.length_drop]; omega
      walk_at "vc"
      have er : rgE q t = decide (q.2 ≤ ((t.drop (t.length - q.1.toNat)).count 120 : Nat)) := by
        unfold rgE
        rw [decide_eq_true hb, Bool.true_and]
      refine ⟨fun hc => ⟨⟨_, _, _, rfl, ?_⟩, hlt⟩, fun hc => ?_⟩
      · have hc := er.trans hc
        rw [ns, hc, if_neg (by decide), List.append_nil]
        exact hz
      · have hc := er.trans hc
        walk_at "vc"
        refine ⟨⟨_, _, _, rfl, ?_⟩, hlt⟩
        rw [ns, hc, if_pos rfl, List.map_append, hz]
        rfl
    · have hb := of_decide_eq_false hb
      walk_at "vc"
      refine ⟨⟨_, _, _, rfl, ?_⟩, hlt⟩
      have er : rgE q t = false := by
        unfold rgE
        rw [decide_eq_false hb, Bool.false_and]
      rw [ns, er, if_neg (by decide), List.append_nil]
      exact hz)
  rw [enumD_len, pairsD_len] at hz
  refine ⟨_, _, rfl, rfl, rfl, _, _, e, ?_⟩
  subst hz
  walk_at "vc"
  rw [owpZ]
  exact h
theorem now_sm {ps : List (Int × Int)} (hp : ps.length ≤ 4) {t : List Nat} : Sm (.tup ((nowN ps t ps.length).map fun i : Nat => D.int i)) ∧ dep (.tup ((nowN ps t ps.length).map fun i : Nat => D.int i)) ≤ 64 := by
  have e : ((nowN ps t ps.length).map fun i : Nat => D.int i) = ((nowN ps t ps.length).map fun i : Nat => (i : Int)).map .int := by rw [List.map_map]; rfl
  rw [e]
  have hn : (nowN ps t ps.length).length ≤ 4 := by
    unfold nowN
    have := List.length_filter_le (fun i => rgE (ps.getD i (0, 0)) t) (List.range ps.length)
    rw [List.length_range] at this
    omega
  refine sm_ints (fun i hi => ?_) (by rw [List.length_map]; omega)
  obtain ⟨j, hj, rfl⟩ := List.mem_map.mp hi
  unfold nowN at hj
  have := List.mem_range.mp (List.mem_filter.mp hj).1
  omega
theorem now_eq {ps : List (Int × Int)} (hp : ps.length ≤ 4) {t : List Nat} {P : D → Prop} (h : P (.bl (!nowB ps t))) : owp (dEq (.tup ((nowN ps t ps.length).map fun i : Nat => .int i)) (.tup [])) P := by
  refine o_eqNilT (now_sm hp).1 (now_sm hp).2 ?_
  have : ((nowN ps t ps.length).map fun i : Nat => D.int i).isEmpty = (nowN ps t ps.length).isEmpty := by cases nowN ps t ps.length <;> rfl
  rw [this, nowN_nil]
  exact h
end
end Lw
end DL
namespace DL
namespace Lw
open PySem
/-- weights that stay small -/
def WsOk (ws : List Int) : Prop := ∀ w ∈ ws, -1000000 ≤ w ∧ w ≤ 1000000
def bestTail : M Fl := (evIf (toB (ev2 dEq (frzM (semC s_law_now (evCons (evV 1) (evCons (evV 10) evNil)))) (evL dTup evNil))) (evSetIx setD 6 (evL dMax2 (evCons (evGetP 6 (evSl dCut (evV 10) (evPt (ev1 dNeg (evC (.int 7)))) evNo) (evV 11)) (evCons (evV 11) evNil))) (evSl dCut (evV 10) (evPt (ev1 dNeg (evC (.int 7)))) evNo)) evPass)
theorem best_b1_eq : m_law_best_b1 = evSeq (evPar 10 11 (evCons (ev2 dAdd (evV 7) (evV 9)) (evCons (ev2 dAdd (evV 8) (evIf (toB (ev2 dEq (evV 9) (evC (.str ("x" : Str))))) (evIxP dIx 2 (evV 4)) (evC (.int 0)))) evNil))) bestTail := rfl
section
variable {E : Ex → List Sl → Prop}
theorem best_b1 {R : Fl → List Sl → Prop} {l : List Nat} {ps : List (Int × Int)} (ok : PairsOk ps) (hp : ps.length ≤ 4) {ws : List Int} {s3 s10 s11 : Sl} {i g one : Nat} {w : Int} (hw : ws[i]? = some w) {k : List Nat} {v : Int} (hk : k.length ≤ 7) {lat : List (List Nat × Int)} (hl : lat.length < 600)
    (h : ∀ s10 s11, R .nx [.d (.str (tx l)), .d (.lst (pairsD ps)), .d (.lst (ws.map .int)), s3, .d (.int i), .d (.str (tx [g])), .o (dkS (stepC lat (candOf ps w (k, v) one))), .d (.str (tx k)), .d (.int v), .d (.str (tx [one])), s10, s11]) :
    wp (m_law_best_b1 [.d (.str (tx l)), .d (.lst (pairsD ps)), .d (.lst (ws.map .int)), s3, .d (.int i), .d (.str (tx [g])), .o (dkS lat), .d (.str (tx k)), .d (.int v), .d (.str (tx [one])), s10, s11]) E R := by
  have go : ∀ m : Int, m = v + (if one = 120 then w else 0) → wp (bestTail [.d (.str (tx l)), .d (.lst (pairsD ps)), .d (.lst (ws.map .int)), s3, .d (.int i), .d (.str (tx [g])), .o (dkS lat), .d (.str (tx k)), .d (.int v), .d (.str (tx [one])), .d (.str (tx (k ++ [one]))), .d (.int m)]) E R := fun m hm => by
    have hlen : (k ++ [one]).length ≤ 8 := by rw [List.length_append]; simp; exact hk
    unfold bestTail
    walk_at "vc"
    refine now_wp (t := k ++ [one]) (by omega) ok hp ?_
    walk_at "vc"
    refine now_eq hp ?_
    walk_at "vc"
    refine ⟨fun hb => ?_, fun hb => ?_⟩
    · have hb : nowB ps (k ++ [one]) = false := by simpa using hb
      walk_at "vc"
      refine w_GetP rfl ?_
      walk_at "vc"
      rw [cutA_last (k ++ [one]) (by decide)]
      refine o_getS ?_
      walk_at "vc"
      rw [cutA_last (k ++ [one]) (by decide)]
      have e : ∀ u : Int, (if m > u then m else u) = max u m := fun u => by split <;> omega
      have el : (k ++ [one]).drop ((k ++ [one]).length - Int.toNat 7) = last7 (k ++ [one]) := rfl
      rw [e, el]
      refine o_setS (k := last7 (k ++ [one])) (by unfold szMax; omega) ?_
      have e2 : stepC lat (candOf ps w (k, v) one) = putA lat (last7 (k ++ [one])) (max ((getA lat (last7 (k ++ [one]))).getD m) m) := by
        unfold stepC candOf
        dsimp only
        rw [if_pos hb, hm]
      rw [e2] at h
      exact h _ _
    · have hb : nowB ps (k ++ [one]) = true := by simpa using hb
      walk_at "vc"
      have e2 : stepC lat (candOf ps w (k, v) one) = lat := by
        unfold stepC candOf
        dsimp only
        rw [if_neg (by rw [hb]; decide)]
      rw [e2] at h
      exact h _ _
  rw [best_b1_eq]
  walk_at "vc"
  refine o_addS (m := [one]) rfl (by simp; unfold szMax; omega) ?_
  walk_at "vc"
  refine o_eqCh (g' := 120) rfl ?_
  walk_at "vc"
  refine ⟨fun hb => ?_, fun hb => ?_⟩
  · have hb : one = 120 := by simpa using hb
    walk_at "vc"
    refine o_ixL (by omega) (d := .int w) (by rw [List.getElem?_map, Int.toNat_natCast, hw]; rfl) ?_
    walk_at "vc"
    exact go _ (by rw [if_pos hb])
  · have hb : ¬ one = 120 := by simpa using hb
    walk_at "vc"
    exact go _ (by rw [if_neg hb])
theorem best_for {R : Fl → List Sl → Prop} {l : List Nat} {ps : List (Int × Int)} (ok : PairsOk ps) (hp : ps.length ≤ 4) {ws : List Int} {s3 s9 s10 s11 : Sl} {i g : Nat} {w : Int} (hw : ws[i]? = some w) {k : List Nat} {v : Int} (hk : k.length ≤ 7) {lat : List (List Nat × Int)} (hl : lat.length < 590) {os : List Nat} (ho : os.length ≤ 2)
    (h : ∀ s9 s10 s11, R .nx [.d (.str (tx l)), .d (.lst (pairsD ps)), .d (.lst (ws.map .int)), s3, .d (.int i), .d (.str (tx [g])), .o (dkS ((os.map (candOf ps w (k, v))).foldl stepC lat)), .d (.str (tx k)), .d (.int v), s9, s10, s11]) :
    wp (forL (sgName 9) m_law_best_b1 (os.map fun c => .str (tx [c])) [.d (.str (tx l)), .d (.lst (pairsD ps)), .d (.lst (ws.map .int)), s3, .d (.int i), .d (.str (tx [g])), .o (dkS lat), .d (.str (tx k)), .d (.int v), s9, s10, s11]) E R := by
  refine forL_inv (fun j σ => (∃ s9 s10 s11, σ = [.d (.str (tx l)), .d (.lst (pairsD ps)), .d (.lst (ws.map .int)), s3, .d (.int i), .d (.str (tx [g])), .o (dkS (((os.take j).map (candOf ps w (k, v))).foldl stepC lat)), .d (.str (tx k)), .d (.int v), s9, s10, s11]) ∧ (((os.take j).map (candOf ps w (k, v))).foldl stepC lat).length ≤ lat.length + j) _ 0 _ ⟨⟨_, _, _, rfl⟩, Nat.le_refl _⟩ ?_ ?_
  · rintro j d σ hd ⟨⟨s9, s10, s11, rfl⟩, hlen⟩
    obtain ⟨c, hc, rfl⟩ : ∃ c, os[j]? = some c ∧ d = .str (tx [c]) := by
      rw [List.getElem?_map] at hd
      obtain ⟨q, h3, h4⟩ := Option.map_eq_some_iff.mp hd
      exact ⟨q, h3, h4.symm⟩
    have hj : j < os.length := (List.getElem?_eq_some_iff.mp hc).1
    simp only [Nat.zero_add] at hlen ⊢
    have e : ((os.take (j + 1)).map (candOf ps w (k, v))).foldl stepC lat = stepC (((os.take j).map (candOf ps w (k, v))).foldl stepC lat) (candOf ps w (k, v) c) := by
      rw [List.take_succ, hc, List.map_append, List.foldl_append]; rfl
    walk_at "vc"
    refine best_b1 ok hp hw hk (by omega) fun s10 s11 => ?_
    walk_at "vc"
    rw [e]
    exact ⟨⟨_, _, _, rfl⟩, by have := stepC_len (lat := ((os.take j).map (candOf ps w (k, v))).foldl stepC lat) (x := candOf ps w (k, v) c); omega⟩
  · rintro σ ⟨⟨s9, s10, s11, rfl⟩, hlen⟩
    rw [List.length_map, Nat.zero_add, List.take_length]
    exact h _ _ _
theorem best_b2 {R : Fl → List Sl → Prop} {l : List Nat} {ps : List (Int × Int)} (ok : PairsOk ps) (hp : ps.length ≤ 4) {ws : List Int} {s3 s9 s10 s11 : Sl} {i g : Nat} {w : Int} (hw : ws[i]? = some w) {k : List Nat} {v : Int} (hk : k.length ≤ 7) {lat : List (List Nat × Int)} (hl : lat.length < 590)
    (h : ∀ s9 s10 s11, R .nx [.d (.str (tx l)), .d (.lst (pairsD ps)), .d (.lst (ws.map .int)), s3, .d (.int i), .d (.str (tx [g])), .o (dkS (((signsOf g).map (candOf ps w (k, v))).foldl stepC lat)), .d (.str (tx k)), .d (.int v), s9, s10, s11]) :
    wp (m_law_best_b2 [.d (.str (tx l)), .d (.lst (pairsD ps)), .d (.lst (ws.map .int)), s3, .d (.int i), .d (.str (tx [g])), .o (dkS lat), .d (.str (tx k)), .d (.int v), s9, s10, s11]) E R := by
  unfold m_law_best_b2
  walk_at "vc"
  refine o_eqCh (g' := 63) rfl ?_
  walk_at "vc"
  refine ⟨fun hb => ?_, fun hb => ?_⟩
  · have hb : g = 63 := by simpa using hb
    walk_at "vc"
    refine best_for ok hp hw hk hl (os := [46, 120]) (by decide) fun s9 s10 s11 => ?_
    have e : signsOf g = [46, 120] := by unfold signsOf; rw [if_pos hb]
    rw [e] at h
    exact h _ _ _
  · have hb : ¬ g = 63 := by simpa using hb
    walk_at "vc"
    refine best_for ok hp hw hk hl (os := [g]) (by simp) fun s9 s10 s11 => ?_
    have e : signsOf g = [g] := by unfold signsOf; rw [if_neg hb]
    rw [e] at h
    exact h _ _ _
theorem signs_len (g : Nat) : (signsOf g).length ≤ 2 := by unfold signsOf; split <;> simp
theorem fold_len : ∀ (xs : List Cand) (lat : List (List Nat × Int)), (xs.foldl stepC lat).length ≤ lat.length + xs.length
  | [], lat => Nat.le_refl _
  | x :: xs, lat => by
    have := fold_len xs (stepC lat x)
    have := stepC_len (lat := lat) (x := x)
    rw [List.foldl_cons, List.length_cons]
    omega
theorem best_items {R : Fl → List Sl → Prop} {l : List Nat} {ps : List (Int × Int)} (ok : PairsOk ps) (hp : ps.length ≤ 4) {ws : List Int} {s3 s7 s8 s9 s10 s11 : Sl} {i g : Nat} {w : Int} (hw : ws[i]? = some w) {es : List (List Nat × Int)} (hes : es.length ≤ 256) (hk : ∀ e ∈ es, e.1.length ≤ 7) (n7 : noO s7 = true) (n8 : noO s8 = true)
    (h : ∀ s7 s8 s9 s10 s11, noO s7 = true → noO s8 = true → R .nx [.d (.str (tx l)), .d (.lst (pairsD ps)), .d (.lst (ws.map .int)), s3, .d (.int i), .d (.str (tx [g])), .o (dkS (stepB ps w es g)), s7, s8, s9, s10, s11]) :
    wp (forL (sgTup 2 (sgCons (sgName 7) (sgCons (sgName 8) sgNil))) m_law_best_b2 (itemsK (keyA encS es) (valA es)) [.d (.str (tx l)), .d (.lst (pairsD ps)), .d (.lst (ws.map .int)), s3, .d (.int i), .d (.str (tx [g])), .o (dkS []), s7, s8, s9, s10, s11]) E R := by
  rw [items_S]
  refine forL_inv (fun j σ => ∃ s7 s8 s9 s10 s11, σ = [.d (.str (tx l)), .d (.lst (pairsD ps)), .d (.lst (ws.map .int)), s3, .d (.int i), .d (.str (tx [g])), .o (dkS (stepB ps w (es.take j) g)), s7, s8, s9, s10, s11] ∧ noO s7 = true ∧ noO s8 = true) _ 0 _ ⟨_, _, _, _, _, rfl, n7, n8⟩ ?_ ?_
  · rintro j d σ hd ⟨s7, s8, s9, s10, s11, rfl, _, _⟩
    obtain ⟨⟨k, v⟩, hc, rfl⟩ : ∃ e, es[j]? = some e ∧ d = .tup [.str (tx e.1), .int e.2] := by
      rw [List.getElem?_map] at hd
      obtain ⟨q, h3, h4⟩ := Option.map_eq_some_iff.mp hd
      exact ⟨q, h3, h4.symm⟩
    have hj : j < es.length := (List.getElem?_eq_some_iff.mp hc).1
    simp only [Nat.zero_add]
    have e : stepB ps w (es.take (j + 1)) g = ((signsOf g).map (candOf ps w (k, v))).foldl stepC (stepB ps w (es.take j) g) := by
      unfold stepB cands
      rw [List.take_succ, hc, List.flatMap_append, List.foldl_append]
      simp
    have hlen : (stepB ps w (es.take j) g).length < 590 := by
      have h1 := fold_len (cands ps w (es.take j) g) []
      have h2 : ∀ xs : List (List Nat × Int), (cands ps w xs g).length ≤ 2 * xs.length := by
        intro xs
        induction xs with
        | nil => exact Nat.le_refl _
        | cons x xs ih =>
          have := signs_len g
          unfold cands at ih ⊢
          rw [List.flatMap_cons, List.length_append, List.length_map, List.length_cons]
          omega
      have h3 := h2 (es.take j)
      rw [List.length_take] at h3
      unfold stepB
      simp only [List.length_nil] at h1
      omega
    walk_at "vc"
    refine best_b2 ok hp hw (hk _ (List.mem_of_getElem? hc)) hlen fun s9 s10 s11 => ?_
    walk_at "vc"
    rw [e]
    exact ⟨_, _, _, _, _, rfl, rfl, rfl⟩
  · rintro σ ⟨s7, s8, s9, s10, s11, rfl, n7, n8⟩
    rw [List.length_map, Nat.zero_add, List.take_length]
    exact h _ _ _ _ _ n7 n8
def optD : Option Int → D
  | none => .non
  | some v => .int v
theorem best_b3 {R : Fl → List Sl → Prop} {l : List Nat} {ps : List (Int × Int)} (ok : PairsOk ps) (hp : ps.length ≤ 4) {ws : List Int} {s3 s6 s7 s8 s9 s10 s11 : Sl} {i g : Nat} {w : Int} (hw : ws[i]? = some w) {es : List (List Nat × Int)} (hes : es.length ≤ 256) (hk : ∀ e ∈ es, e.1.length ≤ 7) (h3 : s3 = .o (dkS es) ∨ s3 = .d (dkS es).frz) (n7 : noO s7 = true) (n8 : noO s8 = true)
    (h : ∀ s6 s7 s8 s9 s10 s11, noO s7 = true → noO s8 = true → R .nx [.d (.str (tx l)), .d (.lst (pairsD ps)), .d (.lst (ws.map .int)), .d (dkS (stepB ps w es g)).frz, .d (.int i), .d (.str (tx [g])), s6, s7, s8, s9, s10, s11]) :
    wp (m_law_best_b3 [.d (.str (tx l)), .d (.lst (pairsD ps)), .d (.lst (ws.map .int)), s3, .d (.int i), .d (.str (tx [g])), s6, s7, s8, s9, s10, s11]) E R := by
  unfold m_law_best_b3
  walk_at "vc"
  refine wp_ok (a := Sl.o (.dk [] [])) ?_
  walk_at "vc"
  rcases h3 with rfl | rfl
  · refine w_ForItemsO (ks := keyA encS es) (ds := valA es) rfl ?_
    refine best_items ok hp hw hes hk (s3 := .d (.dk (keyA encS es) (valA es))) n7 n8 fun s7 s8 s9 s10 s11 n7 n8 => ?_
    walk_at "vc"
    exact h _ _ _ _ _ _ n7 n8
  · refine w_ForItems (ks := keyA encS es) (ds := valA es) rfl ?_
    refine best_items ok hp hw hes hk n7 n8 fun s7 s8 s9 s10 s11 n7 n8 => ?_
    walk_at "vc"
    exact h _ _ _ _ _ _ n7 n8
theorem best_wp {Q : Sl → List Sl → Prop} {l : List Nat} (h3 : Sg3 l) (h1 : 1 ≤ l.length) (hl : l.length ≤ 40) {ps : List (Int × Int)} (ok : PairsOk ps) (hp : ps.length ≤ 4) {ws : List Int} (hw : ws.length = l.length)
    (h : ∀ o, Best l ps ws o → Q (.d (optD o)) [.d (.str (tx l)), .d (.lst (pairsD ps)), .d (.lst (ws.map .int))]) :
    wp (s_law_best [.d (.str (tx l)), .d (.lst (pairsD ps)), .d (.lst (ws.map .int))]) E Q := by
  walk_at "wsem"
  unfold m_law_best
  walk_at "vc"
  refine wp_ok (a := Sl.o (dkS [([], 0)])) ?_
  walk_at "vc"
  refine ⟨_, _, rfl, rfl, ?_⟩
  refine forL_inv (fun i σ => (∃ s3 s4 s5 s6 s7 s8 s9 s10 s11, σ = [.d (.str (tx l)), .d (.lst (pairsD ps)), .d (.lst (ws.map .int)), s3, s4, s5, s6, s7, s8, s9, s10, s11] ∧ (i = 0 ∧ s3 = .o (dkS (bestF ps ws l i)) ∨ 0 < i ∧ s3 = .d (dkS (bestF ps ws l i)).frz) ∧ noO s7 = true ∧ noO s8 = true) ∧ i ≤ l.length) _ 0 _ ⟨⟨_, _, _, _, _, _, _, _, _, rfl, .inl ⟨rfl, rfl⟩, rfl, rfl⟩, Nat.zero_le _⟩ ?_ ?_
  · rintro i d σ hd ⟨⟨s3, s4, s5, s6, s7, s8, s9, s10, s11, rfl, hs, n7, n8⟩, hi⟩
    obtain ⟨e, h2, rfl⟩ := enum_get hd
    obtain ⟨g, hg, rfl⟩ : ∃ g, l[i]? = some g ∧ e = .str (tx [g]) := by
      rw [sgn_tx, List.getElem?_map] at h2
      obtain ⟨q, h3, h4⟩ := Option.map_eq_some_iff.mp h2
      exact ⟨q, h3, h4.symm⟩
    have hlt : i < l.length := (List.getElem?_eq_some_iff.mp hg).1
    have d := dp_all ok h3 (ws := ws) i (by omega)
    have hw2 : ws[i]? = some (ws.getD i 0) := by
      have : i < ws.length := by omega
      rw [List.getD_eq_getElem?_getD, List.getElem?_eq_getElem this]; rfl
    have eg : l.getD i 0 = g := by rw [List.getD_eq_getElem?_getD, hg]; rfl
    simp only [Nat.zero_add] at hs ⊢
    walk_at "vc"
    refine best_b3 ok hp hw2 d.few (fun e he => (d.key he).2.1) (hs.elim (fun z => .inl z.2) fun z => .inr z.2) n7 n8 fun s6 s7 s8 s9 s10 s11 n7 n8 => ?_
    walk_at "vc"
    refine ⟨⟨_, _, _, _, _, _, _, _, _, rfl, .inr ⟨by omega, ?_⟩, n7, n8⟩, hlt⟩
    show _ = Sl.d (dkS (stepB ps (ws.getD i 0) (bestF ps ws l i) (l.getD i 0))).frz
    rw [eg]
  · rintro σ ⟨⟨s3, s4, s5, s6, s7, s8, s9, s10, s11, rfl, hs, n7, n8⟩, hi⟩
    rw [enumD_len, sgn_tx, List.length_map, Nat.zero_add] at hs
    obtain ⟨_, rfl⟩ := hs.resolve_left (fun z => by omega)
    have d := dp_all ok h3 (ws := ws) l.length (Nat.le_refl _)
    walk_at "vc"
    refine w_LcItemsD (ks := keyA encS (bestF ps ws l l.length)) (ds := valA (bestF ps ws l l.length)) rfl ?_
    refine w_Lc ?_
    refine wp_ok ?_
    rw [items_S]
    obtain ⟨t7, e7⟩ : ∃ t, t = s7 := ⟨_, rfl⟩
    obtain ⟨t8, e8⟩ : ∃ t, t = s8 := ⟨_, rfl⟩
    rw [← e7] at n7 ⊢
    rw [← e8] at n8 ⊢
    obtain ⟨acc, σ, e, ha, u7, u8, rfl, hz⟩ := lc_inv (vs := [7, 8]) (s := sgTup 2 (sgCons (sgName 7) (sgCons (sgName 8) sgNil))) (tt := tYesM) (te := evV 8) (σ := [.d (.str (tx l)), .d (.lst (pairsD ps)), .d (.lst (ws.map .int)), .d (dkS (bestF ps ws l l.length)).frz, s4, s5, s6, t7, t8, s9, s10, s11])
      (fun i acc σ => ∃ s7 s8, σ = [.d (.str (tx l)), .d (.lst (pairsD ps)), .d (.lst (ws.map .int)), .d (dkS (bestF ps ws l l.length)).frz, s4, s5, s6, s7, s8, s9, s10, s11] ∧ acc = ((bestF ps ws l l.length).take i).map fun e => D.int e.2) (ds := (bestF ps ws l l.length).map fun e => .tup [.str (tx e.1), .int e.2]) (by rw [List.length_map]; have := d.few; unfold szMax; omega) ⟨_, _, rfl, rfl⟩ (by
      rintro i d acc σ hd ha ⟨s7, s8, rfl, hz⟩
      obtain ⟨x, hx, rfl⟩ : ∃ x, (bestF ps ws l l.length)[i]? = some x ∧ d = .tup [.str (tx x.1), .int x.2] := by
        rw [List.getElem?_map] at hd
        obtain ⟨q, h3, h4⟩ := Option.map_eq_some_iff.mp hd
        exact ⟨q, h3, h4.symm⟩
      walk_at "vc"
      refine ⟨_, _, rfl, ?_⟩
      rw [hz, List.take_succ, hx, List.map_append]
      rfl)
    rw [List.length_map, List.take_length] at hz
    have no : noOwn [.d (.str (tx l)), .d (.lst (pairsD ps)), .d (.lst (ws.map .int)), .d (dkS (bestF ps ws l l.length)).frz, s4, s5, s6, t7, t8, s9, s10, s11] [7, 8] = true := by
      show (noO t7 && (noO t8 && true)) = true
      rw [n7, n8]; rfl
    refine ⟨no, _, _, e, ?_⟩
    subst hz
    walk_at "vc"
    have ei : ((bestF ps ws l l.length).map fun e => D.int e.2) = ((bestF ps ws l l.length).map (·.2)).map .int := by rw [List.map_map]; rfl
    rw [ei]
    refine o_maxD ?_
    walk_at "vc"
    have eo : (if ((bestF ps ws l l.length).map (·.2)).isEmpty = true then D.non else .int (topOf ((bestF ps ws l l.length).map (·.2)))) = optD (bestB (bestF ps ws l l.length)) := by
      unfold bestB
      cases bestF ps ws l l.length <;> rfl
    rw [eo]
    exact h _ (d.best ok)
end
end Lw
end DL
namespace DL
namespace Lw
open PySem
section
variable {E : Ex → List Sl → Prop} {Q : Sl → List Sl → Prop}
theorem lawmost_wp {l : List Nat} (h3 : Sg3 l) (h1 : 1 ≤ l.length) (hl : l.length ≤ 30) {ps : List (Int × Int)} (ok : PairsOk ps) (hp : ps.length ≤ 4)
    (h : ∀ o, Best l ps (List.replicate l.length 1) o → Q (.d (optD o)) [.d (.str (tx l)), .d (.lst (pairsD ps))]) :
    wp (s_law_most [.d (.str (tx l)), .d (.lst (pairsD ps))]) E Q := by
  walk_at "wsem"
  unfold m_law_most
  walk_at "vc"
  have e : dMul (.lst [.int 1]) (.int l.length) = some (.lst ((List.replicate l.length (1 : Int)).map .int)) := by
    show (if ((l.length : Nat) : Int) < 1000000 ∧ -1000000 < ((l.length : Nat) : Int) ∧ ([D.int 1] : List D).length * ((l.length : Nat) : Int).toNat ≤ szMax then some (D.lst (List.replicate ((l.length : Nat) : Int).toNat [D.int 1]).flatten) else none) = _
    rw [if_pos ⟨by omega, by omega, by show 1 * _ ≤ _; unfold szMax; omega⟩, Int.toNat_natCast]
    have : ∀ k : Nat, (List.replicate k [D.int 1]).flatten = (List.replicate k (1 : Int)).map .int := fun k => by
      induction k with
      | zero => rfl
      | succ k ih => rw [List.replicate_succ, List.flatten_cons, ih, List.replicate_succ]; rfl
    rw [this]
  refine owp_some e ?_
  walk_at "vc"
  refine best_wp h3 h1 (by omega) ok hp (by rw [List.length_replicate]) fun o ho => ?_
  walk_at "vc"
  exact h o ho
theorem o_isNotO {o : Option Int} {P : D → Prop} (h : P (.bl o.isSome)) : owp (dIsNot (optD o) .non) P := by
  have e : dIsNot (optD o) .non = some (.bl o.isSome) := by cases o <;> rfl
  exact owp_some e h
theorem o_isO {o : Option Int} {P : D → Prop} (h : P (.bl (!o.isSome))) : owp (dIs (optD o) .non) P := by
  have e : dIs (optD o) .non = some (.bl (!o.isSome)) := by cases o <;> rfl
  exact owp_some e h
theorem best_has {l : List Nat} (h3 : Sg3 l) {ps : List (Int × Int)} (ok : PairsOk ps) {ws : List Int} {M : Int} (h : Best l ps ws (some M)) : isQ ps (repl l) = true := by
  obtain ⟨⟨t, q, _⟩, _⟩ := h
  exact (hasF ok h3).mp ⟨t, q⟩
theorem best_some {l : List Nat} (h3 : Sg3 l) {ps : List (Int × Int)} (ok : PairsOk ps) (hq : isQ ps (repl l) = true) (ws : List Int) : ∃ M, Best l ps ws (some M) := by
  have d := (dp_all ok h3 (ws := ws) l.length (Nat.le_refl _)).best ok
  obtain ⟨u, hu⟩ := (hasF ok h3).mpr hq
  cases e : bestB (bestF ps ws l l.length) with
  | none => rw [e] at d; exact absurd hu (d u)
  | some M => rw [e] at d; exact ⟨M, d⟩
end
end Lw
end DL
namespace DL
namespace Lw
open PySem
section
variable {E : Ex → List Sl → Prop} {Q : Sl → List Sl → Prop} {a b c n m w i lo hi t : Int}
theorem place_wp {l : List Nat} (hl : l.length ≤ 30) {p : Int} (h0 : 0 ≤ p) (h1 : p ≤ l.length) (h : Q (.d (.bl true)) [.d (.str (tx l)), .d (.int p)]) : wp (s_is_place [.d (.str (tx l)), .d (.int p)]) E Q := by
  walk_at "wsem"
  unfold m_is_place
  walk_at "vc"
  refine between_wp ?_
  rw [decide_eq_true h0, decide_eq_true h1]
  walk_at "vc"
  exact h
end
end Lw
end DL
--IMPORT DLM
namespace DL
namespace Lw
open PySem
section
variable {E : Ex → List Sl → Prop} {Q : Sl → List Sl → Prop}
theorem needpl_wp {l : List Nat} (h3 : Sg3 l) (h1 : 1 ≤ l.length) (hl : l.length ≤ 30) {ps : List (Int × Int)} (ok : PairsOk ps) (hp : ps.length ≤ 4) (hq : isQ ps (repl l) = true) {f la : Int} (f0 : 0 ≤ f) (f1 : f ≤ la) (f2 : la ≤ l.length)
    (h : Q (.d .non) [.d (.str (tx l)), .d (.tup (ps.map alarmD)), .d (.int f), .d (.int la)]) : wp (s_need_places [.d (.str (tx l)), .d (.tup (ps.map alarmD)), .d (.int f), .d (.int la)]) E Q := by
  walk_at "wsem"
  unfold m_need_places
  walk_at "vc"
  refine nsheet_wp h3 h1 hl ?_
  walk_at "vc"
  refine need_wp hp ?_
  walk_at "vc"
  refine place_wp hl f0 (by omega) ?_
  walk_at "vc"
  refine place_wp hl (by omega) f2 ?_
  walk_at "vc"
  refine ⟨fun hb => ?_, fun hb => ?_⟩
  · have := of_decide_eq_true hb
    omega
  · walk_at "vc"
    refine needf_wp h3 h1 hl ok hp (fun _ => ?_) (fun z => by rw [hq] at z; cases z)
    walk_at "vc"
    exact h
theorem mostbt_wp {l : List Nat} (h3 : Sg3 l) (h1 : 1 ≤ l.length) (hl : l.length ≤ 30) {ps : List (Int × Int)} (ok : PairsOk ps) (hp : ps.length ≤ 4) (hq : isQ ps (repl l) = true) {f la : Int} (f0 : 0 ≤ f) (f1 : f ≤ la) (f2 : la ≤ l.length)
    (h : ∀ M, Best l ps (wwin l.length f la 1) (some M) → Q (.d (.int M)) [.d (.str (tx l)), .d (.tup (ps.map alarmD)), .d (.int f), .d (.int la)]) : wp (s_most_between [.d (.str (tx l)), .d (.tup (ps.map alarmD)), .d (.int f), .d (.int la)]) E Q := by
  walk_at "wsem"
  unfold m_most_between
  walk_at "vc"
  refine needpl_wp h3 h1 hl ok hp hq f0 f1 f2 ?_
  walk_at "vc"
  refine tinit_wp hl ok hp fun fb t => ?_
  have t := t.ok ok h3 hq ⟨f0, by omega⟩
  walk_at "vc"
  refine ⟨_, _, rfl, ?_⟩
  walk_at "vc"
  refine tcall_wp (fb := fb) (t.get (x := la) (by omega) f2) ?_
  walk_at "vc"
  exact h _ (t.win ok h3 f0 f1 f2)
theorem leastbt_wp {l : List Nat} (h3 : Sg3 l) (h1 : 1 ≤ l.length) (hl : l.length ≤ 30) {ps : List (Int × Int)} (ok : PairsOk ps) (hp : ps.length ≤ 4) (hq : isQ ps (repl l) = true) {f la : Int} (f0 : 0 ≤ f) (f1 : f ≤ la) (f2 : la ≤ l.length)
    (h : ∀ M, Best l ps (wwin l.length f la (-1)) (some M) → Q (.d (.int (-M))) [.d (.str (tx l)), .d (.tup (ps.map alarmD)), .d (.int f), .d (.int la)]) : wp (s_least_between [.d (.str (tx l)), .d (.tup (ps.map alarmD)), .d (.int f), .d (.int la)]) E Q := by
  walk_at "wsem"
  unfold m_least_between
  walk_at "vc"
  refine needpl_wp h3 h1 hl ok hp hq f0 f1 f2 ?_
  walk_at "vc"
  refine tinit_wp hl ok hp fun fb t => ?_
  have t := t.ok ok h3 hq ⟨by omega, f2⟩
  walk_at "vc"
  refine ⟨_, _, rfl, ?_⟩
  walk_at "vc"
  refine tcall_wp (fb := fb) (t.get (x := f) f0 (by omega)) ?_
  walk_at "vc"
  exact h _ (t.winB ok h3 f0 f1 f2)
end
end Lw
end DL
namespace DL
namespace Lw
open PySem
section
variable {E : Ex → List Sl → Prop} {Q : Sl → List Sl → Prop} {a b c n : Int}
theorem lbt_wp {l : List Nat} (h3 : Sg3 l) (h1 : 1 ≤ l.length) (hl : l.length ≤ 30) {ps : List (Int × Int)} (ok : PairsOk ps) (hp : ps.length ≤ 4) {f la sg M : Int} (hM : Best l ps (wwin l.length f la sg) (some M)) (hs : sg = 1 ∨ sg = -1) (hb : -30 ≤ M ∧ M ≤ 30)
    (h : Q (.d (.int (sg * M))) [.d (.str (tx l)), .d (.lst (pairsD ps)), .d (.int f), .d (.int la), .d (.int sg)]) : wp (s_law_between [.d (.str (tx l)), .d (.lst (pairsD ps)), .d (.int f), .d (.int la), .d (.int sg)]) E Q := by
  walk_at "wsem"
  unfold m_law_between
  walk_at "vc"
  refine ⟨⟨by omega, by omega⟩, rfl, ?_⟩
  rw [Int.toNat_natCast]
  obtain ⟨acc, σ, e, ha, s6, rfl, hz⟩ := lc_inv (vs := [6]) (s := sgName 6) (tt := tYesM) (te := m_law_between_e1) (σ := [.d (.str (tx l)), .d (.lst (pairsD ps)), .d (.int f), .d (.int la), .d (.int sg), .un, .un])
    (fun i acc σ => ∃ s6, σ = [.d (.str (tx l)), .d (.lst (pairsD ps)), .d (.int f), .d (.int la), .d (.int sg), .un, s6] ∧ acc = (wwin i f la sg).map .int) (ds := rng 0 l.length) (by rw [rng_len]; unfold szMax; omega) ⟨_, rfl, rfl⟩ (by
    rintro i d acc σ hd ha ⟨s6, rfl, hz⟩
    obtain ⟨h5, rfl⟩ := rng_get hd
    rw [Int.zero_add]
    have e : wwin (i + 1) f la sg = wwin i f la sg ++ [if f ≤ i ∧ (i : Int) < la then sg else 0] := by
      unfold wwin
      rw [List.range_succ, List.map_append]; rfl
    walk_at "vc"
    unfold m_law_between_e1
    walk_at "vc"
    refine ⟨fun hb => ?_, fun hb => ?_⟩
    · have hb := of_decide_eq_true hb
      walk_at "vc"
      refine ⟨fun hc => ?_, fun hc => ?_⟩
      · have hc := of_decide_eq_true hc
        walk_at "vc"
        refine ⟨_, rfl, ?_⟩
        rw [e, if_pos ⟨hb, hc⟩, List.map_append, hz]; rfl
      · have hc := of_decide_eq_false hc
        walk_at "vc"
        refine ⟨_, rfl, ?_⟩
        rw [e, if_neg (fun z => hc z.2), List.map_append, hz]; rfl
    · have hb := of_decide_eq_false hb
      walk_at "vc"
      refine ⟨_, rfl, ?_⟩
      rw [e, if_neg (fun z => hb z.1), List.map_append, hz]; rfl)
  rw [rng_len] at hz
  refine ⟨_, _, e, ?_⟩
  subst hz
  walk_at "vc"
  refine best_wp h3 h1 (by omega) ok hp wwin_len fun o ho => ?_
  rw [ho.uniq hM]
  walk_at "vc"
  refine o_mulI (by refine mulOk_of ?_ ?_ <;> omega) ?_
  walk_at "vc"
  exact h
theorem law_b1 {R : Fl → List Sl → Prop} {s0 s1 s3 s8 s9 s10 s11 : Sl} {k : Int} {l : List Nat} (h3 : Sg3 l) (h1 : 1 ≤ l.length) (hl : l.length ≤ 30) {ps : List (Int × Int)} (ok : PairsOk ps) (hp : ps.length ≤ 4) (hq : isQ ps (repl l) = true) (p : PenOk a b c n) (hn : n + 1000 < 1000000000)
    (h : ∀ a' b' c' s8 s9 s10 s11, PenOk a' b' c' (n + 2) → R .nx [s0, s1, .o (penO a' b' c'), s3, .d (.lst (pairsD ps)), .d (.str (tx l)), .d (.tup (ps.map alarmD)), .d (.int k), s8, s9, s10, s11]) :
    wp (m_law_b1 [s0, s1, .o (penO a b c), s3, .d (.lst (pairsD ps)), .d (.str (tx l)), .d (.tup (ps.map alarmD)), .d (.int k), s8, s9, s10, s11]) E R := by
  unfold m_law_b1
  walk_at "vc"
  refine draw_wp p (by omega) (by omega) (by omega) fun f a1 b1 c1 f0 f1 p1 => ?_
  walk_at "vc"
  refine draw_wp p1 (by omega) (by omega) (by omega) fun d a2 b2 c2 d0 d1 p2 => ?_
  have f2 : f ≤ f + d := by omega
  have f3 : f + d ≤ l.length := by omega
  obtain ⟨M1, hM1⟩ := best_some h3 ok hq (wwin l.length f (f + d) 1)
  obtain ⟨M2, hM2⟩ := best_some h3 ok hq (wwin l.length f (f + d) (-1))
  have b1 := win_bd f0 f2 f3 (.inl rfl) hM1
  have b2 := win_bd f0 f2 f3 (.inr rfl) hM2
  obtain ⟨y, hy⟩ : ∃ y, dReprX rpD (.lst [.int M1, .int (-M2)]) = some (.str y) := by
    have t : TxB rpD (.lst [.int M1, .int (-M2)]) ((61 + 2) * 2 + 2) (0 + 1) := TxB.lst fun d hd => by
      have : d = .int M1 ∨ d = .int (-M2) := by simpa using hd
      rcases this with rfl | rfl
      · exact TxB.int (by omega) (by omega)
      · exact TxB.int (by omega) (by omega)
    exact t.repr (by decide) (by decide)
  walk_at "vc"
  refine lbt_wp h3 h1 hl ok hp hM1 (.inl rfl) (by omega) ?_
  walk_at "vc"
  refine lbt_wp h3 h1 hl ok hp hM2 (.inr rfl) (by omega) ?_
  rw [Int.one_mul, Int.neg_mul, Int.one_mul]
  walk_at "vc"
  refine mostbt_wp h3 h1 hl ok hp hq f0 f2 f3 fun N1 hN1 => ?_
  rw [show N1 = M1 from Option.some.inj (hN1.uniq hM1)]
  walk_at "vc"
  refine leastbt_wp h3 h1 hl ok hp hq f0 f2 f3 fun N2 hN2 => ?_
  rw [show N2 = M2 from Option.some.inj (hN2.uniq hM2)]
  walk_at "vc"
  refine same_wp' hy ?_
  walk_at "vc"
  refine mostbt_wp h3 h1 hl ok hp hq f0 f2 f3 fun N1 hN1 => ?_
  rw [show N1 = M1 from Option.some.inj (hN1.uniq hM1)]
  walk_at "vc"
  refine ⟨fun z => absurd z (by rw [show (M1 == M1) = true from decide_eq_true rfl]; decide), fun _ => ?_⟩
  walk_at "vc"
  exact h _ _ _ _ _ _ _ (p2.mono (by omega))
theorem law_b2 {R : Fl → List Sl → Prop} {s0 s1 s4 s5 s6 s7 s8 s9 s10 s11 : Sl} {k : Int} (k0 : 0 ≤ k) (k1 : k < 3) (p : PenOk a b c n) (hn : n + 2000 < 1000000000)
    (h : ∀ a' b' c' s4 s5 s6 s7 s8 s9 s10 s11, PenOk a' b' c' (n + 400) → R .nx [s0, s1, .o (penO a' b' c'), .d (.int k), s4, s5, s6, s7, s8, s9, s10, s11]) :
    wp (m_law_b2 [s0, s1, .o (penO a b c), .d (.int k), s4, s5, s6, s7, s8, s9, s10, s11]) E R := by
  unfold m_law_b2
  walk_at "vc"
  refine pairs_wp p (by omega) fun ps a1 b1 c1 ok hp p1 => ?_
  walk_at "vc"
  obtain ⟨cap, hc, c0, c30⟩ : ∃ cap : Int, ([.int 14, .int 14, .int 30] : List D)[k.toNat]? = some (.int cap) ∧ 1 ≤ cap ∧ cap ≤ 30 := by
    rcases (show k = 0 ∨ k = 1 ∨ k = 2 by omega) with rfl | rfl | rfl
    · exact ⟨14, rfl, by decide, by decide⟩
    · exact ⟨14, rfl, by decide, by decide⟩
    · exact ⟨30, rfl, by decide, by decide⟩
  refine o_ixL k0 hc ?_
  walk_at "vc"
  refine sheet_wp ok p1 (by omega) c0 c30 fun l a2 b2 c2 ho l1 l2 p2 => ?_
  have hl : l.length ≤ 30 := by omega
  walk_at "vc"
  refine made_wp ok (by omega) ?_
  walk_at "vc"
  refine lawmost_wp ho l1 hl ok hp fun o hO => ?_
  walk_at "vc"
  refine o_isNotO ?_
  cases o with
  | none =>
    walk_at "vc"
    refine ⟨by decide, ?_⟩
    refine forR_inv (fun i σ => ∃ a b c s4 s5 s6 s7 s8 s9 s10 s11, σ = [s0, s1, .o (penO a b c), .d (.int k), s4, s5, s6, s7, s8, s9, s10, s11] ∧ PenOk a b c (n + 400)) ⟨_, _, _, _, _, _, _, _, _, _, _, rfl, p2.mono (by omega)⟩ (fun i σ hi _ => absurd hi (by decide +revert)) ?_
    rintro σ ⟨a, b, c, s4, s5, s6, s7, s8, s9, s10, s11, rfl, p⟩
    exact h _ _ _ _ _ _ _ _ _ _ _ p
  | some M =>
    have hq := best_has ho ok hO
    walk_at "vc"
    refine ⟨by decide, ?_⟩
    refine forR_inv (fun i σ => ∃ a b c s7 s8 s9 s10 s11, σ = [s0, s1, .o (penO a b c), .d (.int k), .d (.lst (pairsD ps)), .d (.str (tx l)), .d (.tup (ps.map alarmD)), s7, s8, s9, s10, s11] ∧ PenOk a b c (n + 350 + 2 * i)) ⟨_, _, _, _, _, _, _, _, rfl, p2.mono (by omega)⟩ ?_ ?_
    · rintro i σ hi ⟨a, b, c, s7, s8, s9, s10, s11, rfl, p⟩
      have hi : i < 6 := hi
      rw [Int.zero_add]
      walk_at "vc"
      refine law_b1 ho l1 hl ok hp hq p (by omega) fun a' b' c' s8 s9 s10 s11 p' => ?_
      walk_at "vc"
      exact ⟨_, _, _, _, _, _, _, _, rfl, p'.mono (by omega)⟩
    · rintro σ ⟨a, b, c, s7, s8, s9, s10, s11, rfl, p⟩
      have hp' : PenOk a b c (n + 400) := p.mono (by show n + 350 + 2 * (((6 : Int).toNat : Nat) : Int) ≤ n + 400; omega)
      exact h _ _ _ _ _ _ _ _ _ _ _ hp'
theorem law_b3 {R : Fl → List Sl → Prop} {ns : List Int} {k : Int} {s2 s3 s4 s5 s6 s7 s8 s9 s10 s11 : Sl} (hk : 0 ≤ k)
    (h : ∀ s2 s3 s4 s5 s6 s7 s8 s9 s10 s11, R .nx [.d (.scr ns), .d (.int k), s2, s3, s4, s5, s6, s7, s8, s9, s10, s11]) :
    wp (m_law_b3 [.d (.scr ns), .d (.int k), s2, s3, s4, s5, s6, s7, s8, s9, s10, s11]) E R := by
  unfold m_law_b3
  walk_at "vc"
  refine cell_wp hk fun x => ?_
  walk_at "vc"
  refine pen_wp fun a b p => ?_
  walk_at "vc"
  refine ⟨by omega, ?_⟩
  refine forR_inv (fun i σ => ∃ a b c s3 s4 s5 s6 s7 s8 s9 s10 s11, σ = [.d (.scr ns), .d (.int k), .o (penO a b c), s3, s4, s5, s6, s7, s8, s9, s10, s11] ∧ PenOk a b c (400 * i)) ⟨_, _, _, _, _, _, _, _, _, _, _, _, rfl, p.mono (by omega)⟩ ?_ ?_
  · rintro i σ hi ⟨a, b, c, s3, s4, s5, s6, s7, s8, s9, s10, s11, rfl, p⟩
    have hi : i < 3 := hi
    rw [Int.zero_add]
    walk_at "vc"
    refine law_b2 (by omega) (by omega) p (by omega) fun a' b' c' s4 s5 s6 s7 s8 s9 s10 s11 p' => ?_
    walk_at "vc"
    exact ⟨_, _, _, _, _, _, _, _, _, _, _, _, rfl, p'.mono (by omega)⟩
  · rintro σ ⟨a, b, c, s3, s4, s5, s6, s7, s8, s9, s10, s11, rfl, p⟩
    exact h _ _ _ _ _ _ _ _ _ _
theorem law_wp {ns : List Int} : wp (s_law [.d (.scr ns)]) (fun _ _ => False) fun r _ => r = .d (.bl true) := by
  walk_at "wsem"
  unfold m_law
  walk_at "vc"
  refine ⟨by (repeat' split) <;> omega, ?_⟩
  refine forL_inv (fun i σ => ∃ s1 s2 s3 s4 s5 s6 s7 s8 s9 s10 s11, σ = [.d (.scr ns), s1, s2, s3, s4, s5, s6, s7, s8, s9, s10, s11]) _ 0 _ ⟨_, _, _, _, _, _, _, _, _, _, _, rfl⟩ ?_ ?_
  · rintro i d σ hd ⟨s1, s2, s3, s4, s5, s6, s7, s8, s9, s10, s11, rfl⟩
    obtain ⟨hi, rfl⟩ := rng_get hd
    walk_at "vc"
    refine law_b3 (by omega) fun s2 s3 s4 s5 s6 s7 s8 s9 s10 s11 => ?_
    walk_at "vc"
    exact ⟨_, _, _, _, _, _, _, _, _, _, _, rfl⟩
  · rintro σ ⟨s1, s2, s3, s4, s5, s6, s7, s8, s9, s10, s11, rfl⟩
    walk_at "vc"
    rfl
theorem math (ns : List Int) (h : ns.length ≤ 63) : ∃ σ, s_law [.d (.scr ns)] = .ok (.d (.bl true)) σ := by
  obtain ⟨a, σ, e, h⟩ := wp_done (law_wp (ns := ns))
  exact ⟨σ, by rw [e]; exact congrArg (fun x => Res.ok x σ) h⟩
end
end Lw
end DL
namespace DL
namespace Lw
open PySem PySem.Spec PyProof.Rows L2
def top (i : Nat) : Stmt := PySem.Challenge.pw_quietminutes_k13_between_two_places.main.body.getD i (.Pass ⟨0, 0, 0, 0⟩)
abbrev st_law_pen : Stmt := (top 45)
abbrev fn_law_pen : Fn := ⟨("_law_pen" : Str), ("_law_pen" : Str), defArgs st_law_pen, defBody st_law_pen, defScope st_law_pen, fun K => He.ga K ("_law_pen" : Str)⟩
abbrev st_law_cell_at : Stmt := (top 46)
abbrev fn_law_cell_at : Fn := ⟨("_law_cell_at" : Str), ("_law_cell_at" : Str), defArgs st_law_cell_at, defBody st_law_cell_at, defScope st_law_cell_at, fun K => He.ga K ("_law_cell_at" : Str)⟩
abbrev st_law_draw : Stmt := (top 47)
abbrev fn_law_draw : Fn := ⟨("_law_draw" : Str), ("_law_draw" : Str), defArgs st_law_draw, defBody st_law_draw, defScope st_law_draw, fun K => He.ga K ("_law_draw" : Str)⟩
abbrev st_law_pick : Stmt := (top 48)
abbrev fn_law_pick : Fn := ⟨("_law_pick" : Str), ("_law_pick" : Str), defArgs st_law_pick, defBody st_law_pick, defScope st_law_pick, fun K => He.ga K ("_law_pick" : Str)⟩
abbrev st_law_pairs : Stmt := (top 49)
abbrev fn_law_pairs : Fn := ⟨("_law_pairs" : Str), ("_law_pairs" : Str), defArgs st_law_pairs, defBody st_law_pairs, defScope st_law_pairs, fun K => He.ga K ("_law_pairs" : Str)⟩
abbrev st_law_hidden : Stmt := (top 50)
abbrev fn_law_hidden : Fn := ⟨("_law_hidden" : Str), ("_law_hidden" : Str), defArgs st_law_hidden, defBody st_law_hidden, defScope st_law_hidden, fun K => He.ga K ("_law_hidden" : Str)⟩
abbrev st_law_text : Stmt := (top 54)
abbrev fn_law_text : Fn := ⟨("_law_text" : Str), ("_law_text" : Str), defArgs st_law_text, defBody st_law_text, defScope st_law_text, fun K => He.ga K ("_law_text" : Str)⟩
abbrev st_law_rings : Stmt := (top 51)
abbrev fn_law_rings : Fn := ⟨("_law_rings" : Str), ("_law_rings" : Str), defArgs st_law_rings, defBody st_law_rings, defScope st_law_rings, fun K => He.ga K ("_law_rings" : Str)⟩
abbrev st_law_is_quiet : Stmt := (top 52)
abbrev fn_law_is_quiet : Fn := ⟨("_law_is_quiet" : Str), ("_law_is_quiet" : Str), defArgs st_law_is_quiet, defBody st_law_is_quiet, defScope st_law_is_quiet, fun K => He.ga K ("_law_is_quiet" : Str)⟩
abbrev st_law_quiet_text : Stmt := (top 53)
abbrev fn_law_quiet_text : Fn := ⟨("_law_quiet_text" : Str), ("_law_quiet_text" : Str), defArgs st_law_quiet_text, defBody st_law_quiet_text, defScope st_law_quiet_text, fun K => He.ga K ("_law_quiet_text" : Str)⟩
abbrev st_law_sheet : Stmt := (top 55)
abbrev fn_law_sheet : Fn := ⟨("_law_sheet" : Str), ("_law_sheet" : Str), defArgs st_law_sheet, defBody st_law_sheet, defScope st_law_sheet, fun K => He.ga K ("_law_sheet" : Str)⟩
abbrev st_is_whole : Stmt := (top 14)
abbrev fn_is_whole : Fn := ⟨("is_whole" : Str), ("is_whole" : Str), defArgs st_is_whole, defBody st_is_whole, defScope st_is_whole, fun K => He.ga K ("is_whole" : Str)⟩
abbrev st_is_between : Stmt := (top 15)
abbrev fn_is_between : Fn := ⟨("is_between" : Str), ("is_between" : Str), defArgs st_is_between, defBody st_is_between, defScope st_is_between, fun K => He.ga K ("is_between" : Str)⟩
abbrev st_Alarm_init : Stmt := ((clsBody (top 27)).getD 0 (.Pass ⟨0, 0, 0, 0⟩))
abbrev fn_Alarm_init : Fn := ⟨("__init__" : Str), ("Alarm.__init__" : Str), defArgs st_Alarm_init, defBody st_Alarm_init, defScope st_Alarm_init, fun K => He.ma K (He.ga K ("Alarm" : Str)) ("__init__" : Str)⟩
abbrev st_law_made : Stmt := (top 58)
abbrev fn_law_made : Fn := ⟨("_law_made" : Str), ("_law_made" : Str), defArgs st_law_made, defBody st_law_made, defScope st_law_made, fun K => He.ga K ("_law_made" : Str)⟩
abbrev st_law_now : Stmt := (top 43)
abbrev fn_law_now : Fn := ⟨("_law_now" : Str), ("_law_now" : Str), defArgs st_law_now, defBody st_law_now, defScope st_law_now, fun K => He.ga K ("_law_now" : Str)⟩
abbrev st_law_best : Stmt := (top 44)
abbrev fn_law_best : Fn := ⟨("_law_best" : Str), ("_law_best" : Str), defArgs st_law_best, defBody st_law_best, defScope st_law_best, fun K => He.ga K ("_law_best" : Str)⟩
abbrev st_law_between : Stmt := (top 59)
abbrev fn_law_between : Fn := ⟨("_law_between" : Str), ("_law_between" : Str), defArgs st_law_between, defBody st_law_between, defScope st_law_between, fun K => He.ga K ("_law_between" : Str)⟩
abbrev st_has_signs : Stmt := (top 16)
abbrev fn_has_signs : Fn := ⟨("has_signs" : Str), ("has_signs" : Str), defArgs st_has_signs, defBody st_has_signs, defScope st_has_signs, fun K => He.ga K ("has_signs" : Str)⟩
abbrev st_is_sheet : Stmt := (top 17)
abbrev fn_is_sheet : Fn := ⟨("is_sheet" : Str), ("is_sheet" : Str), defArgs st_is_sheet, defBody st_is_sheet, defScope st_is_sheet, fun K => He.ga K ("is_sheet" : Str)⟩
abbrev st_need_sheet : Stmt := (top 19)
abbrev fn_need_sheet : Fn := ⟨("need_sheet" : Str), ("need_sheet" : Str), defArgs st_need_sheet, defBody st_need_sheet, defScope st_need_sheet, fun K => He.ga K ("need_sheet" : Str)⟩
abbrev st_are_alarms : Stmt := (top 28)
abbrev fn_are_alarms : Fn := ⟨("are_alarms" : Str), ("are_alarms" : Str), defArgs st_are_alarms, defBody st_are_alarms, defScope st_are_alarms, fun K => He.ga K ("are_alarms" : Str)⟩
abbrev st_need_alarms : Stmt := (top 29)
abbrev fn_need_alarms : Fn := ⟨("need_alarms" : Str), ("need_alarms" : Str), defArgs st_need_alarms, defBody st_need_alarms, defScope st_need_alarms, fun K => He.ga K ("need_alarms" : Str)⟩
abbrev st_Alarm_does_ring : Stmt := ((clsBody (top 27)).getD 5 (.Pass ⟨0, 0, 0, 0⟩))
abbrev fn_Alarm_does_ring : Fn := ⟨("does_ring" : Str), ("Alarm.does_ring" : Str), defArgs st_Alarm_does_ring, defBody st_Alarm_does_ring, defScope st_Alarm_does_ring, fun K => He.ma K (He.ga K ("Alarm" : Str)) ("does_ring" : Str)⟩
abbrev st_Alarm_places_in : Stmt := ((clsBody (top 27)).getD 6 (.Pass ⟨0, 0, 0, 0⟩))
abbrev fn_Alarm_places_in : Fn := ⟨("places_in" : Str), ("Alarm.places_in" : Str), defArgs st_Alarm_places_in, defBody st_Alarm_places_in, defScope st_Alarm_places_in, fun K => He.ma K (He.ga K ("Alarm" : Str)) ("places_in" : Str)⟩
abbrev st_is_quiet : Stmt := (top 30)
abbrev fn_is_quiet : Fn := ⟨("is_quiet" : Str), ("is_quiet" : Str), defArgs st_is_quiet, defBody st_is_quiet, defScope st_is_quiet, fun K => He.ga K ("is_quiet" : Str)⟩
abbrev st_can_be_quiet : Stmt := (top 32)
abbrev fn_can_be_quiet : Fn := ⟨("can_be_quiet" : Str), ("can_be_quiet" : Str), defArgs st_can_be_quiet, defBody st_can_be_quiet, defScope st_can_be_quiet, fun K => He.ga K ("can_be_quiet" : Str)⟩
abbrev st_has_filling : Stmt := (top 33)
abbrev fn_has_filling : Fn := ⟨("has_filling" : Str), ("has_filling" : Str), defArgs st_has_filling, defBody st_has_filling, defScope st_has_filling, fun K => He.ga K ("has_filling" : Str)⟩
abbrev st_need_filling : Stmt := (top 34)
abbrev fn_need_filling : Fn := ⟨("need_filling" : Str), ("need_filling" : Str), defArgs st_need_filling, defBody st_need_filling, defScope st_need_filling, fun K => He.ga K ("need_filling" : Str)⟩
abbrev st_is_place : Stmt := (top 36)
abbrev fn_is_place : Fn := ⟨("is_place" : Str), ("is_place" : Str), defArgs st_is_place, defBody st_is_place, defScope st_is_place, fun K => He.ga K ("is_place" : Str)⟩
abbrev st_need_places : Stmt := (top 39)
abbrev fn_need_places : Fn := ⟨("need_places" : Str), ("need_places" : Str), defArgs st_need_places, defBody st_need_places, defScope st_need_places, fun K => He.ga K ("need_places" : Str)⟩
abbrev st_Tour_call : Stmt := ((clsBody (top 37)).getD 2 (.Pass ⟨0, 0, 0, 0⟩))
abbrev fn_Tour_call : Fn := ⟨("__call__" : Str), ("Tour.__call__" : Str), defArgs st_Tour_call, defBody st_Tour_call, defScope st_Tour_call, fun K => He.ma K (He.ga K ("Tour" : Str)) ("__call__" : Str)⟩
abbrev st_Alarm_wide : Stmt := ((clsBody (top 27)).getD 2 (.Pass ⟨0, 0, 0, 0⟩))
abbrev fn_Alarm_wide : Fn := ⟨("wide" : Str), ("Alarm.wide" : Str), defArgs st_Alarm_wide, defBody st_Alarm_wide, defScope st_Alarm_wide, fun K => pg K (He.ga K ("Alarm" : Str)) ("wide" : Str)⟩
abbrev st_Alarm_many : Stmt := ((clsBody (top 27)).getD 3 (.Pass ⟨0, 0, 0, 0⟩))
abbrev fn_Alarm_many : Fn := ⟨("many" : Str), ("Alarm.many" : Str), defArgs st_Alarm_many, defBody st_Alarm_many, defScope st_Alarm_many, fun K => pg K (He.ga K ("Alarm" : Str)) ("many" : Str)⟩
abbrev st_costs_of : Stmt := (top 35)
abbrev fn_costs_of : Fn := ⟨("costs_of" : Str), ("costs_of" : Str), defArgs st_costs_of, defBody st_costs_of, defScope st_costs_of, fun K => He.ga K ("costs_of" : Str)⟩
abbrev st_Tour_look : Stmt := ((clsBody (top 37)).getD 1 (.Pass ⟨0, 0, 0, 0⟩))
abbrev fn_Tour_look : Fn := ⟨("look" : Str), ("Tour.look" : Str), defArgs st_Tour_look, defBody st_Tour_look, defScope st_Tour_look, fun K => He.ma K (He.ga K ("Tour" : Str)) ("look" : Str)⟩
abbrev st_Tour_init : Stmt := ((clsBody (top 37)).getD 0 (.Pass ⟨0, 0, 0, 0⟩))
abbrev fn_Tour_init : Fn := ⟨("__init__" : Str), ("Tour.__init__" : Str), defArgs st_Tour_init, defBody st_Tour_init, defScope st_Tour_init, fun K => He.ma K (He.ga K ("Tour" : Str)) ("__init__" : Str)⟩
abbrev st_most_between : Stmt := (top 40)
abbrev fn_most_between : Fn := ⟨("most_between" : Str), ("most_between" : Str), defArgs st_most_between, defBody st_most_between, defScope st_most_between, fun K => He.ga K ("most_between" : Str)⟩
abbrev st_least_between : Stmt := (top 41)
abbrev fn_least_between : Fn := ⟨("least_between" : Str), ("least_between" : Str), defArgs st_least_between, defBody st_least_between, defScope st_least_between, fun K => He.ga K ("least_between" : Str)⟩
abbrev st_law_most : Stmt := (top 56)
abbrev fn_law_most : Fn := ⟨("_law_most" : Str), ("_law_most" : Str), defArgs st_law_most, defBody st_law_most, defScope st_law_most, fun K => He.ga K ("_law_most" : Str)⟩
abbrev st_Alarm_text : Stmt := ((clsBody (top 27)).getD 4 (.Pass ⟨0, 0, 0, 0⟩))
abbrev fn_Alarm_text : Fn := ⟨("text" : Str), ("Alarm.text" : Str), defArgs st_Alarm_text, defBody st_Alarm_text, defScope st_Alarm_text, fun K => He.ma K (He.ga K ("Alarm" : Str)) ("text" : Str)⟩
abbrev st_Alarm_repr : Stmt := ((clsBody (top 27)).getD 11 (.Pass ⟨0, 0, 0, 0⟩))
abbrev fn_Alarm_repr : Fn := ⟨("__repr__" : Str), ("Alarm.__repr__" : Str), defArgs st_Alarm_repr, defBody st_Alarm_repr, defScope st_Alarm_repr, fun K => He.ma K (He.ga K ("Alarm" : Str)) ("__repr__" : Str)⟩
abbrev st_law_same : Stmt := (top 57)
abbrev fn_law_same : Fn := ⟨("_law_same" : Str), ("_law_same" : Str), defArgs st_law_same, defBody st_law_same, defScope st_law_same, fun K => He.ga K ("_law_same" : Str)⟩
abbrev st_law : Stmt := (top 60)
abbrev fn_law : Fn := ⟨("law" : Str), ("law" : Str), defArgs st_law, defBody st_law, defScope st_law, fun K => He.ga K ("law" : Str)⟩
def fns : List Fn := [fn_law_pen, fn_law_cell_at, fn_law_draw, fn_law_pick, fn_law_pairs, fn_law_hidden, fn_law_text, fn_law_rings, fn_law_is_quiet, fn_law_quiet_text, fn_law_sheet, fn_is_whole, fn_is_between, fn_Alarm_init, fn_law_made, fn_law_now, fn_law_best, fn_law_between, fn_has_signs, fn_is_sheet, fn_need_sheet, fn_are_alarms, fn_need_alarms, fn_Alarm_does_ring, fn_Alarm_places_in, fn_is_quiet, fn_can_be_quiet, fn_has_filling, fn_need_filling, fn_is_place, fn_need_places, fn_Tour_call, fn_Alarm_wide, fn_Alarm_many, fn_costs_of, fn_Tour_look, fn_Tour_init, fn_most_between, fn_least_between, fn_law_most, fn_Alarm_text, fn_Alarm_repr, fn_law_same, fn_law]
def ck : List Ck := [kF ("max" : Str),
  kF ("len" : Str),
  kG ("_law_draw" : Str),
  kG ("_law_pick" : Str),
  kF ("range" : Str),
  kG ("_law_rings" : Str),
  kG ("_law_is_quiet" : Str),
  kG ("_law_hidden" : Str),
  kG ("_law_quiet_text" : Str),
  kG ("_law_text" : Str),
  kY (.ty "int") [("NoneType", false), ("bool", true), ("int", true), ("str", false), ("tuple", false), ("list", false)] [(("Alarm" : Str), false), (("Tour" : Str), false)],
  kF ("isinstance" : Str),
  kF ("int" : Str),
  kY (.ty "bool") [("NoneType", false), ("bool", true), ("int", false), ("str", false), ("tuple", false), ("list", false)] [(("Alarm" : Str), false), (("Tour" : Str), false)],
  kF ("bool" : Str),
  kG ("is_whole" : Str),
  kG ("is_between" : Str),
  kI ("MOST_WIDE" : Str) 8,
  kG ("NoNumber" : Str),
  kX ("NoNumber" : Str),
  kG ("Alarm" : Str),
  kC ("Alarm" : Str),
  kN ("Alarm" : Str) ("span" : Str),
  kN ("Alarm" : Str) ("least" : Str),
  kK ("Alarm" : Str),
  kF ("tuple" : Str),
  kF ("enumerate" : Str),
  kG ("_law_now" : Str),
  kG ("_law_best" : Str),
  kY (.ty "str") [("NoneType", false), ("bool", false), ("int", false), ("str", true), ("tuple", false), ("list", false)] [(("Alarm" : Str), false), (("Tour" : Str), false)],
  kF ("str" : Str),
  kI ("MOST_MINUTES" : Str) 30,
  kF ("all" : Str),
  kG ("has_signs" : Str),
  kS ("OPEN" : Str) ("?" : Str),
  kS ("GOOD" : Str) ("." : Str),
  kS ("BAD" : Str) ("x" : Str),
  kG ("is_sheet" : Str),
  kG ("NoSheet" : Str),
  kX ("NoSheet" : Str),
  kY (.ty "tuple") [("NoneType", false), ("bool", false), ("int", false), ("str", false), ("tuple", true), ("list", false)] [(("Alarm" : Str), false), (("Tour" : Str), false)],
  kI ("MOST_ALARMS" : Str) 4,
  kY (.own ("Alarm" : Str)) [("NoneType", false), ("bool", false), ("int", false), ("str", false), ("tuple", false), ("list", false)] [(("Alarm" : Str), true), (("Tour" : Str), false)],
  kG ("are_alarms" : Str),
  kG ("NoAlarms" : Str),
  kX ("NoAlarms" : Str),
  kM ("Alarm" : Str) ("does_ring" : Str),
  kM ("Alarm" : Str) ("places_in" : Str),
  kG ("is_quiet" : Str),
  kR ("OPEN" : Str) ("GOOD" : Str) ("?" : Str) ("." : Str),
  kG ("need_sheet" : Str),
  kG ("need_alarms" : Str),
  kG ("can_be_quiet" : Str),
  kG ("has_filling" : Str),
  kG ("NoFilling" : Str),
  kX ("NoFilling" : Str),
  kG ("is_place" : Str),
  kG ("NoPlace" : Str),
  kX ("NoPlace" : Str),
  kG ("need_filling" : Str),
  kG ("Tour" : Str),
  kC ("Tour" : Str),
  kN ("Tour" : Str) ("far" : Str),
  kP ("Alarm" : Str) ("wide" : Str),
  kP ("Alarm" : Str) ("many" : Str),
  kF ("min" : Str),
  kN ("Tour" : Str) ("before" : Str),
  kG ("costs_of" : Str),
  kM ("Tour" : Str) ("look" : Str),
  kG ("need_places" : Str),
  kK ("Tour" : Str),
  kO ("Tour" : Str),
  kS ("OF" : Str) ("of" : Str),
  kM ("Alarm" : Str) ("text" : Str),
  kF ("repr" : Str),
  kG ("_law_pen" : Str),
  kG ("_law_cell_at" : Str),
  kG ("_law_pairs" : Str),
  kG ("_law_made" : Str),
  kG ("_law_sheet" : Str),
  kG ("_law_most" : Str),
  kG ("_law_between" : Str),
  kG ("least_between" : Str),
  kG ("most_between" : Str),
  kG ("_law_same" : Str),
  kM ("Alarm" : Str) ("__repr__" : Str),
  kG ("law" : Str)]
section
variable {P : Program} {w : World} {K : PySem.W.Frag} {mg : Str → Option Value} {base : Heap}
theorem sc_law_pen : FnScope [("_law_cell" : Str)] [("_law_cell" : Str)] (defScope st_law_pen) := ⟨rfl, rfl, rfl, by decide +kernel, rfl, by decide +kernel, by decide +kernel⟩
theorem ok_law_pen (Z : Fx ck fns K mg) : OkFn P w K mg base 1 (fn_law_pen.adr K) [("_law_cell" : Str)] s_law_pen :=
  mk_fn (d := fn_law_pen) (N := [("_law_cell" : Str)]) (ps := [("_law_cell" : Str)]) Z 0 (k := 0) (L := []) (m := m_law_pen) sc_law_pen rfl (fun _ _ _ _ _ _ us hl => match us, hl with | [_], _ => rfl) fun cdv A outer s H E hr tk =>
  (dss_one (ds_ret (do_lst (da_cons (b_max2 rfl (Z.free 0) (da_cons dv_int (da_cons (dv_op op_sub v_sub (dv_var 0) (dv_op op_pow v_pow dv_int dv_int)) da_nil))) (da_cons (dv_op op_mod v_mod (dv_var 0) dv_int) (da_cons dv_int da_nil))))))
theorem sc_law_cell_at : FnScope [("_law_script" : Str), ("_law_k" : Str)] [("_law_script" : Str), ("_law_k" : Str)] (defScope st_law_cell_at) := ⟨rfl, rfl, rfl, by decide +kernel, rfl, by decide +kernel, by decide +kernel⟩
theorem ok_law_cell_at (Z : Fx ck fns K mg) : OkFn P w K mg base 1 (fn_law_cell_at.adr K) [("_law_script" : Str), ("_law_k" : Str)] s_law_cell_at :=
  mk_fn (d := fn_law_cell_at) (N := [("_law_script" : Str), ("_law_k" : Str)]) (ps := [("_law_script" : Str), ("_law_k" : Str)]) Z 1 (k := 0) (L := []) (m := m_law_cell_at) sc_law_cell_at rfl (fun _ _ _ _ _ _ us hl => match us, hl with | [_, _], _ => rfl) fun cdv A outer s H E hr tk =>
  (dss_cons (ds_if (dt_cmp op_lt v_cmpI (dv_var 1) (b_lenP 0 (Z.free 1) rfl (Or.inl rfl)) (by rfl)) (dss_one (ds_ret (do_of (b_ixP 0 rfl (Or.inl rfl) (dv_var 1))))) dss_nil)
  (dss_one (ds_ret (do_of dv_int))))
theorem sc_law_draw : FnScope [("_law_pen_here" : Str), ("_law_size" : Str), ("_law_digit" : Str), ("_law_stir" : Str)] [("_law_pen_here" : Str), ("_law_size" : Str)] (defScope st_law_draw) := ⟨rfl, rfl, rfl, by decide +kernel, rfl, by decide +kernel, by decide +kernel⟩
theorem ok_law_draw (Z : Fx ck fns K mg) : OkFn P w K mg base 1 (fn_law_draw.adr K) [("_law_pen_here" : Str), ("_law_size" : Str)] s_law_draw :=
  mk_fn (d := fn_law_draw) (N := [("_law_pen_here" : Str), ("_law_size" : Str), ("_law_digit" : Str), ("_law_stir" : Str)]) (ps := [("_law_pen_here" : Str), ("_law_size" : Str)]) Z 2 (k := 0) (L := [0]) (m := m_law_draw) sc_law_draw rfl (fun _ _ _ _ _ _ us hl => match us, hl with | [_, _], _ => rfl) fun cdv A outer s H E hr tk =>
  (dss_cons (ds_if (dt_cmp op_gt v_cmpI (b_ixP 0 rfl (Or.inl rfl) dv_int) dv_int (by rfl)) (dss_cons (ds_set 2 sc_law_draw.nd rfl (Or.inl rfl) rfl (do_of (dv_op op_mod v_mod (b_ixP 0 rfl (Or.inl rfl) dv_int) (dv_var 1))))
  (dss_cons (ds_setIx 0 set_list v_setIx rfl (Or.inl rfl) (dv_op op_fdivW v_fdiv (b_ixP 0 rfl (Or.inl rfl) dv_int) (dv_var 1)) dv_int)
  (dss_one (ds_ret (do_mv 2))))) dss_nil)
  (dss_cons (ds_setIx 0 set_list v_setIx rfl (Or.inl rfl) (dv_op o_add v_add (b_ixP 0 rfl (Or.inl rfl) dv_int) dv_int) dv_int)
  (dss_cons (ds_set 3 sc_law_draw.nd rfl (Or.inl rfl) rfl (do_of (dv_op op_mod v_mod (dv_op o_mul v_mul (dv_op o_add v_add (b_ixP 0 rfl (Or.inl rfl) dv_int) (dv_op o_mul v_mul dv_int (b_ixP 0 rfl (Or.inl rfl) dv_int))) (dv_op o_add v_add dv_int (dv_op o_mul v_mul dv_int (b_ixP 0 rfl (Or.inl rfl) dv_int)))) dv_int)))
  (dss_cons (ds_set 3 sc_law_draw.nd rfl (Or.inl rfl) rfl (do_of (dv_op op_mod v_mod (dv_op o_add v_add (dv_op o_add v_add (dv_op o_mul v_mul (dv_var 3) (dv_var 3)) (dv_op o_mul v_mul dv_int (b_ixP 0 rfl (Or.inl rfl) dv_int))) dv_int) dv_int)))
  (dss_one (ds_ret (do_of (dv_op op_mod v_mod (dv_op op_fdivW v_fdiv (dv_op op_mod v_mod (dv_op o_mul v_mul (dv_var 3) dv_int) dv_int) dv_int) (dv_var 1)))))))))
theorem sc_law_pick : FnScope [("_law_pen_here" : Str), ("_law_things" : Str)] [("_law_pen_here" : Str), ("_law_things" : Str)] (defScope st_law_pick) := ⟨rfl, rfl, rfl, by decide +kernel, rfl, by decide +kernel, by decide +kernel⟩
theorem ok_law_pick (Z : Fx ck fns K mg) : OkFn P w K mg base 2 (fn_law_pick.adr K) [("_law_pen_here" : Str), ("_law_things" : Str)] s_law_pick :=
  mk_fn (d := fn_law_pick) (N := [("_law_pen_here" : Str), ("_law_things" : Str)]) (ps := [("_law_pen_here" : Str), ("_law_things" : Str)]) Z 3 (k := 1) (L := [0]) (m := m_law_pick) sc_law_pick rfl (fun _ _ _ _ _ _ us hl => match us, hl with | [_, _], _ => rfl) fun cdv A outer s H E hr tk =>
  (dss_one (ds_ret (do_of (b_ixP 1 rfl (Or.inl rfl) (dv_of (c_callIO 0 (ok_law_draw Z) hr (by decide) (Z.glo 2) tk rfl (Or.inl rfl) (da_cons (b_lenP 1 (Z.free 1) rfl (Or.inl rfl)) da_nil)))))))
theorem sc_law_pairs : FnScope [("_law_pen_here" : Str), ("_law_found" : Str), ("_law_lap" : Str), ("_law_wide" : Str), ("_law_low" : Str)] [("_law_pen_here" : Str)] (defScope st_law_pairs) := ⟨rfl, rfl, rfl, by decide +kernel, rfl, by decide +kernel, by decide +kernel⟩
theorem ok_law_pairs (Z : Fx ck fns K mg) : OkFn P w K mg base 3 (fn_law_pairs.adr K) [("_law_pen_here" : Str)] s_law_pairs :=
  mk_fn (d := fn_law_pairs) (N := [("_law_pen_here" : Str), ("_law_found" : Str), ("_law_lap" : Str), ("_law_wide" : Str), ("_law_low" : Str)]) (ps := [("_law_pen_here" : Str)]) Z 4 (k := 2) (L := [0]) (m := m_law_pairs) sc_law_pairs rfl (fun _ _ _ _ _ _ us hl => match us, hl with | [_], _ => rfl) fun cdv A outer s H E hr tk =>
  (dss_cons (ds_set 1 sc_law_pairs.nd rfl (Or.inl rfl) rfl (do_lst da_nil))
  (dss_cons (ds_for (passes_of rfl) rfl (di_range1 rfl (Z.free 4) (da_cons (dv_of (c_callIO 0 (ok_law_pick Z) hr (by decide) (Z.glo 3) tk rfl (Or.inl rfl) (da_cons (dv_of (do_lst (da_cons dv_int (da_cons dv_int (da_cons dv_int (da_cons dv_int (da_cons dv_int (da_cons dv_int (da_cons dv_int da_nil))))))))) da_nil))) da_nil)) (dg_name 2 sc_law_pairs.nd rfl (Or.inl rfl))
  (dss_cons (ds_set 3 sc_law_pairs.nd rfl (Or.inl rfl) rfl (do_of (dv_op o_add v_add dv_int (dv_of (c_callIO 0 (ok_law_draw Z) hr (by decide) (Z.glo 2) tk rfl (Or.inl rfl) (da_cons dv_int da_nil))))))
  (dss_cons (ds_set 4 sc_law_pairs.nd rfl (Or.inl rfl) rfl (do_of (dv_if (dt_w (dw_and (dt_cmp op_gt v_cmpI (dv_var 3) dv_int (by rfl)) (dw_and1 (dt_cmp op_gt v_cmpI (dv_of (c_callIO 0 (ok_law_draw Z) hr (by decide) (Z.glo 2) tk rfl (Or.inl rfl) (da_cons dv_int da_nil))) dv_int (by rfl))))) dv_int dv_int)))
  (dss_one (ds_expr (do_of (b_app 1 rfl (Or.inl rfl) (da_cons (dv_tup (da_cons (dv_var 3) (da_cons (dv_op o_add v_add (dv_var 4) (dv_of (c_callIO 0 (ok_law_draw Z) hr (by decide) (Z.glo 2) tk rfl (Or.inl rfl) (da_cons (dv_op o_add v_add (dv_op op_sub v_sub (dv_var 3) (dv_var 4)) dv_int) da_nil)))) da_nil))) da_nil))))))) rfl)
  (dss_cons (ds_if (dt_w (dw_and (dt_cmp (o_ne hr.units) v_ne (dv_var 1) (dv_of (do_lst da_nil)) (by rfl)) (dw_and1 (dt_cmp (o_eq hr.units) v_eq (dv_of (c_callIO 0 (ok_law_draw Z) hr (by decide) (Z.glo 2) tk rfl (Or.inl rfl) (da_cons dv_int da_nil))) dv_int (by rfl))))) (dss_one (ds_set 1 sc_law_pairs.nd rfl (Or.inl rfl) rfl (do_of (b_sl (dv_op o_add v_add (dv_var 1) (b_sl (dv_var 1) dp_none (dp_some dv_int))) dp_none (dp_some dv_int))))) dss_nil)
  (dss_one (ds_ret (do_mv 1))))))
theorem sc_law_hidden : FnScope [("_law_pen_here" : Str), ("_law_text_here" : Str), ("_law_part" : Str), ("_law_sign" : Str)] [("_law_pen_here" : Str), ("_law_text_here" : Str), ("_law_part" : Str)] (defScope st_law_hidden) := ⟨rfl, rfl, rfl, by decide +kernel, rfl, by decide +kernel, by decide +kernel⟩
theorem ok_law_hidden (Z : Fx ck fns K mg) : OkFn P w K mg base 2 (fn_law_hidden.adr K) [("_law_pen_here" : Str), ("_law_text_here" : Str), ("_law_part" : Str)] s_law_hidden :=
  mk_fn (d := fn_law_hidden) (N := [("_law_pen_here" : Str), ("_law_text_here" : Str), ("_law_part" : Str), ("_law_sign" : Str)]) (ps := [("_law_pen_here" : Str), ("_law_text_here" : Str), ("_law_part" : Str)]) Z 5 (k := 1) (L := [0]) (m := m_law_hidden) sc_law_hidden rfl (fun _ _ _ _ _ _ us hl => match us, hl with | [_, _, _], _ => rfl) fun cdv A outer s H E hr tk =>
  (dss_one (ds_ret (do_of (b_join dv_str (da_cons (dv_of (do_lc [(("_law_sign" : Str), 3)] rfl sc_law_hidden.nd (blkOk_by (by kernel_rfl)) (by decide) (di_any (dv_var 1)) (fun _ _ _ _ _ => (dg_name 3 sc_law_hidden.nd rfl (Or.inl rfl))) (fun _ _ _ _ _ => dts_nil) (fun _ _ _ _ _ => (dv_if (dt_cmp op_lt v_cmpI (dv_of (c_callIO 0 (ok_law_draw Z) hr (by decide) (Z.glo 2) tkF rfl (by first | exact Or.inl rfl | exact Or.inr (Or.inl rfl) | exact Or.inr (Or.inr rfl)) (da_cons dv_int da_nil))) (dv_var 2) (by rfl)) dv_str (dv_var 3))))) da_nil)))))
theorem sc_law_text : FnScope [("_law_pen_here" : Str), ("_law_size" : Str), ("_law_part" : Str), ("_law_lap" : Str)] [("_law_pen_here" : Str), ("_law_size" : Str), ("_law_part" : Str)] (defScope st_law_text) := ⟨rfl, rfl, rfl, by decide +kernel, rfl, by decide +kernel, by decide +kernel⟩
theorem ok_law_text (Z : Fx ck fns K mg) : OkFn P w K mg base 2 (fn_law_text.adr K) [("_law_pen_here" : Str), ("_law_size" : Str), ("_law_part" : Str)] s_law_text :=
  mk_fn (d := fn_law_text) (N := [("_law_pen_here" : Str), ("_law_size" : Str), ("_law_part" : Str), ("_law_lap" : Str)]) (ps := [("_law_pen_here" : Str), ("_law_size" : Str), ("_law_part" : Str)]) Z 6 (k := 1) (L := [0]) (m := m_law_text) sc_law_text rfl (fun _ _ _ _ _ _ us hl => match us, hl with | [_, _, _], _ => rfl) fun cdv A outer s H E hr tk =>
  (dss_one (ds_ret (do_of (b_join dv_str (da_cons (dv_of (do_lc [(("_law_lap" : Str), 3)] rfl sc_law_text.nd (blkOk_by (by kernel_rfl)) (by decide) (di_range1 rfl (Z.free 4) (da_cons (dv_var 1) da_nil)) (fun _ _ _ _ _ => (dg_name 3 sc_law_text.nd rfl (Or.inl rfl))) (fun _ _ _ _ _ => dts_nil) (fun _ _ _ _ _ => (dv_if (dt_cmp (o_eq hr.units) v_eq (dv_of (c_callIO 0 (ok_law_draw Z) hr (by decide) (Z.glo 2) tkF rfl (by first | exact Or.inl rfl | exact Or.inr (Or.inl rfl) | exact Or.inr (Or.inr rfl)) (da_cons (dv_var 2) da_nil))) dv_int (by rfl)) dv_str dv_str)))) da_nil)))))
theorem sc_law_rings : FnScope [("_law_pair" : Str), ("_law_text_here" : Str), ("_law_place" : Str), ("_law_wide" : Str), ("_law_many" : Str)] [("_law_pair" : Str), ("_law_text_here" : Str), ("_law_place" : Str)] (defScope st_law_rings) := ⟨rfl, rfl, rfl, by decide +kernel, rfl, by decide +kernel, by decide +kernel⟩
theorem ok_law_rings (Z : Fx ck fns K mg) : OkFn P w K mg base 1 (fn_law_rings.adr K) [("_law_pair" : Str), ("_law_text_here" : Str), ("_law_place" : Str)] s_law_rings :=
  mk_fn (d := fn_law_rings) (N := [("_law_pair" : Str), ("_law_text_here" : Str), ("_law_place" : Str), ("_law_wide" : Str), ("_law_many" : Str)]) (ps := [("_law_pair" : Str), ("_law_text_here" : Str), ("_law_place" : Str)]) Z 7 (k := 0) (L := []) (m := m_law_rings) sc_law_rings rfl (fun _ _ _ _ _ _ us hl => match us, hl with | [_, _, _], _ => rfl) fun cdv A outer s H E hr tk =>
  (dss_cons (ds_asg (dv_var 0) (dg_tup 2 rfl (dgs_cons (dg_name 3 sc_law_rings.nd rfl (Or.inl rfl)) (dgs_cons (dg_name 4 sc_law_rings.nd rfl (Or.inl rfl)) dgs_nil))) rfl)
  (dss_one (ds_ret (do_of (dv_and (dv_cmp op_le v_cmpI (dv_op o_add v_add (dv_var 2) (dv_var 3)) (b_lenP 1 (Z.free 1) rfl (Or.inl rfl)) (by rfl)) (dv_one (dv_cmp op_ge v_cmpI (b_cnt (b_sl (dv_var 1) (dp_some (dv_var 2)) (dp_some (dv_op o_add v_add (dv_var 2) (dv_var 3)))) (da_cons dv_str da_nil)) (dv_var 4) (by rfl))))))))
theorem sc_law_is_quiet : FnScope [("_law_pairs_here" : Str), ("_law_text_here" : Str), ("_law_pair" : Str), ("_law_place" : Str)] [("_law_pairs_here" : Str), ("_law_text_here" : Str)] (defScope st_law_is_quiet) := ⟨rfl, rfl, rfl, by decide +kernel, rfl, by decide +kernel, by decide +kernel⟩
theorem ok_law_is_quiet (Z : Fx ck fns K mg) : OkFn P w K mg base 2 (fn_law_is_quiet.adr K) [("_law_pairs_here" : Str), ("_law_text_here" : Str)] s_law_is_quiet :=
  mk_fn (d := fn_law_is_quiet) (N := [("_law_pairs_here" : Str), ("_law_text_here" : Str), ("_law_pair" : Str), ("_law_place" : Str)]) (ps := [("_law_pairs_here" : Str), ("_law_text_here" : Str)]) Z 8 (k := 1) (L := []) (m := m_law_is_quiet) sc_law_is_quiet rfl (fun _ _ _ _ _ _ us hl => match us, hl with | [_, _], _ => rfl) fun cdv A outer s H E hr tk =>
  (dss_cons (ds_for (passes_of rfl) rfl (di_any (dv_var 0)) (dg_name 2 sc_law_is_quiet.nd rfl (Or.inr rfl))
  (dss_one (ds_if (dt_cmp (o_ne hr.units) v_ne (dv_of (do_lc [(("_law_place" : Str), 3)] rfl sc_law_is_quiet.nd (blkOk_by (by kernel_rfl)) (by decide) (di_range1 rfl (Z.free 4) (da_cons (b_lenP 1 (Z.free 1) rfl (Or.inr (Or.inl rfl))) da_nil)) (fun _ _ _ _ _ => (dg_name 3 sc_law_is_quiet.nd rfl (Or.inl rfl))) (fun _ _ _ _ _ => (dts_one (dt_val (dv_of (c_call (ok_law_rings Z) hr (by decide) (Z.glo 5) tkF (da_cons (dv_var 2) (da_cons (dv_var 1) (da_cons (dv_var 3) da_nil)))))))) (fun _ _ _ _ _ => dv_int))) (dv_of (do_lst da_nil)) (by rfl)) (dss_one (ds_ret (do_of dv_bl))) dss_nil)) rfl)
  (dss_one (ds_ret (do_of dv_bl))))
theorem sc_law_quiet_text : FnScope [("_law_pen_here" : Str), ("_law_pairs_here" : Str), ("_law_size" : Str), ("_law_text_here" : Str), ("_law_lap" : Str), ("_law_sign" : Str), ("_law_whole" : Str)] [("_law_pen_here" : Str), ("_law_pairs_here" : Str), ("_law_size" : Str)] (defScope st_law_quiet_text) := ⟨rfl, rfl, rfl, by decide +kernel, rfl, by decide +kernel, by decide +kernel⟩
theorem ok_law_quiet_text (Z : Fx ck fns K mg) : OkFn P w K mg base 3 (fn_law_quiet_text.adr K) [("_law_pen_here" : Str), ("_law_pairs_here" : Str), ("_law_size" : Str)] s_law_quiet_text :=
  mk_fn (d := fn_law_quiet_text) (N := [("_law_pen_here" : Str), ("_law_pairs_here" : Str), ("_law_size" : Str), ("_law_text_here" : Str), ("_law_lap" : Str), ("_law_sign" : Str), ("_law_whole" : Str)]) (ps := [("_law_pen_here" : Str), ("_law_pairs_here" : Str), ("_law_size" : Str)]) Z 9 (k := 2) (L := [0]) (m := m_law_quiet_text) sc_law_quiet_text rfl (fun _ _ _ _ _ _ us hl => match us, hl with | [_, _, _], _ => rfl) fun cdv A outer s H E hr tk =>
  (dss_cons (ds_set 3 sc_law_quiet_text.nd rfl (Or.inl rfl) rfl (do_of dv_str))
  (dss_cons (ds_for (passes_of rfl) rfl (di_range1 rfl (Z.free 4) (da_cons (dv_var 2) da_nil)) (dg_name 4 sc_law_quiet_text.nd rfl (Or.inl rfl))
  (dss_cons (ds_set 5 sc_law_quiet_text.nd rfl (Or.inl rfl) rfl (do_of (dv_if (dt_cmp op_gt v_cmpI (dv_of (c_callIO 0 (ok_law_draw Z) hr (by decide) (Z.glo 2) tk rfl (Or.inl rfl) (da_cons dv_int da_nil))) dv_int (by rfl)) dv_str dv_str)))
  (dss_cons (ds_set 6 sc_law_quiet_text.nd rfl (Or.inl rfl) rfl (do_of (dv_op o_add v_add (dv_op o_add v_add (dv_var 3) (dv_var 5)) (dv_op o_mul v_mul dv_str (dv_op op_sub v_sub (dv_op op_sub v_sub (dv_var 2) (dv_var 4)) dv_int)))))
  (dss_one (ds_set 3 sc_law_quiet_text.nd rfl (Or.inl rfl) rfl (do_of (dv_op o_add v_add (dv_var 3) (dv_if (dt_val (dv_of (c_call (ok_law_is_quiet Z) hr (by decide) (Z.glo 6) tk (da_cons (dv_var 1) (da_cons (dv_var 6) da_nil))))) (dv_var 5) dv_str))))))) rfl)
  (dss_one (ds_ret (do_mv 3)))))
theorem sc_law_sheet : FnScope [("_law_pen_here" : Str), ("_law_pairs_here" : Str), ("_law_cap" : Str), ("_law_size" : Str), ("_law_way" : Str)] [("_law_pen_here" : Str), ("_law_pairs_here" : Str), ("_law_cap" : Str)] (defScope st_law_sheet) := ⟨rfl, rfl, rfl, by decide +kernel, rfl, by decide +kernel, by decide +kernel⟩
theorem ok_law_sheet (Z : Fx ck fns K mg) : OkFn P w K mg base 4 (fn_law_sheet.adr K) [("_law_pen_here" : Str), ("_law_pairs_here" : Str), ("_law_cap" : Str)] s_law_sheet :=
  mk_fn (d := fn_law_sheet) (N := [("_law_pen_here" : Str), ("_law_pairs_here" : Str), ("_law_cap" : Str), ("_law_size" : Str), ("_law_way" : Str)]) (ps := [("_law_pen_here" : Str), ("_law_pairs_here" : Str), ("_law_cap" : Str)]) Z 10 (k := 3) (L := [0]) (m := m_law_sheet) sc_law_sheet rfl (fun _ _ _ _ _ _ us hl => match us, hl with | [_, _, _], _ => rfl) fun cdv A outer s H E hr tk =>
  (dss_cons (ds_par 3 4 rfl sc_law_sheet.nd rfl rfl (by decide) rfl rfl (da_cons (dv_op o_add v_add dv_int (dv_of (c_callIO 0 (ok_law_draw Z) hr (by decide) (Z.glo 2) tk rfl (Or.inl rfl) (da_cons (dv_var 2) da_nil)))) (da_cons (dv_of (c_callIO 0 (ok_law_draw Z) hr (by decide) (Z.glo 2) tk rfl (Or.inl rfl) (da_cons dv_int da_nil))) da_nil)) rfl (by rfl))
  (dss_cons (ds_if (dt_cmp (o_eq hr.units) v_eq (dv_var 4) dv_int (by rfl)) (dss_one (ds_ret (do_of (dv_op o_mul v_mul dv_str (dv_var 3))))) dss_nil)
  (dss_cons (ds_if (dt_cmp op_lt v_cmpI (dv_var 4) dv_int (by rfl)) (dss_one (ds_ret (c_callIO 0 (ok_law_hidden Z) hr (by decide) (Z.glo 7) tk rfl (Or.inl rfl) (da_cons (dv_of (c_callIO 0 (ok_law_quiet_text Z) hr (by decide) (Z.glo 8) tk rfl (Or.inl rfl) (da_cons (dv_var 1) (da_cons (dv_var 3) da_nil)))) (da_cons (dv_op o_add v_add dv_int (dv_of (c_callIO 0 (ok_law_draw Z) hr (by decide) (Z.glo 2) tk rfl (Or.inl rfl) (da_cons dv_int da_nil)))) da_nil))))) dss_nil)
  (dss_one (ds_ret (c_callIO 0 (ok_law_hidden Z) hr (by decide) (Z.glo 7) tk rfl (Or.inl rfl) (da_cons (dv_of (c_callIO 0 (ok_law_text Z) hr (by decide) (Z.glo 9) tk rfl (Or.inl rfl) (da_cons (dv_var 3) (da_cons dv_int da_nil)))) (da_cons (dv_op o_add v_add dv_int (dv_of (c_callIO 0 (ok_law_draw Z) hr (by decide) (Z.glo 2) tk rfl (Or.inl rfl) (da_cons dv_int da_nil)))) da_nil))))))))
theorem sc_is_whole : FnScope [("thing" : Str)] [("thing" : Str)] (defScope st_is_whole) := ⟨rfl, rfl, rfl, by decide +kernel, rfl, by decide +kernel, by decide +kernel⟩
theorem ok_is_whole (Z : Fx ck fns K mg) : OkFn P w K mg base 1 (fn_is_whole.adr K) [("thing" : Str)] s_is_whole :=
  mk_fn (d := fn_is_whole) (N := [("thing" : Str)]) (ps := [("thing" : Str)]) Z 11 (k := 0) (L := []) (m := m_is_whole) sc_is_whole rfl (fun _ _ _ _ _ _ us hl => match us, hl with | [_], _ => rfl) fun cdv A outer s H E hr tk =>
  (dss_one (ds_ret (do_of (dv_and (b_isiT (Z.isf 10 (u := .ty "int")) (Z.free 11) (Z.free 12) bt_int (dv_var 0)) (dv_one (dv_not (b_isiT (Z.isf 13 (u := .ty "bool")) (Z.free 11) (Z.free 14) bt_bool (dv_var 0))))))))
theorem sc_is_between : FnScope [("thing" : Str), ("low" : Str), ("high" : Str)] [("thing" : Str), ("low" : Str), ("high" : Str)] (defScope st_is_between) := ⟨rfl, rfl, rfl, by decide +kernel, rfl, by decide +kernel, by decide +kernel⟩
theorem ok_is_between (Z : Fx ck fns K mg) : OkFn P w K mg base 2 (fn_is_between.adr K) [("thing" : Str), ("low" : Str), ("high" : Str)] s_is_between :=
  mk_fn (d := fn_is_between) (N := [("thing" : Str), ("low" : Str), ("high" : Str)]) (ps := [("thing" : Str), ("low" : Str), ("high" : Str)]) Z 12 (k := 1) (L := []) (m := m_is_between) sc_is_between rfl (fun _ _ _ _ _ _ us hl => match us, hl with | [_, _, _], _ => rfl) fun cdv A outer s H E hr tk =>
  (dss_one (ds_ret (do_of (dv_and (dv_of (c_call (ok_is_whole Z) hr (by decide) (Z.glo 15) tk (da_cons (dv_var 0) da_nil))) (dv_one (dv_chain op_le v_cmpI' op_le v_cmpI (dv_var 1) (dv_var 0) (dv_var 2)))))))
theorem sc_Alarm_init : FnScope [("self" : Str), ("wide" : Str), ("many" : Str)] [("self" : Str), ("wide" : Str), ("many" : Str)] (defScope st_Alarm_init) := ⟨rfl, rfl, rfl, by decide +kernel, rfl, by decide +kernel, by decide +kernel⟩
theorem ok_Alarm_init (Z : Fx ck fns K mg) : OkFn P w K mg base 3 (fn_Alarm_init.adr K) [("self" : Str), ("wide" : Str), ("many" : Str)] s_Alarm_init :=
  mk_fn (d := fn_Alarm_init) (N := [("self" : Str), ("wide" : Str), ("many" : Str)]) (ps := [("self" : Str), ("wide" : Str), ("many" : Str)]) Z 13 (k := 2) (L := [0]) (m := m_Alarm_init) sc_Alarm_init rfl (fun _ _ _ _ _ _ us hl => match us, hl with | [_, _, _], _ => rfl) fun cdv A outer s H E hr tk =>
  (dss_cons (ds_if (dt_w (dw_or (dt_not (dt_val (dv_of (c_call (ok_is_between Z) hr (by decide) (Z.glo 16) tk (da_cons (dv_var 1) (da_cons dv_int (da_cons (dv_gi (Z.int 17)) da_nil))))))) (dw_or1 (dt_not (dt_val (dv_of (c_call (ok_is_between Z) hr (by decide) (Z.glo 16) tk (da_cons (dv_var 2) (da_cons dv_int (da_cons (dv_var 1) da_nil)))))))))) (dss_one (ds_rs rfl tk (Z.glo 18) (Z.says.ck 19 rfl))) dss_nil)
  (dss_cons (ds_fld 0 (c := ("Alarm" : Str)) ⟨(Z.glo 20), Z.cls 21⟩ (Z.noat 22) rfl (Or.inl rfl) (dv_var 1))
  (dss_one (ds_fld 0 (c := ("Alarm" : Str)) ⟨(Z.glo 20), Z.cls 21⟩ (Z.noat 23) rfl (Or.inl rfl) (dv_var 2)))))
theorem sc_law_made : FnScope [("_law_pairs_here" : Str), ("_law_wide" : Str), ("_law_many" : Str)] [("_law_pairs_here" : Str)] (defScope st_law_made) := ⟨rfl, rfl, rfl, by decide +kernel, rfl, by decide +kernel, by decide +kernel⟩
theorem ok_law_made (Z : Fx ck fns K mg) : OkFn P w K mg base 5 (fn_law_made.adr K) [("_law_pairs_here" : Str)] s_law_made :=
  mk_fn (d := fn_law_made) (N := [("_law_pairs_here" : Str), ("_law_wide" : Str), ("_law_many" : Str)]) (ps := [("_law_pairs_here" : Str)]) Z 14 (k := 4) (L := []) (m := m_law_made) sc_law_made rfl (fun _ _ _ _ _ _ us hl => match us, hl with | [_], _ => rfl) fun cdv A outer s H E hr tk =>
  (dss_one (ds_ret (do_of (b_tuple (Z.free 25) (dv_of (do_lc [(("_law_wide" : Str), 1), (("_law_many" : Str), 2)] rfl sc_law_made.nd (blkOk_by (by kernel_rfl)) (by decide) (di_any (dv_var 0)) (fun _ _ _ _ _ => (dg_tup 2 rfl (dgs_cons (dg_name 1 sc_law_made.nd rfl (Or.inl rfl)) (dgs_cons (dg_name 2 sc_law_made.nd rfl (Or.inl rfl)) dgs_nil)))) (fun _ _ _ _ _ => dts_nil) (fun _ _ _ _ _ => (dv_of (c_make (Z.glo 20) (Z.mkr 24) (ok_Alarm_init Z) hr (by decide) tkF (da_cons (dv_var 1) (da_cons (dv_var 2) da_nil)))))))))))
theorem sc_law_now : FnScope [("_law_pairs_here" : Str), ("_law_text_here" : Str), ("_law_at" : Str), ("_law_wide" : Str), ("_law_many" : Str)] [("_law_pairs_here" : Str), ("_law_text_here" : Str)] (defScope st_law_now) := ⟨rfl, rfl, rfl, by decide +kernel, rfl, by decide +kernel, by decide +kernel⟩
theorem ok_law_now (Z : Fx ck fns K mg) : OkFn P w K mg base 1 (fn_law_now.adr K) [("_law_pairs_here" : Str), ("_law_text_here" : Str)] s_law_now :=
  mk_fn (d := fn_law_now) (N := [("_law_pairs_here" : Str), ("_law_text_here" : Str), ("_law_at" : Str), ("_law_wide" : Str), ("_law_many" : Str)]) (ps := [("_law_pairs_here" : Str), ("_law_text_here" : Str)]) Z 15 (k := 0) (L := []) (m := m_law_now) sc_law_now rfl (fun _ _ _ _ _ _ us hl => match us, hl with | [_, _], _ => rfl) fun cdv A outer s H E hr tk =>
  (dss_one (ds_ret (do_of (b_tuple (Z.free 25) (dv_of (do_lc [(("_law_at" : Str), 2), (("_law_wide" : Str), 3), (("_law_many" : Str), 4)] rfl sc_law_now.nd (blkOk_by (by kernel_rfl)) (by decide) (di_enum (Z.free 26) (da_cons (dv_var 0) da_nil)) (fun _ _ _ _ _ => (dg_tup 2 rfl (dgs_cons (dg_name 2 sc_law_now.nd rfl (Or.inl rfl)) (dgs_cons (dg_tup 2 rfl (dgs_cons (dg_name 3 sc_law_now.nd rfl (Or.inl rfl)) (dgs_cons (dg_name 4 sc_law_now.nd rfl (Or.inl rfl)) dgs_nil))) dgs_nil)))) (fun _ _ _ _ _ => (dts_one (dt_w (dw_and (dt_cmp op_ge v_cmpI (b_lenP 1 (Z.free 1) rfl (by first | exact Or.inl rfl | exact Or.inr (Or.inl rfl) | exact Or.inr (Or.inr rfl))) (dv_var 3) (by rfl)) (dw_and1 (dt_cmp op_ge v_cmpI (b_cnt (b_sl (dv_var 1) (dp_some (dv_un un_neg v_neg (dv_var 3))) dp_none) (da_cons dv_str da_nil)) (dv_var 4) (by rfl))))))) (fun _ _ _ _ _ => (dv_var 2))))))))
theorem sc_law_best : FnScope [("_law_sheet_here" : Str), ("_law_pairs_here" : Str), ("_law_weights" : Str), ("_law_found" : Str), ("_law_minute" : Str), ("_law_sign" : Str), ("_law_later" : Str), ("_law_end" : Str), ("_law_worth" : Str), ("_law_one" : Str), ("_law_text_here" : Str), ("_law_more" : Str)] [("_law_sheet_here" : Str), ("_law_pairs_here" : Str), ("_law_weights" : Str)] (defScope st_law_best) := ⟨rfl, rfl, rfl, by decide +kernel, rfl, by decide +kernel, by decide +kernel⟩
theorem ok_law_best (Z : Fx ck fns K mg) : OkFn P w K mg base 2 (fn_law_best.adr K) [("_law_sheet_here" : Str), ("_law_pairs_here" : Str), ("_law_weights" : Str)] s_law_best :=
  mk_fn (d := fn_law_best) (N := [("_law_sheet_here" : Str), ("_law_pairs_here" : Str), ("_law_weights" : Str), ("_law_found" : Str), ("_law_minute" : Str), ("_law_sign" : Str), ("_law_later" : Str), ("_law_end" : Str), ("_law_worth" : Str), ("_law_one" : Str), ("_law_text_here" : Str), ("_law_more" : Str)]) (ps := [("_law_sheet_here" : Str), ("_law_pairs_here" : Str), ("_law_weights" : Str)]) Z 16 (k := 1) (L := []) (m := m_law_best) sc_law_best rfl (fun _ _ _ _ _ _ us hl => match us, hl with | [_, _, _], _ => rfl) fun cdv A outer s H E hr tk =>
  (dss_cons (ds_set 3 sc_law_best.nd rfl (Or.inl rfl) rfl do_dispSI)
  (dss_cons (ds_for (passes_of rfl) rfl (di_enum (Z.free 26) (da_cons (dv_var 0) da_nil)) (dg_tup 2 rfl (dgs_cons (dg_name 4 sc_law_best.nd rfl (Or.inl rfl)) (dgs_cons (dg_name 5 sc_law_best.nd rfl (Or.inl rfl)) dgs_nil)))
  (dss_cons (ds_set 6 sc_law_best.nd rfl (Or.inl rfl) rfl do_dnewK)
  (dss_cons (ds_forItems 3 (passes_of rfl) rfl rfl (Or.inl rfl) (dg_tup 2 rfl (dgs_cons (dg_name 7 sc_law_best.nd rfl (Or.inl rfl)) (dgs_cons (dg_name 8 sc_law_best.nd rfl (Or.inl rfl)) dgs_nil)))
  (dss_one (ds_for (passes_of rfl) rfl (di_any (dv_if (dt_cmp (o_eq hr.units) v_eq (dv_var 5) dv_str (by rfl)) (dv_of (do_lst (da_cons dv_str (da_cons dv_str da_nil)))) (dv_of (do_lst (da_cons (dv_var 5) da_nil))))) (dg_name 9 sc_law_best.nd rfl (Or.inl rfl))
  (dss_cons (ds_par 10 11 rfl sc_law_best.nd rfl rfl (by decide) rfl rfl (da_cons (dv_op o_add v_add (dv_var 7) (dv_var 9)) (da_cons (dv_op o_add v_add (dv_var 8) (dv_if (dt_cmp (o_eq hr.units) v_eq (dv_var 9) dv_str (by rfl)) (b_ixP 2 rfl (Or.inl rfl) (dv_var 4)) dv_int)) da_nil)) rfl (by rfl))
  (dss_one (ds_if (dt_cmp (o_eq hr.units) v_eq (dv_of (c_call (ok_law_now Z) hr (by decide) (Z.glo 27) tk (da_cons (dv_var 1) (da_cons (dv_var 10) da_nil)))) (dv_tup da_nil) (by rfl)) (dss_one (ds_setIx 6 (set_dict (un1 hr.units)) v_setD rfl (Or.inl rfl) (b_max2 rfl (Z.free 0) (da_cons (dv_dget2P 6 (un1 hr.units) rfl (Or.inl rfl) (b_sl (dv_var 10) (dp_some (dv_un un_neg v_neg dv_int)) dp_none) (dv_var 11)) (da_cons (dv_var 11) da_nil))) (b_sl (dv_var 10) (dp_some (dv_un un_neg v_neg dv_int)) dp_none))) dss_nil))) rfl)) rfl)
  (dss_one (ds_set 3 sc_law_best.nd rfl (Or.inl rfl) rfl (do_of (dv_var 6)))))) rfl)
  (dss_one (ds_ret (do_of (dv_maxD rfl hr.units (Z.free 0) (dv_of (do_lcItems [(("_law_end" : Str), 7), (("_law_worth" : Str), 8)] 3 rfl sc_law_best.nd rfl (Or.inl rfl) (blkOk_by (by kernel_rfl)) (by decide) (fun _ _ _ _ _ => (dg_tup 2 rfl (dgs_cons (dg_name 7 sc_law_best.nd rfl (Or.inl rfl)) (dgs_cons (dg_name 8 sc_law_best.nd rfl (Or.inl rfl)) dgs_nil)))) (fun _ _ _ _ _ => dts_nil) (fun _ _ _ _ _ => (dv_var 8)))) dv_non))))))
theorem sc_law_between : FnScope [("_law_sheet_here" : Str), ("_law_pairs_here" : Str), ("_law_first" : Str), ("_law_last" : Str), ("_law_sign" : Str), ("_law_weights" : Str), ("_law_minute" : Str)] [("_law_sheet_here" : Str), ("_law_pairs_here" : Str), ("_law_first" : Str), ("_law_last" : Str), ("_law_sign" : Str)] (defScope st_law_between) := ⟨rfl, rfl, rfl, by decide +kernel, rfl, by decide +kernel, by decide +kernel⟩
theorem ok_law_between (Z : Fx ck fns K mg) : OkFn P w K mg base 3 (fn_law_between.adr K) [("_law_sheet_here" : Str), ("_law_pairs_here" : Str), ("_law_first" : Str), ("_law_last" : Str), ("_law_sign" : Str)] s_law_between :=
  mk_fn (d := fn_law_between) (N := [("_law_sheet_here" : Str), ("_law_pairs_here" : Str), ("_law_first" : Str), ("_law_last" : Str), ("_law_sign" : Str), ("_law_weights" : Str), ("_law_minute" : Str)]) (ps := [("_law_sheet_here" : Str), ("_law_pairs_here" : Str), ("_law_first" : Str), ("_law_last" : Str), ("_law_sign" : Str)]) Z 17 (k := 2) (L := []) (m := m_law_between) sc_law_between rfl (fun _ _ _ _ _ _ us hl => match us, hl with | [_, _, _, _, _], _ => rfl) fun cdv A outer s H E hr tk =>
  (dss_cons (ds_setLc 5 [(("_law_minute" : Str), 6)] rfl sc_law_between.nd rfl rfl rfl (sw_true rfl rfl rfl (by decide +kernel)) (blkOk_by (by kernel_rfl)) (by decide) (di_range1 rfl (Z.free 4) (da_cons (b_lenP 0 (Z.free 1) rfl (Or.inl rfl)) da_nil)) (fun _ _ _ _ _ => (dg_name 6 sc_law_between.nd rfl (Or.inl rfl))) (fun _ _ _ _ _ => dts_nil) (fun _ _ _ _ _ => (dv_if (dt_chain op_le v_cmpI' op_lt v_cmpI (dv_var 2) (dv_var 6) (dv_var 3)) (dv_var 4) dv_int)))
  (dss_one (ds_ret (do_of (dv_op o_mul v_mul (dv_var 4) (dv_of (c_call (ok_law_best Z) hr (by decide) (Z.glo 28) tk (da_cons (dv_var 0) (da_cons (dv_var 1) (da_cons (dv_var 5) da_nil))))))))))
theorem sc_has_signs : FnScope [("thing" : Str), ("signs" : Str), ("one" : Str)] [("thing" : Str), ("signs" : Str)] (defScope st_has_signs) := ⟨rfl, rfl, rfl, by decide +kernel, rfl, by decide +kernel, by decide +kernel⟩
theorem ok_has_signs (Z : Fx ck fns K mg) : OkFn P w K mg base 1 (fn_has_signs.adr K) [("thing" : Str), ("signs" : Str)] s_has_signs :=
  mk_fn (d := fn_has_signs) (N := [("thing" : Str), ("signs" : Str), ("one" : Str)]) (ps := [("thing" : Str), ("signs" : Str)]) Z 18 (k := 0) (L := []) (m := m_has_signs) sc_has_signs rfl (fun _ _ _ _ _ _ us hl => match us, hl with | [_, _], _ => rfl) fun cdv A outer s H E hr tk =>
  (dss_one (ds_ret (do_of (dv_and (b_isiT (Z.isf 29 (u := .ty "str")) (Z.free 11) (Z.free 30) bt_str (dv_var 0)) (dv_and (dv_chain op_le v_cmpI' op_le v_cmpI dv_int (b_lenP 0 (Z.free 1) rfl (Or.inl rfl)) (dv_gi (Z.int 31))) (dv_one (b_all rfl (Z.free 32) (dv_of (do_lc [(("one" : Str), 2)] rfl sc_has_signs.nd (blkOk_by (by kernel_rfl)) (by decide) (di_any (dv_var 0)) (fun _ _ _ _ _ => (dg_name 2 sc_has_signs.nd rfl (Or.inl rfl))) (fun _ _ _ _ _ => dts_nil) (fun _ _ _ _ _ => (dv_cmp o_in v_in (dv_var 2) (dv_var 1) (by rfl))))))))))))
theorem sc_is_sheet : FnScope [("thing" : Str)] [("thing" : Str)] (defScope st_is_sheet) := ⟨rfl, rfl, rfl, by decide +kernel, rfl, by decide +kernel, by decide +kernel⟩
theorem ok_is_sheet (Z : Fx ck fns K mg) : OkFn P w K mg base 2 (fn_is_sheet.adr K) [("thing" : Str)] s_is_sheet :=
  mk_fn (d := fn_is_sheet) (N := [("thing" : Str)]) (ps := [("thing" : Str)]) Z 19 (k := 1) (L := []) (m := m_is_sheet) sc_is_sheet rfl (fun _ _ _ _ _ _ us hl => match us, hl with | [_], _ => rfl) fun cdv A outer s H E hr tk =>
  (dss_one (ds_ret (c_call (ok_has_signs Z) hr (by decide) (Z.glo 33) tk (da_cons (dv_var 0) (da_cons (dv_tup (da_cons (dv_gs (Z.str 36)) (da_cons (dv_gs (Z.str 35)) (da_cons (dv_gs (Z.str 34)) da_nil)))) da_nil)))))
theorem sc_need_sheet : FnScope [("thing" : Str)] [("thing" : Str)] (defScope st_need_sheet) := ⟨rfl, rfl, rfl, by decide +kernel, rfl, by decide +kernel, by decide +kernel⟩
theorem ok_need_sheet (Z : Fx ck fns K mg) : OkFn P w K mg base 3 (fn_need_sheet.adr K) [("thing" : Str)] s_need_sheet :=
  mk_fn (d := fn_need_sheet) (N := [("thing" : Str)]) (ps := [("thing" : Str)]) Z 20 (k := 2) (L := []) (m := m_need_sheet) sc_need_sheet rfl (fun _ _ _ _ _ _ us hl => match us, hl with | [_], _ => rfl) fun cdv A outer s H E hr tk =>
  (dss_one (ds_if (dt_not (dt_val (dv_of (c_call (ok_is_sheet Z) hr (by decide) (Z.glo 37) tk (da_cons (dv_var 0) da_nil))))) (dss_one (ds_rs rfl tk (Z.glo 38) (Z.says.ck 39 rfl))) dss_nil))
theorem sc_are_alarms : FnScope [("thing" : Str), ("one" : Str)] [("thing" : Str)] (defScope st_are_alarms) := ⟨rfl, rfl, rfl, by decide +kernel, rfl, by decide +kernel, by decide +kernel⟩
theorem ok_are_alarms (Z : Fx ck fns K mg) : OkFn P w K mg base 1 (fn_are_alarms.adr K) [("thing" : Str)] s_are_alarms :=
  mk_fn (d := fn_are_alarms) (N := [("thing" : Str), ("one" : Str)]) (ps := [("thing" : Str)]) Z 21 (k := 0) (L := []) (m := m_are_alarms) sc_are_alarms rfl (fun _ _ _ _ _ _ us hl => match us, hl with | [_], _ => rfl) fun cdv A outer s H E hr tk =>
  (dss_one (ds_ret (do_of (dv_and (b_isiT (Z.isf 40 (u := .ty "tuple")) (Z.free 11) (Z.free 25) bt_tuple (dv_var 0)) (dv_and (dv_cmp op_le v_cmpI (b_lenP 0 (Z.free 1) rfl (Or.inl rfl)) (dv_gi (Z.int 41)) (by rfl)) (dv_one (b_all rfl (Z.free 32) (dv_of (do_lc [(("one" : Str), 1)] rfl sc_are_alarms.nd (blkOk_by (by kernel_rfl)) (by decide) (di_any (dv_var 0)) (fun _ _ _ _ _ => (dg_name 1 sc_are_alarms.nd rfl (Or.inl rfl))) (fun _ _ _ _ _ => dts_nil) (fun _ _ _ _ _ => (b_isiC (Z.isf 42 (u := .own ("Alarm" : Str))) (Z.free 11) (Z.glo 20) (dv_var 1))))))))))))
theorem sc_need_alarms : FnScope [("thing" : Str)] [("thing" : Str)] (defScope st_need_alarms) := ⟨rfl, rfl, rfl, by decide +kernel, rfl, by decide +kernel, by decide +kernel⟩
theorem ok_need_alarms (Z : Fx ck fns K mg) : OkFn P w K mg base 2 (fn_need_alarms.adr K) [("thing" : Str)] s_need_alarms :=
  mk_fn (d := fn_need_alarms) (N := [("thing" : Str)]) (ps := [("thing" : Str)]) Z 22 (k := 1) (L := []) (m := m_need_alarms) sc_need_alarms rfl (fun _ _ _ _ _ _ us hl => match us, hl with | [_], _ => rfl) fun cdv A outer s H E hr tk =>
  (dss_one (ds_if (dt_not (dt_val (dv_of (c_call (ok_are_alarms Z) hr (by decide) (Z.glo 43) tk (da_cons (dv_var 0) da_nil))))) (dss_one (ds_rs rfl tk (Z.glo 44) (Z.says.ck 45 rfl))) dss_nil))
theorem sc_Alarm_does_ring : FnScope [("self" : Str), ("pattern" : Str), ("place" : Str), ("own" : Str)] [("self" : Str), ("pattern" : Str), ("place" : Str)] (defScope st_Alarm_does_ring) := ⟨rfl, rfl, rfl, by decide +kernel, rfl, by decide +kernel, by decide +kernel⟩
theorem ok_Alarm_does_ring (Z : Fx ck fns K mg) : OkFn P w K mg base 1 (fn_Alarm_does_ring.adr K) [("self" : Str), ("pattern" : Str), ("place" : Str)] s_Alarm_does_ring :=
  mk_fn (d := fn_Alarm_does_ring) (N := [("self" : Str), ("pattern" : Str), ("place" : Str), ("own" : Str)]) (ps := [("self" : Str), ("pattern" : Str), ("place" : Str)]) Z 23 (k := 0) (L := []) (m := m_Alarm_does_ring) sc_Alarm_does_ring rfl (fun _ _ _ _ _ _ us hl => match us, hl with | [_, _, _], _ => rfl) fun cdv A outer s H E hr tk =>
  (dss_cons (ds_set 3 sc_Alarm_does_ring.nd rfl (Or.inl rfl) rfl (do_of (b_sl (dv_var 1) (dp_some (dv_var 2)) (dp_some (dv_op o_add v_add (dv_var 2) (dv_fldP 0 (c := ("Alarm" : Str)) ⟨(Z.glo 20), Z.cls 21⟩ (Z.noat 22) rfl (Or.inl rfl)))))))
  (dss_one (ds_ret (do_of (dv_and (dv_cmp (o_eq hr.units) v_eq (b_lenP 3 (Z.free 1) rfl (Or.inl rfl)) (dv_fldP 0 (c := ("Alarm" : Str)) ⟨(Z.glo 20), Z.cls 21⟩ (Z.noat 22) rfl (Or.inl rfl)) (by rfl)) (dv_one (dv_cmp op_ge v_cmpI (b_cnt (dv_var 3) (da_cons (dv_gs (Z.str 36)) da_nil)) (dv_fldP 0 (c := ("Alarm" : Str)) ⟨(Z.glo 20), Z.cls 21⟩ (Z.noat 23) rfl (Or.inl rfl)) (by rfl))))))))
theorem sc_Alarm_places_in : FnScope [("self" : Str), ("pattern" : Str), ("place" : Str)] [("self" : Str), ("pattern" : Str)] (defScope st_Alarm_places_in) := ⟨rfl, rfl, rfl, by decide +kernel, rfl, by decide +kernel, by decide +kernel⟩
theorem ok_Alarm_places_in (Z : Fx ck fns K mg) : OkFn P w K mg base 2 (fn_Alarm_places_in.adr K) [("self" : Str), ("pattern" : Str)] s_Alarm_places_in :=
  mk_fn (d := fn_Alarm_places_in) (N := [("self" : Str), ("pattern" : Str), ("place" : Str)]) (ps := [("self" : Str), ("pattern" : Str)]) Z 24 (k := 1) (L := []) (m := m_Alarm_places_in) sc_Alarm_places_in rfl (fun _ _ _ _ _ _ us hl => match us, hl with | [_, _], _ => rfl) fun cdv A outer s H E hr tk =>
  (dss_one (ds_ret (do_of (b_tuple (Z.free 25) (dv_of (do_lc [(("place" : Str), 2)] rfl sc_Alarm_places_in.nd (blkOk_by (by kernel_rfl)) (by decide) (di_range1 rfl (Z.free 4) (da_cons (b_lenP 1 (Z.free 1) rfl (Or.inr (Or.inl rfl))) da_nil)) (fun _ _ _ _ _ => (dg_name 2 sc_Alarm_places_in.nd rfl (Or.inl rfl))) (fun _ _ _ _ _ => (dts_one (dt_val (dv_of (c_meth ⟨(Z.glo 20), Z.cls 21⟩ (Z.meth 46) (ok_Alarm_does_ring Z) hr (by decide) tkF (dv_var 0) (da_cons (dv_var 1) (da_cons (dv_var 2) da_nil))))))) (fun _ _ _ _ _ => (dv_var 2))))))))
theorem sc_is_quiet : FnScope [("pattern" : Str), ("alarms" : Str), ("one" : Str)] [("pattern" : Str), ("alarms" : Str)] (defScope st_is_quiet) := ⟨rfl, rfl, rfl, by decide +kernel, rfl, by decide +kernel, by decide +kernel⟩
theorem ok_is_quiet (Z : Fx ck fns K mg) : OkFn P w K mg base 3 (fn_is_quiet.adr K) [("pattern" : Str), ("alarms" : Str)] s_is_quiet :=
  mk_fn (d := fn_is_quiet) (N := [("pattern" : Str), ("alarms" : Str), ("one" : Str)]) (ps := [("pattern" : Str), ("alarms" : Str)]) Z 25 (k := 2) (L := []) (m := m_is_quiet) sc_is_quiet rfl (fun _ _ _ _ _ _ us hl => match us, hl with | [_, _], _ => rfl) fun cdv A outer s H E hr tk =>
  (dss_one (ds_ret (do_of (b_all rfl (Z.free 32) (dv_of (do_lc [(("one" : Str), 2)] rfl sc_is_quiet.nd (blkOk_by (by kernel_rfl)) (by decide) (di_any (dv_var 1)) (fun _ _ _ _ _ => (dg_name 2 sc_is_quiet.nd rfl (Or.inl rfl))) (fun _ _ _ _ _ => dts_nil) (fun _ _ _ _ _ => (dv_cmp (o_eq hr.units) v_eq (dv_of (c_meth ⟨(Z.glo 20), Z.cls 21⟩ (Z.meth 47) (ok_Alarm_places_in Z) hr (by decide) tkF (dv_var 2) (da_cons (dv_var 0) da_nil))) (dv_tup da_nil) (by rfl)))))))))
theorem sc_can_be_quiet : FnScope [("sheet" : Str), ("alarms" : Str)] [("sheet" : Str), ("alarms" : Str)] (defScope st_can_be_quiet) := ⟨rfl, rfl, rfl, by decide +kernel, rfl, by decide +kernel, by decide +kernel⟩
theorem ok_can_be_quiet (Z : Fx ck fns K mg) : OkFn P w K mg base 4 (fn_can_be_quiet.adr K) [("sheet" : Str), ("alarms" : Str)] s_can_be_quiet :=
  mk_fn (d := fn_can_be_quiet) (N := [("sheet" : Str), ("alarms" : Str)]) (ps := [("sheet" : Str), ("alarms" : Str)]) Z 26 (k := 3) (L := []) (m := m_can_be_quiet) sc_can_be_quiet rfl (fun _ _ _ _ _ _ us hl => match us, hl with | [_, _], _ => rfl) fun cdv A outer s H E hr tk =>
  (dss_one (ds_ret (c_call (ok_is_quiet Z) hr (by decide) (Z.glo 48) tk (da_cons (dv_rpl (Z.rpl 49) (dv_var 0) rfl rfl) (da_cons (dv_var 1) da_nil)))))
theorem sc_has_filling : FnScope [("sheet" : Str), ("alarms" : Str)] [("sheet" : Str), ("alarms" : Str)] (defScope st_has_filling) := ⟨rfl, rfl, rfl, by decide +kernel, rfl, by decide +kernel, by decide +kernel⟩
theorem ok_has_filling (Z : Fx ck fns K mg) : OkFn P w K mg base 5 (fn_has_filling.adr K) [("sheet" : Str), ("alarms" : Str)] s_has_filling :=
  mk_fn (d := fn_has_filling) (N := [("sheet" : Str), ("alarms" : Str)]) (ps := [("sheet" : Str), ("alarms" : Str)]) Z 27 (k := 4) (L := []) (m := m_has_filling) sc_has_filling rfl (fun _ _ _ _ _ _ us hl => match us, hl with | [_, _], _ => rfl) fun cdv A outer s H E hr tk =>
  (dss_cons (ds_expr (c_call (ok_need_sheet Z) hr (by decide) (Z.glo 50) tk (da_cons (dv_var 0) da_nil)))
  (dss_cons (ds_expr (c_call (ok_need_alarms Z) hr (by decide) (Z.glo 51) tk (da_cons (dv_var 1) da_nil)))
  (dss_one (ds_ret (c_call (ok_can_be_quiet Z) hr (by decide) (Z.glo 52) tk (da_cons (dv_var 0) (da_cons (dv_var 1) da_nil)))))))
theorem sc_need_filling : FnScope [("sheet" : Str), ("alarms" : Str)] [("sheet" : Str), ("alarms" : Str)] (defScope st_need_filling) := ⟨rfl, rfl, rfl, by decide +kernel, rfl, by decide +kernel, by decide +kernel⟩
theorem ok_need_filling (Z : Fx ck fns K mg) : OkFn P w K mg base 6 (fn_need_filling.adr K) [("sheet" : Str), ("alarms" : Str)] s_need_filling :=
  mk_fn (d := fn_need_filling) (N := [("sheet" : Str), ("alarms" : Str)]) (ps := [("sheet" : Str), ("alarms" : Str)]) Z 28 (k := 5) (L := []) (m := m_need_filling) sc_need_filling rfl (fun _ _ _ _ _ _ us hl => match us, hl with | [_, _], _ => rfl) fun cdv A outer s H E hr tk =>
  (dss_one (ds_if (dt_not (dt_val (dv_of (c_call (ok_has_filling Z) hr (by decide) (Z.glo 53) tk (da_cons (dv_var 0) (da_cons (dv_var 1) da_nil)))))) (dss_one (ds_rs rfl tk (Z.glo 54) (Z.says.ck 55 rfl))) dss_nil))
theorem sc_is_place : FnScope [("sheet" : Str), ("thing" : Str)] [("sheet" : Str), ("thing" : Str)] (defScope st_is_place) := ⟨rfl, rfl, rfl, by decide +kernel, rfl, by decide +kernel, by decide +kernel⟩
theorem ok_is_place (Z : Fx ck fns K mg) : OkFn P w K mg base 3 (fn_is_place.adr K) [("sheet" : Str), ("thing" : Str)] s_is_place :=
  mk_fn (d := fn_is_place) (N := [("sheet" : Str), ("thing" : Str)]) (ps := [("sheet" : Str), ("thing" : Str)]) Z 29 (k := 2) (L := []) (m := m_is_place) sc_is_place rfl (fun _ _ _ _ _ _ us hl => match us, hl with | [_, _], _ => rfl) fun cdv A outer s H E hr tk =>
  (dss_one (ds_ret (c_call (ok_is_between Z) hr (by decide) (Z.glo 16) tk (da_cons (dv_var 1) (da_cons dv_int (da_cons (b_lenP 0 (Z.free 1) rfl (Or.inl rfl)) da_nil))))))
theorem sc_need_places : FnScope [("sheet" : Str), ("alarms" : Str), ("first" : Str), ("last" : Str)] [("sheet" : Str), ("alarms" : Str), ("first" : Str), ("last" : Str)] (defScope st_need_places) := ⟨rfl, rfl, rfl, by decide +kernel, rfl, by decide +kernel, by decide +kernel⟩
theorem ok_need_places (Z : Fx ck fns K mg) : OkFn P w K mg base 7 (fn_need_places.adr K) [("sheet" : Str), ("alarms" : Str), ("first" : Str), ("last" : Str)] s_need_places :=
  mk_fn (d := fn_need_places) (N := [("sheet" : Str), ("alarms" : Str), ("first" : Str), ("last" : Str)]) (ps := [("sheet" : Str), ("alarms" : Str), ("first" : Str), ("last" : Str)]) Z 30 (k := 6) (L := []) (m := m_need_places) sc_need_places rfl (fun _ _ _ _ _ _ us hl => match us, hl with | [_, _, _, _], _ => rfl) fun cdv A outer s H E hr tk =>
  (dss_cons (ds_expr (c_call (ok_need_sheet Z) hr (by decide) (Z.glo 50) tk (da_cons (dv_var 0) da_nil)))
  (dss_cons (ds_expr (c_call (ok_need_alarms Z) hr (by decide) (Z.glo 51) tk (da_cons (dv_var 1) da_nil)))
  (dss_cons (ds_if (dt_w (dw_or (dt_not (dt_val (dv_of (c_call (ok_is_place Z) hr (by decide) (Z.glo 56) tk (da_cons (dv_var 0) (da_cons (dv_var 2) da_nil)))))) (dw_or (dt_not (dt_val (dv_of (c_call (ok_is_place Z) hr (by decide) (Z.glo 56) tk (da_cons (dv_var 0) (da_cons (dv_var 3) da_nil)))))) (dw_or1 (dt_cmp op_gt v_cmpI (dv_var 2) (dv_var 3) (by rfl)))))) (dss_one (ds_rs rfl tk (Z.glo 57) (Z.says.ck 58 rfl))) dss_nil)
  (dss_one (ds_expr (c_call (ok_need_filling Z) hr (by decide) (Z.glo 59) tk (da_cons (dv_var 0) (da_cons (dv_var 1) da_nil))))))))
theorem sc_Tour_call : FnScope [("self" : Str), ("goal" : Str)] [("self" : Str), ("goal" : Str)] (defScope st_Tour_call) := ⟨rfl, rfl, rfl, by decide +kernel, rfl, by decide +kernel, by decide +kernel⟩
theorem ok_Tour_call (Z : Fx ck fns K mg) : OkFn P w K mg base 1 (fn_Tour_call.adr K) [("self" : Str), ("goal" : Str)] s_Tour_call :=
  mk_fn (d := fn_Tour_call) (N := [("self" : Str), ("goal" : Str)]) (ps := [("self" : Str), ("goal" : Str)]) Z 31 (k := 0) (L := []) (m := m_Tour_call) sc_Tour_call rfl (fun _ _ _ _ _ _ us hl => match us, hl with | [_, _], _ => rfl) fun cdv A outer s H E hr tk =>
  (dss_one (ds_ret (do_of (dv_dget (un1 hr.units) (dv_fldP 0 (c := ("Tour" : Str)) ⟨(Z.glo 60), Z.cls 61⟩ (Z.noat 62) rfl (Or.inl rfl)) (dv_var 1)))))
theorem sc_Alarm_wide : FnScope [("self" : Str)] [("self" : Str)] (defScope st_Alarm_wide) := ⟨rfl, rfl, rfl, by decide +kernel, rfl, by decide +kernel, by decide +kernel⟩
theorem ok_Alarm_wide (Z : Fx ck fns K mg) : OkFn P w K mg base 1 (fn_Alarm_wide.adr K) [("self" : Str)] s_Alarm_wide :=
  mk_fn (d := fn_Alarm_wide) (N := [("self" : Str)]) (ps := [("self" : Str)]) Z 32 (k := 0) (L := []) (m := m_Alarm_wide) sc_Alarm_wide rfl (fun _ _ _ _ _ _ us hl => match us, hl with | [_], _ => rfl) fun cdv A outer s H E hr tk =>
  (dss_one (ds_ret (do_of (dv_fldP 0 (c := ("Alarm" : Str)) ⟨(Z.glo 20), Z.cls 21⟩ (Z.noat 22) rfl (Or.inl rfl)))))
theorem sc_Alarm_many : FnScope [("self" : Str)] [("self" : Str)] (defScope st_Alarm_many) := ⟨rfl, rfl, rfl, by decide +kernel, rfl, by decide +kernel, by decide +kernel⟩
theorem ok_Alarm_many (Z : Fx ck fns K mg) : OkFn P w K mg base 1 (fn_Alarm_many.adr K) [("self" : Str)] s_Alarm_many :=
  mk_fn (d := fn_Alarm_many) (N := [("self" : Str)]) (ps := [("self" : Str)]) Z 33 (k := 0) (L := []) (m := m_Alarm_many) sc_Alarm_many rfl (fun _ _ _ _ _ _ us hl => match us, hl with | [_], _ => rfl) fun cdv A outer s H E hr tk =>
  (dss_one (ds_ret (do_of (dv_fldP 0 (c := ("Alarm" : Str)) ⟨(Z.glo 20), Z.cls 21⟩ (Z.noat 23) rfl (Or.inl rfl)))))
theorem sc_costs_of : FnScope [("sheet" : Str), ("alarms" : Str), ("found" : Str), ("place" : Str), ("sign" : Str), ("alarm" : Str), ("step" : Str)] [("sheet" : Str), ("alarms" : Str)] (defScope st_costs_of) := ⟨rfl, rfl, rfl, by decide +kernel, rfl, by decide +kernel, by decide +kernel⟩
theorem ok_costs_of (Z : Fx ck fns K mg) : OkFn P w K mg base 3 (fn_costs_of.adr K) [("sheet" : Str), ("alarms" : Str)] s_costs_of :=
  mk_fn (d := fn_costs_of) (N := [("sheet" : Str), ("alarms" : Str), ("found" : Str), ("place" : Str), ("sign" : Str), ("alarm" : Str), ("step" : Str)]) (ps := [("sheet" : Str), ("alarms" : Str)]) Z 34 (k := 2) (L := []) (m := m_costs_of) sc_costs_of rfl (fun _ _ _ _ _ _ us hl => match us, hl with | [_, _], _ => rfl) fun cdv A outer s H E hr tk =>
  (dss_cons (ds_set 2 sc_costs_of.nd rfl (Or.inl rfl) rfl do_dnewT)
  (dss_cons (ds_for (passes_of rfl) rfl (di_enum (Z.free 26) (da_cons (dv_var 0) da_nil)) (dg_tup 2 rfl (dgs_cons (dg_name 3 sc_costs_of.nd rfl (Or.inl rfl)) (dgs_cons (dg_name 4 sc_costs_of.nd rfl (Or.inl rfl)) dgs_nil)))
  (dss_cons (ds_setIx 2 (set_dict (un1 hr.units)) v_setD rfl (Or.inl rfl) (dv_if (dt_cmp (o_eq hr.units) v_eq (dv_var 4) (dv_gs (Z.str 35)) (by rfl)) dv_int dv_int) (dv_tup (da_cons (dv_var 3) (da_cons (dv_op o_add v_add (dv_var 3) dv_int) da_nil))))
  (dss_one (ds_setIx 2 (set_dict (un1 hr.units)) v_setD rfl (Or.inl rfl) (dv_if (dt_cmp (o_eq hr.units) v_eq (dv_var 4) (dv_gs (Z.str 36)) (by rfl)) (dv_un un_neg v_neg dv_int) dv_int) (dv_tup (da_cons (dv_op o_add v_add (dv_var 3) dv_int) (da_cons (dv_var 3) da_nil)))))) rfl)
  (dss_cons (ds_for (passes_of rfl) rfl (di_any (dv_var 1)) (dg_name 5 sc_costs_of.nd rfl (Or.inl rfl))
  (dss_one (ds_for (passes_of rfl) rfl (di_range1 rfl (Z.free 4) (da_cons (dv_op o_add v_add (dv_op op_sub v_sub (b_lenP 0 (Z.free 1) rfl (Or.inl rfl)) (dv_of (c_prop ⟨(Z.glo 20), Z.cls 21⟩ (Z.prop 63) (ok_Alarm_wide Z) hr (by decide) (dv_var 5)))) dv_int) da_nil)) (dg_name 3 sc_costs_of.nd rfl (Or.inl rfl))
  (dss_cons (ds_set 6 sc_costs_of.nd rfl (Or.inl rfl) rfl (do_of (dv_tup (da_cons (dv_var 3) (da_cons (dv_op o_add v_add (dv_var 3) (dv_of (c_prop ⟨(Z.glo 20), Z.cls 21⟩ (Z.prop 63) (ok_Alarm_wide Z) hr (by decide) (dv_var 5)))) da_nil)))))
  (dss_one (ds_setIx 2 (set_dict (un1 hr.units)) v_setD rfl (Or.inl rfl) (b_min2 rfl (Z.free 65) (da_cons (dv_dget2P 2 (un1 hr.units) rfl (Or.inl rfl) (dv_var 6) (dv_op op_sub v_sub (dv_of (c_prop ⟨(Z.glo 20), Z.cls 21⟩ (Z.prop 64) (ok_Alarm_many Z) hr (by decide) (dv_var 5))) dv_int)) (da_cons (dv_op op_sub v_sub (dv_of (c_prop ⟨(Z.glo 20), Z.cls 21⟩ (Z.prop 64) (ok_Alarm_many Z) hr (by decide) (dv_var 5))) dv_int) da_nil))) (dv_var 6)))) rfl)) rfl)
  (dss_one (ds_ret (do_mv 2))))))
theorem sc_Tour_look : FnScope [("self" : Str), ("place" : Str), ("other" : Str), ("cost" : Str), ("way" : Str)] [("self" : Str), ("place" : Str), ("other" : Str), ("cost" : Str)] (defScope st_Tour_look) := ⟨rfl, rfl, rfl, by decide +kernel, rfl, by decide +kernel, by decide +kernel⟩
theorem ok_Tour_look (Z : Fx ck fns K mg) : OkLook P w K mg base 1 (fn_Tour_look.adr K) [("self" : Str), ("place" : Str), ("other" : Str), ("cost" : Str)] :=
  mk_look (d := fn_Tour_look) (N := [("self" : Str), ("place" : Str), ("other" : Str), ("cost" : Str), ("way" : Str)]) (ps := [("self" : Str), ("place" : Str), ("other" : Str), ("cost" : Str)]) Z 35 (k := 0) sc_Tour_look rfl rfl rfl (fun _ _ _ _ _ _ us hl => match us, hl with | [_, _, _, _], _ => rfl) fun cdv A outer s H E hr =>
  (pss_one (ps_if (pt_cmp (pc_din (un1 hr.units) (pe_var (i := 1) rfl (Or.inl rfl)) (pe_fld (pe_var (i := 0) rfl (Or.inl rfl)) rfl))) (pss_cons (ps_set sc_Tour_look.nd rfl (Or.inl rfl) (pe_add (pe_dget (un1 hr.units) (pe_fld (pe_var (i := 0) rfl (Or.inl rfl)) rfl) (pe_var (i := 1) rfl (Or.inl rfl)) (by intro _ _; rfl)) (pe_var (i := 3) rfl (Or.inl rfl))))
   (pss_one (ps_if ((pw_or (pt_cmp (pc_dnotin (un1 hr.units) (pe_var (i := 2) rfl (Or.inl rfl)) (pe_fld (pe_var (i := 0) rfl (Or.inl rfl)) rfl))) (pw_or1 (pt_cmp (pc_lt (pe_var (i := 4) rfl (Or.inl rfl)) (pe_dget (un1 hr.units) (pe_fld (pe_var (i := 0) rfl (Or.inl rfl)) rfl) (pe_var (i := 2) rfl (Or.inl rfl)) (by intro _ _; rfl)))))).pt) (pss_cons (ps_dput (un1 hr.units) (pe_fld (pe_var (i := 0) rfl (Or.inl rfl)) rfl) (pe_var (i := 2) rfl (Or.inl rfl)) (pe_var (i := 4) rfl (Or.inl rfl)) rfl) (pss_one (ps_dput (un1 hr.units) (pe_fld (pe_var (i := 0) rfl (Or.inl rfl)) rfl) (pe_var (i := 2) rfl (Or.inl rfl)) (pe_var (i := 1) rfl (Or.inl rfl)) rfl))) pss_nil))) pss_nil))
theorem sc_Tour_init : FnScope [("self" : Str), ("sheet" : Str), ("alarms" : Str), ("start" : Str), ("costs" : Str), ("turn" : Str), ("place" : Str), ("other" : Str), ("cost" : Str)] [("self" : Str), ("sheet" : Str), ("alarms" : Str), ("start" : Str)] (defScope st_Tour_init) := ⟨rfl, rfl, rfl, by decide +kernel, rfl, by decide +kernel, by decide +kernel⟩
theorem ok_Tour_init (Z : Fx ck fns K mg) : OkFn P w K mg base 4 (fn_Tour_init.adr K) [("self" : Str), ("sheet" : Str), ("alarms" : Str), ("start" : Str)] s_Tour_init :=
  mk_fn (d := fn_Tour_init) (N := [("self" : Str), ("sheet" : Str), ("alarms" : Str), ("start" : Str), ("costs" : Str), ("turn" : Str), ("place" : Str), ("other" : Str), ("cost" : Str)]) (ps := [("self" : Str), ("sheet" : Str), ("alarms" : Str), ("start" : Str)]) Z 36 (k := 3) (L := [0]) (m := m_Tour_init) sc_Tour_init rfl (fun _ _ _ _ _ _ us hl => match us, hl with | [_, _, _, _], _ => rfl) fun cdv A outer s H E hr tk =>
  dss_tour (Z.glo 60) (Z.cls 61) (Z.noat 62) (Z.noat 66)
   (ps_fld (pe_var (i := 0) rfl (Or.inl rfl)) (pe_disp (pps_cons (pe_var (i := 3) rfl (Or.inl rfl)) pe_int pps_nil) rfl rfl (by simp) (by simp)) rfl) (ps_fld (pe_var (i := 0) rfl (Or.inl rfl)) pe_dnewK rfl)
   (dv_of (c_call (ok_costs_of Z) hr (by decide) (Z.glo 67) tk (da_cons (dv_var 1) (da_cons (dv_var 2) da_nil)))) (fun t h => ps_set sc_Tour_init.nd rfl (Or.inl rfl) h)
   (di_range1 rfl (Z.free 4) (da_cons (dv_op o_add v_add (b_lenP 1 (Z.free 1) rfl (Or.inl rfl)) dv_int) da_nil)) (fun wi h => ps_for (passes_of rfl) rfl h (pg_name (i := 5) sc_Tour_init.nd rfl (Or.inl rfl)) (pss_one (PS.or (ps_lock (ps_for (passes_of rfl) rfl (pi_itemsT (pe_var (i := 4) rfl (Or.inl rfl))) (pg_tup rfl (pgs_cons (pg_tup rfl (pgs_cons (pg_name (i := 6) sc_Tour_init.nd rfl (Or.inl rfl)) (pgs_cons (pg_name (i := 7) sc_Tour_init.nd rfl (Or.inl rfl)) pgs_nil))) (pgs_cons (pg_name (i := 8) sc_Tour_init.nd rfl (Or.inl rfl)) pgs_nil))) (pss_one (ps_expr (c_look (Z.cls 61) (Z.meth 68) (ok_Tour_look Z) hr (by decide) (pe_var (i := 0) rfl (Or.inl rfl)) (pa_cons (pe_var (i := 6) rfl (Or.inl rfl)) (pa_cons (pe_var (i := 7) rfl (Or.inl rfl)) (pa_cons (pe_var (i := 8) rfl (Or.inl rfl)) pa_nil)))))))) (ps_for (passes_of rfl) rfl (pi_itemsT (pe_var (i := 4) rfl (Or.inl rfl))) (pg_tup rfl (pgs_cons (pg_tup rfl (pgs_cons (pg_name (i := 6) sc_Tour_init.nd rfl (Or.inl rfl)) (pgs_cons (pg_name (i := 7) sc_Tour_init.nd rfl (Or.inl rfl)) pgs_nil))) (pgs_cons (pg_name (i := 8) sc_Tour_init.nd rfl (Or.inl rfl)) pgs_nil))) (pss_one (ps_expr (c_look (Z.cls 61) (Z.meth 68) (ok_Tour_look Z) hr (by decide) (pe_var (i := 0) rfl (Or.inl rfl)) (pa_cons (pe_var (i := 6) rfl (Or.inl rfl)) (pa_cons (pe_var (i := 7) rfl (Or.inl rfl)) (pa_cons (pe_var (i := 8) rfl (Or.inl rfl)) pa_nil))))))))))
theorem sc_most_between : FnScope [("sheet" : Str), ("alarms" : Str), ("first" : Str), ("last" : Str)] [("sheet" : Str), ("alarms" : Str), ("first" : Str), ("last" : Str)] (defScope st_most_between) := ⟨rfl, rfl, rfl, by decide +kernel, rfl, by decide +kernel, by decide +kernel⟩
theorem ok_most_between (Z : Fx ck fns K mg) : OkFn P w K mg base 8 (fn_most_between.adr K) [("sheet" : Str), ("alarms" : Str), ("first" : Str), ("last" : Str)] s_most_between :=
  mk_fn (d := fn_most_between) (N := [("sheet" : Str), ("alarms" : Str), ("first" : Str), ("last" : Str)]) (ps := [("sheet" : Str), ("alarms" : Str), ("first" : Str), ("last" : Str)]) Z 37 (k := 7) (L := []) (m := m_most_between) sc_most_between rfl (fun _ _ _ _ _ _ us hl => match us, hl with | [_, _, _, _], _ => rfl) fun cdv A outer s H E hr tk =>
  (dss_cons (ds_expr (c_call (ok_need_places Z) hr (by decide) (Z.glo 69) tk (da_cons (dv_var 0) (da_cons (dv_var 1) (da_cons (dv_var 2) (da_cons (dv_var 3) da_nil))))))
  (dss_one (ds_ret (do_callO ⟨(Z.glo 60), Z.cls 61⟩ (Z.callO 71) (ok_Tour_call Z) hr (by decide) (dv_of (c_make (Z.glo 60) (Z.mkr 70) (ok_Tour_init Z) hr (by decide) tk (da_cons (dv_var 0) (da_cons (dv_var 1) (da_cons (dv_var 2) da_nil))))) (da_cons (dv_var 3) da_nil)))))
theorem sc_least_between : FnScope [("sheet" : Str), ("alarms" : Str), ("first" : Str), ("last" : Str)] [("sheet" : Str), ("alarms" : Str), ("first" : Str), ("last" : Str)] (defScope st_least_between) := ⟨rfl, rfl, rfl, by decide +kernel, rfl, by decide +kernel, by decide +kernel⟩
theorem ok_least_between (Z : Fx ck fns K mg) : OkFn P w K mg base 8 (fn_least_between.adr K) [("sheet" : Str), ("alarms" : Str), ("first" : Str), ("last" : Str)] s_least_between :=
  mk_fn (d := fn_least_between) (N := [("sheet" : Str), ("alarms" : Str), ("first" : Str), ("last" : Str)]) (ps := [("sheet" : Str), ("alarms" : Str), ("first" : Str), ("last" : Str)]) Z 38 (k := 7) (L := []) (m := m_least_between) sc_least_between rfl (fun _ _ _ _ _ _ us hl => match us, hl with | [_, _, _, _], _ => rfl) fun cdv A outer s H E hr tk =>
  (dss_cons (ds_expr (c_call (ok_need_places Z) hr (by decide) (Z.glo 69) tk (da_cons (dv_var 0) (da_cons (dv_var 1) (da_cons (dv_var 2) (da_cons (dv_var 3) da_nil))))))
  (dss_one (ds_ret (do_of (dv_un un_neg v_neg (dv_of (do_callO ⟨(Z.glo 60), Z.cls 61⟩ (Z.callO 71) (ok_Tour_call Z) hr (by decide) (dv_of (c_make (Z.glo 60) (Z.mkr 70) (ok_Tour_init Z) hr (by decide) tk (da_cons (dv_var 0) (da_cons (dv_var 1) (da_cons (dv_var 3) da_nil))))) (da_cons (dv_var 2) da_nil))))))))
theorem sc_law_most : FnScope [("_law_sheet_here" : Str), ("_law_pairs_here" : Str)] [("_law_sheet_here" : Str), ("_law_pairs_here" : Str)] (defScope st_law_most) := ⟨rfl, rfl, rfl, by decide +kernel, rfl, by decide +kernel, by decide +kernel⟩
theorem ok_law_most (Z : Fx ck fns K mg) : OkFn P w K mg base 3 (fn_law_most.adr K) [("_law_sheet_here" : Str), ("_law_pairs_here" : Str)] s_law_most :=
  mk_fn (d := fn_law_most) (N := [("_law_sheet_here" : Str), ("_law_pairs_here" : Str)]) (ps := [("_law_sheet_here" : Str), ("_law_pairs_here" : Str)]) Z 39 (k := 2) (L := []) (m := m_law_most) sc_law_most rfl (fun _ _ _ _ _ _ us hl => match us, hl with | [_, _], _ => rfl) fun cdv A outer s H E hr tk =>
  (dss_one (ds_ret (c_call (ok_law_best Z) hr (by decide) (Z.glo 28) tk (da_cons (dv_var 0) (da_cons (dv_var 1) (da_cons (dv_op o_mul v_mul (dv_of (do_lst (da_cons dv_int da_nil))) (b_lenP 0 (Z.free 1) rfl (Or.inl rfl))) da_nil))))))
theorem sc_Alarm_text : FnScope [("self" : Str)] [("self" : Str)] (defScope st_Alarm_text) := ⟨rfl, rfl, rfl, by decide +kernel, rfl, by decide +kernel, by decide +kernel⟩
theorem ok_Alarm_text (Z : Fx ck fns K mg) : OkFn P w K mg base 1 (fn_Alarm_text.adr K) [("self" : Str)] s_Alarm_text :=
  mk_fn (d := fn_Alarm_text) (N := [("self" : Str)]) (ps := [("self" : Str)]) Z 40 (k := 0) (L := []) (m := m_Alarm_text) sc_Alarm_text rfl (fun _ _ _ _ _ _ us hl => match us, hl with | [_], _ => rfl) fun cdv A outer s H E hr tk =>
  (dss_one (ds_ret (do_of (dv_joined (dj_cons (dv_fmt (dv_fldP 0 (c := ("Alarm" : Str)) ⟨(Z.glo 20), Z.cls 21⟩ (Z.noat 23) rfl (Or.inl rfl))) (dj_cons dv_str (dj_cons (dv_fmt (dv_gs (Z.str 72))) (dj_cons dv_str (dj_cons (dv_fmt (dv_fldP 0 (c := ("Alarm" : Str)) ⟨(Z.glo 20), Z.cls 21⟩ (Z.noat 22) rfl (Or.inl rfl))) dj_nil)))))))))
theorem sc_Alarm_repr : FnScope [("self" : Str)] [("self" : Str)] (defScope st_Alarm_repr) := ⟨rfl, rfl, rfl, by decide +kernel, rfl, by decide +kernel, by decide +kernel⟩
theorem ok_Alarm_repr (Z : Fx ck fns K mg) : OkFn P w K mg base 2 (fn_Alarm_repr.adr K) [("self" : Str)] s_Alarm_repr :=
  mk_fn (d := fn_Alarm_repr) (N := [("self" : Str)]) (ps := [("self" : Str)]) Z 41 (k := 1) (L := []) (m := m_Alarm_repr) sc_Alarm_repr rfl (fun _ _ _ _ _ _ us hl => match us, hl with | [_], _ => rfl) fun cdv A outer s H E hr tk =>
  (dss_one (ds_ret (do_of (dv_joined (dj_cons dv_str (dj_cons (dv_fmt (dv_of (c_meth0 ⟨(Z.glo 20), Z.cls 21⟩ (Z.meth 73) (ok_Alarm_text Z) hr (by decide) tk (dv_var 0)))) (dj_cons dv_str dj_nil)))))))
theorem rpc {X : Cx} (Z : Fx ck fns X.K X.mg) : RpC X rpD 2 := by
  intro c ns vs t h
  unfold rpD at h
  dsimp only at h
  by_cases e : c = ("Alarm" : Str)
  · subst e
    rw [if_pos rfl] at h
    obtain ⟨σ, h⟩ := txR_some h
    have M := Z.meth (x := ("Alarm" : Str)) (m := ("__repr__" : Str)) 85
    exact ⟨_, _, s_Alarm_repr, σ, Z.glo 20, M.at_, M.fn, OkFn.mono (ok_Alarm_repr Z) (by decide), h⟩
  rw [if_neg e] at h
  cases h
theorem sc_law_same : FnScope [("_law_found" : Str), ("_law_due" : Str)] [("_law_found" : Str), ("_law_due" : Str)] (defScope st_law_same) := ⟨rfl, rfl, rfl, by decide +kernel, rfl, by decide +kernel, by decide +kernel⟩
theorem ok_law_same (Z : Fx ck fns K mg) : OkFnG P w K mg base 23 (fn_law_same.adr K) [("_law_found" : Str), ("_law_due" : Str)] s_law_same :=
  mk_fnG (d := fn_law_same) (N := [("_law_found" : Str), ("_law_due" : Str)]) (ps := [("_law_found" : Str), ("_law_due" : Str)]) Z 42 (k := 22) (L := []) (m := m_law_same) sc_law_same rfl (fun _ _ _ _ _ _ us hl => match us, hl with | [_, _], _ => rfl) fun cdv A outer s H E hr hG tk =>
  (dss_one (ds_ret (do_of (dv_cmp (o_eq hr.units) v_eq (b_reprX hr (by decide) hG (rpc Z) (Z.free 74) (dv_var 0)) (b_reprX hr (by decide) hG (rpc Z) (Z.free 74) (dv_var 1)) (by rfl)))))
theorem sc_law : FnScope [("_law_script" : Str), ("_law_k" : Str), ("_law_pen_here" : Str), ("_law_lap" : Str), ("_law_pairs_here" : Str), ("_law_sheet_here" : Str), ("_law_alarms" : Str), ("_law_turn" : Str), ("_law_first" : Str), ("_law_last" : Str), ("_law_due" : Str), ("_law_told" : Str)] [("_law_script" : Str)] (defScope st_law) := ⟨rfl, rfl, rfl, by decide +kernel, rfl, by decide +kernel, by decide +kernel⟩
theorem ok_law (Z : Fx ck fns K mg) : OkFnG P w K mg base 24 (fn_law.adr K) [("_law_script" : Str)] s_law :=
  mk_fnG (d := fn_law) (N := [("_law_script" : Str), ("_law_k" : Str), ("_law_pen_here" : Str), ("_law_lap" : Str), ("_law_pairs_here" : Str), ("_law_sheet_here" : Str), ("_law_alarms" : Str), ("_law_turn" : Str), ("_law_first" : Str), ("_law_last" : Str), ("_law_due" : Str), ("_law_told" : Str)]) (ps := [("_law_script" : Str)]) Z 43 (k := 23) (L := []) (m := m_law) sc_law rfl (fun _ _ _ _ _ _ us hl => match us, hl with | [_], _ => rfl) fun cdv A outer s H E hr hG tk =>
  (dss_cons (ds_for (passes_of rfl) rfl (di_range1 rfl (Z.free 4) (da_cons (b_max2 rfl (Z.free 0) (da_cons dv_int (da_cons (b_min2 rfl (Z.free 65) (da_cons (b_lenP 0 (Z.free 1) rfl (Or.inl rfl)) (da_cons dv_int da_nil))) da_nil))) da_nil)) (dg_name 1 sc_law.nd rfl (Or.inl rfl))
  (dss_cons (ds_set 2 sc_law.nd rfl (Or.inl rfl) rfl (c_call (ok_law_pen Z) hr (by decide) (Z.glo 75) tk (da_cons (dv_of (c_call (ok_law_cell_at Z) hr (by decide) (Z.glo 76) tk (da_cons (dv_var 0) (da_cons (dv_var 1) da_nil)))) da_nil)))
  (dss_one (ds_for (passes_of rfl) rfl (di_range1 rfl (Z.free 4) (da_cons dv_int da_nil)) (dg_name 3 sc_law.nd rfl (Or.inl rfl))
  (dss_cons (ds_set 4 sc_law.nd rfl (Or.inl rfl) rfl (c_callIO 2 (ok_law_pairs Z) hr (by decide) (Z.glo 77) tk rfl (Or.inl rfl) da_nil))
  (dss_cons (ds_par 5 6 rfl sc_law.nd rfl rfl (by decide) rfl rfl (da_cons (dv_of (c_callIO 2 (ok_law_sheet Z) hr (by decide) (Z.glo 79) tk rfl (Or.inl rfl) (da_cons (dv_var 4) (da_cons (b_ix (dv_of (do_lst (da_cons dv_int (da_cons dv_int (da_cons dv_int da_nil))))) (dv_var 3)) da_nil)))) (da_cons (dv_of (c_call (ok_law_made Z) hr (by decide) (Z.glo 78) tk (da_cons (dv_var 4) da_nil))) da_nil)) rfl (by rfl))
  (dss_one (ds_for (passes_of rfl) rfl (di_range1 rfl (Z.free 4) (da_cons (dv_if (dt_cmp op_notN v_isNot (dv_of (c_call (ok_law_most Z) hr (by decide) (Z.glo 80) tk (da_cons (dv_var 5) (da_cons (dv_var 4) da_nil)))) dv_non (by rfl)) dv_int dv_int) da_nil)) (dg_name 7 sc_law.nd rfl (Or.inl rfl))
  (dss_cons (ds_set 8 sc_law.nd rfl (Or.inl rfl) rfl (c_callIO 2 (ok_law_draw Z) hr (by decide) (Z.glo 2) tk rfl (Or.inl rfl) (da_cons (dv_op o_add v_add (b_lenP 5 (Z.free 1) rfl (Or.inl rfl)) dv_int) da_nil)))
  (dss_cons (ds_set 9 sc_law.nd rfl (Or.inl rfl) rfl (do_of (dv_op o_add v_add (dv_var 8) (dv_of (c_callIO 2 (ok_law_draw Z) hr (by decide) (Z.glo 2) tk rfl (Or.inl rfl) (da_cons (dv_op op_sub v_sub (dv_op o_add v_add (b_lenP 5 (Z.free 1) rfl (Or.inl rfl)) dv_int) (dv_var 8)) da_nil))))))
  (dss_cons (ds_set 10 sc_law.nd rfl (Or.inl rfl) rfl (do_lst (da_cons (dv_of (c_call (ok_law_between Z) hr (by decide) (Z.glo 81) tk (da_cons (dv_var 5) (da_cons (dv_var 4) (da_cons (dv_var 8) (da_cons (dv_var 9) (da_cons dv_int da_nil))))))) (da_cons (dv_of (c_call (ok_law_between Z) hr (by decide) (Z.glo 81) tk (da_cons (dv_var 5) (da_cons (dv_var 4) (da_cons (dv_var 8) (da_cons (dv_var 9) (da_cons (dv_un un_neg v_neg dv_int) da_nil))))))) da_nil))))
  (dss_cons (ds_set 11 sc_law.nd rfl (Or.inl rfl) rfl (do_lst (da_cons (dv_of (c_call (ok_most_between Z) hr (by decide) (Z.glo 83) tk (da_cons (dv_var 5) (da_cons (dv_var 6) (da_cons (dv_var 8) (da_cons (dv_var 9) da_nil)))))) (da_cons (dv_of (c_call (ok_least_between Z) hr (by decide) (Z.glo 82) tk (da_cons (dv_var 5) (da_cons (dv_var 6) (da_cons (dv_var 8) (da_cons (dv_var 9) da_nil)))))) da_nil))))
  (dss_one (ds_if (dt_w (dw_or (dt_not (dt_val (dv_of (c_callG (ok_law_same Z) hr hG (by decide) (Z.glo 84) tk (da_cons (dv_var 11) (da_cons (dv_var 10) da_nil)))))) (dw_or1 (dt_cmp (o_ne hr.units) v_ne (dv_of (c_call (ok_most_between Z) hr (by decide) (Z.glo 83) tk (da_cons (dv_var 5) (da_cons (dv_var 6) (da_cons (dv_var 8) (da_cons (dv_var 9) da_nil)))))) (b_ixP 10 rfl (Or.inl rfl) dv_int) (by rfl))))) (dss_one (ds_ret (do_of dv_bl))) dss_nil)))))) rfl)))) rfl))) rfl)
  (dss_one (ds_ret (do_of dv_bl))))
end
end Lw
end DL
namespace DL
namespace Lw
open PySem PySem.Spec PyProof.Rows L2
abbrev R : PySem.W.OpenRow := PySem.W.OpenLaw.row PySem.Challenge.rw_quietminutes_k13_between_two_places
abbrev hk : PySem.W.Hook := hookX 6 ck fns
def ob (s : PySem.W.SharedT) : AlX := obsXG 6 ck fns (HandSHeadRun.getT s)
theorem ob_eq (s : PySem.W.SharedT) : ob s = hk.obs s.abs := obsXG_eq (HandSHeadRun.getT_eq s)
def loose : List Str := ([("MinuteError" : Str), ("NoNumber" : Str), ("NoAlarms" : Str), ("NoSheet" : Str), ("NoPattern" : Str), ("NoFilling" : Str), ("NoPlace" : Str), ("NoText" : Str), ("BAD" : Str), ("GOOD" : Str), ("OPEN" : Str), ("MOST_MINUTES" : Str), ("is_whole" : Str), ("is_between" : Str), ("has_signs" : Str)] : List Str) ++ ([("is_sheet" : Str), ("is_pattern" : Str), ("need_sheet" : Str), ("need_pattern" : Str), ("MOST_WIDE" : Str), ("MOST_ALARMS" : Str), ("OF" : Str), ("FIGURES" : Str), ("number_in" : Str), ("Alarm" : Str), ("are_alarms" : Str), ("need_alarms" : Str), ("is_quiet" : Str), ("can_be_quiet" : Str), ("has_filling" : Str)] : List Str) ++ ([("need_filling" : Str), ("costs_of" : Str), ("is_place" : Str), ("Tour" : Str), ("need_places" : Str), ("most_between" : Str), ("least_between" : Str), ("_law_now" : Str), ("_law_best" : Str), ("_law_pen" : Str), ("_law_cell_at" : Str), ("_law_draw" : Str), ("_law_pick" : Str), ("_law_pairs" : Str), ("_law_hidden" : Str)] : List Str) ++ ([("_law_rings" : Str), ("_law_is_quiet" : Str), ("_law_quiet_text" : Str), ("_law_text" : Str), ("_law_sheet" : Str), ("_law_most" : Str), ("_law_same" : Str), ("_law_made" : Str), ("_law_between" : Str)] : List Str)
theorem run (w : World) : HandSHeadRun.RunEq R (PySem.W.view R.prog [60]) hk ob 12000 loose w := by
  intro os
  kernel_rfl
end Lw
end DL
open PySem PySem.W PySem.Calls PyProof.Rows
theorem PySem.Challenge.cw_quietminutes_k13_between_two_places_holds : PySem.Challenge.rw_quietminutes_k13_between_two_places.Holds := by
  w_on; o_law
  refine HandSHeadRun.head_any (r := OpenLaw.row PySem.Challenge.rw_quietminutes_k13_between_two_places) (q := view (OpenLaw.row PySem.Challenge.rw_quietminutes_k13_between_two_places).prog [60]) (H := DL.Lw.hk) (ob := DL.Lw.ob) (M := 12000) (loose := DL.Lw.loose) (d := HandSHeadRun.topDef (OpenLaw.row PySem.Challenge.rw_quietminutes_k13_between_two_places).prog 60) (kwd := []) DL.Lw.ob_eq
    (by kernel_rfl) (fun s => by kernel_rfl) DL.Lw.run (by kernel_rfl) (by kernel_rfl) (by kernel_rfl) (by rfl) (by first | assumption | decide +kernel) (by decide +kernel) ⟨rfl, rfl, rfl, rfl, rfl, by decide +kernel⟩ ?hw ?hc
  case hw => w_witness2
  case hc =>
    refine DL.walk_ofG (l := PySem.Challenge.rw_quietminutes_k13_between_two_places) (n := 63) (k := 24) (x := ("_law_script" : PySem.Str)) (CX := fun w => L2.CX (PySem.Challenge.rw_quietminutes_k13_between_two_places).prog w) rfl (by rw [sizeLine_eq]; decide) (by kernel_rfl) ⟨rfl, by decide, by decide⟩ ?F (fun _ _ _ _ _ h => DL.cx_none h)
    intro w mg fa h Y G hmg0
    obtain ⟨K, KX, c⟩ := Y
    have hmg : mg ("law" : PySem.Str) = some (.ref fa) := by
      have e : (HandSHeadRun.topDef (OpenLaw.row PySem.Challenge.rw_quietminutes_k13_between_two_places).prog 60).name = ("law" : PySem.Str) := by kernel_rfl
      rw [← e]
      exact hmg0
    have Z : DL.Fx DL.Lw.ck DL.Lw.fns K mg := ⟨c, h, KX, G⟩
    have e : He.ga K ("law" : PySem.Str) = fa := by
      have e := hmg.symm.trans (Z.glo 86)
      cases e
      rfl
    obtain ⟨fd, sp, hb, hsp, hF⟩ := DL.law_end (l := PySem.Challenge.rw_quietminutes_k13_between_two_places) (w := w) (k := 24) (a := fa) (x := ("_law_script" : PySem.Str)) (sem := DL.Lw.s_law) Z 43 (d := DL.Lw.fn_law) rfl e (fun _ _ _ _ _ _ us hl => match us, hl with | [_], _ => rfl) (fun base => DL.Lw.ok_law Z) 63 DL.Lw.math
    exact ⟨K, fd, sp, KX, hb, hsp, fun base _ _ => hF base⟩
