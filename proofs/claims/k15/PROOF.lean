import PyProof.Rows.All
import Wide.All
import OpenK.AllK
import Wide.FinOn
import HandS.ForMost
import HandS.TupAny
import HandS.Walk
import HandS.Conv
import HandS.IsInst
import HandS.Style
import HandS.Deep
import HandS.NoneIn
import PySem.Challenge.RW_camefrom_k15_pieces_by_own_blocks
set_option Elab.async false
set_option linter.all false
set_option maxRecDepth 100000
set_option maxHeartbeats 2000000
/-! DA: the data layer. What a def does, told by plain data (PyData), with who owns which list. -/
namespace DL
open PySem PySem.Spec PyProof.Rows L2

/-- the laws' source of draws -/
structure Src where
  cells : List Int
  left : Int
  mixed : Int
  turn : Int
/-- where the source stands: its dict, its list of cells -/
abbrev SO := Option (Addr × Addr)
def Has (so : SO) (b : Addr) : Prop := match so with
  | none => False
  | some (a, c) => b = a ∨ b = c
def srcKvs (S : Src) (c : Addr) : List (Key × V) := [(.inr "cells", .ref c), (.inr "left", .int S.left), (.inr "mixed", .int S.mixed), (.inr "turn", .int S.turn)]
def SrcOk (so : SO) (S : Src) (H : Hp) : Prop := match so with
  | none => True
  | some (a, c) => H a = some (.dK (srcKvs S c)) ∧ H c = some (.lst (S.cells.map V.int))

/-- what a slot holds: data for good; a borrowed list; an own list; an own dict; the source; any address -/
inductive Bd where
  | imm (d : PyData)
  | bor (ds : List PyData)
  | lst (ds : List PyData)
  | dk (kvs : List (Key × PyData))
  | dt (kvs : List (List Key × PyData))
  | src
  | ref (a : Addr)
  | wr (d : PyData)
def Bd.own : Bd → Bool
  | .lst _ => true
  | .dk _ => true
  | .dt _ => true
  | _ => false
def Bd.isBor : Bd → Bool
  | .bor _ => true
  | _ => false
abbrev En := List (Option Bd)
abbrev Sl := List (Option V)

mutual
inductive Den (K : PySem.W.Frag) (H : Hp) (A : Addr → Prop) : V → PyData → Prop
  | non : Den K H A .non .none
  | bl (b : Bool) : Den K H A (.bl b) (.bool b)
  | int (i : Int) : Den K H A (.int i) (.int i)
  | str (x : Str) : Den K H A (.str x) (.str x)
  | lst {a : Addr} {xs : List V} {ds : List PyData} : A a → H a = some (.lst xs) → DenL K H A xs ds → Den K H A (.ref a) (.list ds)
  | tup {a : Addr} {xs : List V} {ds : List PyData} : H a = some (.tup xs) → DenL K H A xs ds → Den K H A (.ref a) (.tuple ds)
inductive DenL (K : PySem.W.Frag) (H : Hp) (A : Addr → Prop) : List V → List PyData → Prop
  | nil : DenL K H A [] []
  | cons {v : V} {vs : List V} {d : PyData} {ds : List PyData} : Den K H A v d → DenL K H A vs ds → DenL K H A (v :: vs) (d :: ds)
end
section
variable {K : PySem.W.Frag} {H H' : Hp} {A A' : Addr → Prop}
mutual
theorem Den.dp : ∀ {d : PyData} {v : V}, Den K H A v d → Dp K H v d
  | .none, _, h => by cases h; exact .non
  | .bool b, _, h => by cases h; exact .bl b
  | .int i, _, h => by cases h; exact .int i
  | .str x, _, h => by cases h; exact .str x
  | .list ds, _, h => by
    cases h with
    | lst ha hh hl => exact .lst (SqL.of hh) (DenL.dp hl)
  | .tuple ds, _, h => by
    cases h with
    | tup hs hl => exact .tup (SqT.of hs) (DenL.dp hl)
  | .dict _, _, h => by cases h
theorem DenL.dp : ∀ {ds : List PyData} {vs : List V}, DenL K H A vs ds → DpAll K H vs ds
  | [], _, h => by cases h; exact .nil
  | d :: ds, _, h => by
    cases h with
    | cons h1 h2 => exact .cons (Den.dp h1) (DenL.dp h2)
end
mutual
theorem Den.mono (hA : ∀ b, A b → A' b) (hH : ∀ b xs, A b → H b = some (.lst xs) → H' b = some (.lst xs)) (hT : ∀ a xs, H a = some (.tup xs) → H' a = some (.tup xs)) : ∀ {d : PyData} {v : V}, Den K H A v d → Den K H' A' v d
  | .none, _, h => by cases h; exact .non
  | .bool b, _, h => by cases h; exact .bl b
  | .int i, _, h => by cases h; exact .int i
  | .str x, _, h => by cases h; exact .str x
  | .list ds, _, h => by
    cases h with
    | lst ha hh hl => exact .lst (hA _ ha) (hH _ _ ha hh) (DenL.mono hA hH hT hl)
  | .tuple ds, _, h => by
    cases h with
    | tup hs hl => exact .tup (hT _ _ hs) (DenL.mono hA hH hT hl)
  | .dict _, _, h => by cases h
theorem DenL.mono (hA : ∀ b, A b → A' b) (hH : ∀ b xs, A b → H b = some (.lst xs) → H' b = some (.lst xs)) (hT : ∀ a xs, H a = some (.tup xs) → H' a = some (.tup xs)) : ∀ {ds : List PyData} {vs : List V}, DenL K H A vs ds → DenL K H' A' vs ds
  | [], _, h => by cases h; exact .nil
  | d :: ds, _, h => by
    cases h with
    | cons h1 h2 => exact .cons (Den.mono hA hH hT h1) (DenL.mono hA hH hT h2)
end
-- no list within
mutual
def noL : PyData → Bool
  | .list _ => false
  | .tuple ds => noLs ds
  | .dict _ => false
  | _ => true
def noLs : List PyData → Bool
  | [] => true
  | d :: ds => noL d && noLs ds
end
mutual
theorem Den.anyA : ∀ {d : PyData} {v : V}, noL d = true → Den K H A v d → Den K H A' v d
  | .none, _, _, h => by cases h; exact .non
  | .bool b, _, _, h => by cases h; exact .bl b
  | .int i, _, _, h => by cases h; exact .int i
  | .str x, _, _, h => by cases h; exact .str x
  | .list ds, _, n, h => by simp [noL] at n
  | .tuple ds, _, n, h => by
    cases h with
    | tup hs hl => exact .tup hs (DenL.anyA (by simpa [noL] using n) hl)
  | .dict _, _, _, h => by cases h
theorem DenL.anyA : ∀ {ds : List PyData} {vs : List V}, noLs ds = true → DenL K H A vs ds → DenL K H A' vs ds
  | [], _, _, h => by cases h; exact .nil
  | d :: ds, _, n, h => by
    simp only [noLs, Bool.and_eq_true] at n
    cases h with
    | cons h1 h2 => exact .cons (Den.anyA n.1 h1) (DenL.anyA n.2 h2)
end
theorem DenL.length : ∀ {ds : List PyData} {vs : List V}, DenL K H A vs ds → vs.length = ds.length
  | [], _, h => by cases h; rfl
  | d :: ds, _, h => by
    cases h with
    | cons h1 h2 => simp [DenL.length h2]
theorem DenL.get : ∀ {ds : List PyData} {vs : List V} {i : Nat} {d : PyData}, DenL K H A vs ds → ds[i]? = some d → ∃ v, vs[i]? = some v ∧ Den K H A v d
  | [], _, i, d, h, e => by simp at e
  | d0 :: ds, _, i, d, h, e => by
    cases h with
    | cons h1 h2 =>
      cases i with
      | zero => simp at e; subst e; exact ⟨_, rfl, h1⟩
      | succ i =>
        obtain ⟨v, e1, e2⟩ := DenL.get h2 (i := i) (by simpa using e)
        exact ⟨v, by simpa using e1, e2⟩
theorem DenL.append : ∀ {ds es : List PyData} {vs ws : List V}, DenL K H A vs ds → DenL K H A ws es → DenL K H A (vs ++ ws) (ds ++ es)
  | [], _, _, _, h, h2 => by cases h; exact h2
  | d :: ds, _, _, _, h, h2 => by
    cases h with
    | cons h0 h1 => exact .cons h0 (DenL.append h1 h2)
theorem DenL.take : ∀ {ds : List PyData} {vs : List V} (n : Nat), DenL K H A vs ds → DenL K H A (vs.take n) (ds.take n)
  | _, _, 0, _ => .nil
  | [], _, n + 1, h => by cases h; exact .nil
  | d :: ds, _, n + 1, h => by
    cases h with
    | cons h0 h1 => exact .cons h0 (DenL.take n h1)
theorem DenL.drop : ∀ {ds : List PyData} {vs : List V} (n : Nat), DenL K H A vs ds → DenL K H A (vs.drop n) (ds.drop n)
  | _, _, 0, h => h
  | [], _, n + 1, h => by cases h; exact .nil
  | d :: ds, _, n + 1, h => by
    cases h with
    | cons h0 h1 => exact DenL.drop n h1
theorem DenL.set : ∀ {ds : List PyData} {vs : List V} {v : V} {d : PyData} (n : Nat), DenL K H A vs ds → Den K H A v d → DenL K H A (vs.set n v) (ds.set n d)
  | [], _, _, _, n, h, _ => by cases h; exact .nil
  | d :: ds, _, _, _, 0, h, q => by
    cases h with
    | cons h0 h1 => exact .cons q h1
  | d :: ds, _, _, _, n + 1, h, q => by
    cases h with
    | cons h0 h1 => exact .cons h0 (DenL.set n h1 q)
theorem DenL.reverse : ∀ {ds : List PyData} {vs : List V}, DenL K H A vs ds → DenL K H A vs.reverse ds.reverse
  | [], _, h => by cases h; exact .nil
  | d :: ds, _, h => by
    cases h with
    | cons h0 h1 => simp only [List.reverse_cons]; exact (DenL.reverse h1).append (.cons h0 .nil)
theorem DenL.one {v : V} {d : PyData} (h : Den K H A v d) : DenL K H A [v] [d] := .cons h .nil
end

/-- an own dict's entries: keys that are ints, texts; tuples of them -/
def keyD : Key → PyData
  | .inl i => .int i
  | .inr x => .str x
def DKV {κ : Type} (K : PySem.W.Frag) (H : Hp) (A : Addr → Prop) : List (κ × V) → List (κ × PyData) → Prop :=
  Paired fun (p : κ × V) (q : κ × PyData) => p.1 = q.1 ∧ Den K H A p.2 q.2
def OOk (K : PySem.W.Frag) (so : SO) (H0 H : Hp) (A : Addr → Prop) (v : V) : Bd → Prop
  | .imm d => Den K H A v d
  | .bor ds => ∃ a vs, v = .ref a ∧ H a = some (.lst vs) ∧ ¬ Has so a ∧ DenL K H A vs ds
  | .lst ds => ∃ a vs, v = .ref a ∧ H a = some (.lst vs) ∧ ¬ A a ∧ H0 a = none ∧ DenL K H A vs ds
  | .dk kvs => ∃ a kv, v = .ref a ∧ H a = some (.dK kv) ∧ ¬ A a ∧ H0 a = none ∧ DKV K H A kv kvs
  | .dt kvs => ∃ a kv, v = .ref a ∧ H a = some (.dT kv) ∧ ¬ A a ∧ H0 a = none ∧ DKV K H A kv kvs
  | .src => ∃ a c, v = .ref a ∧ so = some (a, c)
  | .ref a => v = .ref a
  | .wr d => Dp K (fun _ => none) v d

/-- THE MATCH of slots and data. H0, A0: the heap at the entry, the lists frozen there; A: those frozen now -/
structure Mt (K : PySem.W.Frag) (so : SO) (H0 : Hp) (A0 : Addr → Prop) (S : Src) (σ : Sl) (ρ : En) (H : Hp) (A : Addr → Prop) : Prop where
  len : σ.length = ρ.length
  keep : ∀ b x, H0 b = some x → ¬ Has so b → H b = some x
  a0 : ∀ b, A0 b → A b
  an : ∀ b, A b → A0 b ∨ H0 b = none
  fz : ∀ b, A b → ∃ xs, H b = some (.lst xs)
  ns : ∀ b, A b → ¬ Has so b
  so0 : ∀ b, Has so b → ∃ x, H0 b = some x
  src : SrcOk so S H
  bd : ∀ (i : Nat) (b : Bd), ρ[i]? = some (some b) → ∃ v, σ[i]? = some (some v) ∧ OOk K so H0 H A v b
  sep : ∀ (i j : Nat) (b b' : Bd) (v : V), i ≠ j → ρ[i]? = some (some b) → ρ[j]? = some (some b') → b.own = true → b'.own = true → σ[i]? = some (some v) → σ[j]? ≠ some (some v)

section
variable {K : PySem.W.Frag} {so : SO} {H0 H H' : Hp} {A0 A A' : Addr → Prop} {S S' : Src} {σ σ' : Sl} {ρ ρ' : En} {v : V} {b : Bd}
theorem Has.src {a : Addr} (h : Has so a) (s : SrcOk so S H) : (∃ kv, H a = some (.dK kv)) ∨ ∃ xs, H a = some (.lst xs) := by
  cases so with
  | none => cases h
  | some p =>
    obtain ⟨x, y⟩ := p
    rcases h with rfl | rfl
    · exact .inl ⟨_, s.1⟩
    · exact .inr ⟨_, s.2⟩
theorem tup_up (hk : ∀ b x, H b = some x → ¬ Has so b → H' b = some x) (s : SrcOk so S H) {a : Addr} {xs : List V} (h : H a = some (.tup xs)) : H' a = some (.tup xs) := hk _ _ h fun q => by
  rcases q.src s with ⟨kv, z⟩ | ⟨ys, z⟩ <;> (rw [z] at h; cases h)
/-- the heap has grown; lists may have been frozen that were nobody's -/
theorem OOk.up (hk : ∀ b x, H b = some x → ¬ Has so b → H' b = some x) (s : SrcOk so S H) (so0 : ∀ b, Has so b → ∃ x, H0 b = some x) (ns : ∀ b, A b → ¬ Has so b) (hA : ∀ b, A b → A' b)
    (hn : ∀ a, b.own = true → v = .ref a → ¬ A a → ¬ A' a) (h : OOk K so H0 H A v b) : OOk K so H0 H' A' v b := by
  have hl : ∀ b xs, A b → H b = some (.lst xs) → H' b = some (.lst xs) := fun b xs ha e => hk b _ e (ns b ha)
  have hT : ∀ a xs, H a = some (.tup xs) → H' a = some (.tup xs) := fun a xs => tup_up hk s
  have n0 : ∀ a, H0 a = none → ¬ Has so a := fun a e q => by obtain ⟨x, z⟩ := so0 a q; rw [e] at z; cases z
  cases b with
  | imm d => exact Den.mono hA hl hT h
  | bor ds =>
    obtain ⟨a, vs, e, ha, nh, hd⟩ := h
    exact ⟨a, vs, e, hk _ _ ha nh, nh, DenL.mono hA hl hT hd⟩
  | lst ds =>
    obtain ⟨a, vs, e, ha, na, h0, hd⟩ := h
    exact ⟨a, vs, e, hk _ _ ha (n0 a h0), hn a rfl e na, h0, DenL.mono hA hl hT hd⟩
  | dk kvs =>
    obtain ⟨a, kv, e, ha, na, h0, q⟩ := h
    exact ⟨a, kv, e, hk _ _ ha (n0 a h0), hn a rfl e na, h0, Paired.mapP q fun p q z => ⟨z.1, Den.mono hA hl hT z.2⟩⟩
  | dt kvs =>
    obtain ⟨a, kv, e, ha, na, h0, q⟩ := h
    exact ⟨a, kv, e, hk _ _ ha (n0 a h0), hn a rfl e na, h0, Paired.mapP q fun p q z => ⟨z.1, Den.mono hA hl hT z.2⟩⟩
  | src => exact h
  | ref a => exact h
  | wr d => exact h

theorem Mt.n0 (M : Mt K so H0 A0 S σ ρ H A) {a : Addr} (h : H0 a = none) : ¬ Has so a := fun q => by
  obtain ⟨x, z⟩ := M.so0 a q
  rw [h] at z; cases z
theorem Mt.h0 (M : Mt K so H0 A0 S σ ρ H A) {p : Addr} (h : H p = none) : H0 p = none := by
  cases e : H0 p with
  | none => rfl
  | some x =>
    by_cases q : Has so p
    · rcases q.src M.src with ⟨_, z⟩ | ⟨_, z⟩ <;> (rw [h] at z; cases z)
    · rw [M.keep p x e q] at h; cases h
theorem Mt.nA (M : Mt K so H0 A0 S σ ρ H A) {p : Addr} (h : H p = none) : ¬ A p := fun q => by
  obtain ⟨xs, z⟩ := M.fz p q
  rw [h] at z; cases z
theorem OOk.there (h : OOk K so H0 H A v b) (ho : b.own = true) : ∃ a x, v = .ref a ∧ H a = some x ∧ H0 a = none ∧ ¬ A a := by
  cases b with
  | lst ds => obtain ⟨a, vs, e, ha, na, h0, _⟩ := h; exact ⟨a, _, e, ha, h0, na⟩
  | dk kvs => obtain ⟨a, kv, e, ha, na, h0, _⟩ := h; exact ⟨a, _, e, ha, h0, na⟩
  | dt kvs => obtain ⟨a, kv, e, ha, na, h0, _⟩ := h; exact ⟨a, _, e, ha, h0, na⟩
  | imm _ => cases ho
  | bor _ => cases ho
  | src => cases ho
  | ref _ => cases ho
  | wr _ => cases ho
/-- another state of the source -/
theorem SrcOk.keepd (s : SrcOk so S H) (hk : ∀ b, Has so b → H' b = H b) : SrcOk so S H' := by
  cases so with
  | none => trivial
  | some p =>
    obtain ⟨x, y⟩ := p
    exact ⟨(hk x (.inl rfl)).trans s.1, (hk y (.inr rfl)).trans s.2⟩
/-- the heap grows, more lists are frozen (none that is a slot's own) -/
theorem Mt.up (M : Mt K so H0 A0 S σ ρ H A) (hk : ∀ b x, H b = some x → ¬ Has so b → H' b = some x) (hs : SrcOk so S' H') (hA : ∀ b, A b → A' b) (han : ∀ b, A' b → A b ∨ H b = none) (hfz : ∀ b, A' b → ∃ xs, H' b = some (.lst xs))
    (hns : ∀ b, A' b → ¬ Has so b) : Mt K so H0 A0 S' σ ρ H' A' where
  len := M.len
  keep := fun b x e n => hk b x (M.keep b x e n) n
  a0 := fun b h => hA b (M.a0 b h)
  an := fun b h => (han b h).elim (M.an b) fun e => .inr (M.h0 e)
  fz := hfz
  ns := hns
  so0 := M.so0
  src := hs
  bd := fun i b e => by
    obtain ⟨v, e1, o⟩ := M.bd i b e
    refine ⟨v, e1, o.up hk M.src M.so0 M.ns hA fun a ho ev na q => ?_⟩
    obtain ⟨a', x, ev', hx, _, _⟩ := o.there ho
    rw [ev] at ev'; cases ev'
    rcases han a q with z | z
    · exact na z
    · rw [hx] at z; cases z
  sep := M.sep
/-- a new object stands at p -/
theorem Mt.new (M : Mt K so H0 A0 S σ ρ H A) {p : Addr} {o : HO} (hp : H p = none) : Mt K so H0 A0 S σ ρ (upd H p o) A := by
  have hk : ∀ b x, H b = some x → upd H p o b = some x := fun b x e => by rw [upd_ne (ne_of_none e hp)]; exact e
  refine M.up (fun b x e _ => hk b x e) (M.src.keepd fun b h => ?_) (fun _ h => h) (fun _ h => .inl h) (fun b h => ?_) M.ns
  · rcases h.src M.src with ⟨_, z⟩ | ⟨_, z⟩ <;> rw [z, hk _ _ z]
  · obtain ⟨xs, e⟩ := M.fz b h
    exact ⟨xs, hk _ _ e⟩
/-- one value more -/
theorem Mt.push (M : Mt K so H0 A0 S σ ρ H A) (o : OOk K so H0 H A v b) (hs : b.own = true → ∀ (i : Nat) (b' : Bd), ρ[i]? = some (some b') → b'.own = true → σ[i]? ≠ some (some v)) : Mt K so H0 A0 S (σ ++ [some v]) (ρ ++ [some b]) H A where
  len := by simp [M.len]
  keep := M.keep
  a0 := M.a0
  an := M.an
  fz := M.fz
  ns := M.ns
  so0 := M.so0
  src := M.src
  bd := fun i c e => by
    by_cases hi : i < ρ.length
    · rw [List.getElem?_append_left hi] at e
      obtain ⟨w, e1, q⟩ := M.bd i c e
      exact ⟨w, by rw [List.getElem?_append_left (by rw [M.len]; exact hi)]; exact e1, q⟩
    · rw [List.getElem?_append_right (by omega)] at e
      have : i - ρ.length = 0 := by
        cases h : i - ρ.length with
        | zero => rfl
        | succ n => rw [h] at e; simp at e
      rw [this] at e
      simp at e
      subst e
      refine ⟨v, ?_, o⟩
      rw [List.getElem?_append_right (by rw [M.len]; omega), M.len, this]
      rfl
  sep := fun i j c c' w ne e1 e2 o1 o2 e3 e4 => by
    have last : ∀ {k : Nat} {d : Bd}, ¬ k < ρ.length → (ρ ++ [some b])[k]? = some (some d) → k = ρ.length ∧ d = b := fun {k d} hk e => by
      rw [List.getElem?_append_right (by omega)] at e
      cases h : k - ρ.length with
      | zero => rw [h] at e; simp at e; exact ⟨by omega, e.symm⟩
      | succ n => rw [h] at e; simp at e
    by_cases hi : i < ρ.length
    · rw [List.getElem?_append_left hi] at e1
      rw [List.getElem?_append_left (by rw [M.len]; exact hi)] at e3
      by_cases hj : j < ρ.length
      · rw [List.getElem?_append_left hj] at e2
        rw [List.getElem?_append_left (by rw [M.len]; exact hj)] at e4
        exact M.sep i j c c' w ne e1 e2 o1 o2 e3 e4
      · obtain ⟨rfl, rfl⟩ := last hj e2
        rw [← M.len, List.getElem?_append_right (Nat.le_refl _)] at e4
        simp at e4
        subst e4
        exact hs o2 i c e1 o1 e3
    · obtain ⟨rfl, rfl⟩ := last hi e1
      rw [← M.len, List.getElem?_append_right (Nat.le_refl _)] at e3
      simp at e3
      subst e3
      by_cases hj : j < ρ.length
      · rw [List.getElem?_append_left hj] at e2
        rw [List.getElem?_append_left (by rw [M.len]; exact hj)] at e4
        exact hs o1 j c' e2 o2 e4
      · obtain ⟨rfl, rfl⟩ := last hj e2
        exact ne rfl
/-- .. that is no list of its own -/
theorem Mt.pushI (M : Mt K so H0 A0 S σ ρ H A) (o : OOk K so H0 H A v b) (hs : b.own = false) : Mt K so H0 A0 S (σ ++ [some v]) (ρ ++ [some b]) H A :=
  M.push o fun h => by rw [hs] at h; cases h
theorem Mt.fresh (M : Mt K so H0 A0 S σ ρ H A) {p : Addr} (hp : H p = none) : ∀ (i : Nat) (b' : Bd), ρ[i]? = some (some b') → b'.own = true → σ[i]? ≠ some (some (.ref p)) := fun i b' e ho e' => by
  obtain ⟨w, e1, q⟩ := M.bd i b' e
  obtain ⟨a, x, ev, hx, _, _⟩ := q.there ho
  rw [e1] at e'
  cases e'
  cases ev
  rw [hp] at hx; cases hx
/-- a new tuple, a new own list -/
theorem Mt.newT (M : Mt K so H0 A0 S σ ρ H A) {p : Addr} {xs : List V} {ds : List PyData} (hp : H p = none) (h : DenL K H A xs ds) : Mt K so H0 A0 S (σ ++ [some (.ref p)]) (ρ ++ [some (.imm (.tuple ds))]) (upd H p (.tup xs)) A := by
  have M1 := M.new (o := .tup xs) hp
  refine M1.pushI (Den.tup upd_same (h.mono (fun _ q => q) (fun b ys _ e => ?_) fun a ys => tup_up (so := so) (S := S) (fun b x e _ => ?_) M.src)) rfl
  · rw [upd_ne (ne_of_none e hp)]; exact e
  · rw [upd_ne (ne_of_none e hp)]; exact e
theorem Mt.newL (M : Mt K so H0 A0 S σ ρ H A) {p : Addr} {xs : List V} {ds : List PyData} (hp : H p = none) (h : DenL K H A xs ds) : Mt K so H0 A0 S (σ ++ [some (.ref p)]) (ρ ++ [some (.lst ds)]) (upd H p (.lst xs)) A := by
  have M1 := M.new (o := .lst xs) hp
  refine M1.push ⟨p, xs, rfl, upd_same, M.nA hp, M.h0 hp, h.mono (fun _ q => q) (fun b ys _ e => ?_) fun a ys => tup_up (so := so) (S := S) (fun b x e _ => ?_) M.src⟩ fun _ => M.fresh hp
  · rw [upd_ne (ne_of_none e hp)]; exact e
  · rw [upd_ne (ne_of_none e hp)]; exact e
/-- slots taken from others -/
theorem Mt.re (M : Mt K so H0 A0 S σ ρ H A) (f : Nat → Nat) (hl : σ'.length = ρ'.length) (h : ∀ (i : Nat) (b : Bd), ρ'[i]? = some (some b) → ρ[f i]? = some (some b) ∧ σ'[i]? = σ[f i]?)
    (hi : ∀ (i j : Nat) (b b' : Bd), i ≠ j → ρ'[i]? = some (some b) → ρ'[j]? = some (some b') → b.own = true → b'.own = true → f i ≠ f j) : Mt K so H0 A0 S σ' ρ' H A where
  len := hl
  keep := M.keep
  a0 := M.a0
  an := M.an
  fz := M.fz
  ns := M.ns
  so0 := M.so0
  src := M.src
  bd := fun i b e => by
    obtain ⟨e1, e2⟩ := h i b e
    obtain ⟨v, e3, o⟩ := M.bd _ b e1
    exact ⟨v, e2.trans e3, o⟩
  sep := fun i j b b' v ne e1 e2 o1 o2 e3 e4 => by
    obtain ⟨p1, p2⟩ := h i b e1
    obtain ⟨q1, q2⟩ := h j b' e2
    exact M.sep _ _ b b' v (hi i j b b' ne e1 e2 o1 o2) p1 q1 o1 o2 (p2.symm.trans e3) (q2.symm.trans e4)
theorem Mt.sub {xs : Sl} {ys : En} (M : Mt K so H0 A0 S (σ ++ xs) (ρ ++ ys) H A) (hl : σ.length = ρ.length) : Mt K so H0 A0 S σ ρ H A :=
  M.re id hl (fun i b e => by
    have hi : i < ρ.length := by
      rcases Nat.lt_or_ge i ρ.length with z | z
      · exact z
      · rw [List.getElem?_eq_none z] at e; cases e
    exact ⟨by show (ρ ++ ys)[i]? = _; rw [List.getElem?_append_left hi]; exact e, by show _ = (σ ++ xs)[i]?; rw [List.getElem?_append_left (by omega)]⟩) fun i j _ _ ne _ _ _ _ => ne
/-- what stands between falls away -/
theorem Mt.cut {xs : Sl} {ys : En} {x : Option V} {y : Option Bd} (M : Mt K so H0 A0 S (σ ++ xs ++ [x]) (ρ ++ ys ++ [y]) H A) (hl : σ.length = ρ.length) (hx : xs.length = ys.length) : Mt K so H0 A0 S (σ ++ [x]) (ρ ++ [y]) H A := by
  refine M.re (fun i => if i < ρ.length then i else ρ.length + ys.length) (by simp [hl]) (fun i b e => ?_) (fun i j b b' ne e1 e2 _ _ => ?_)
  · show (ρ ++ ys ++ [y])[if i < ρ.length then i else ρ.length + ys.length]? = _ ∧ _ = (σ ++ xs ++ [x])[if i < ρ.length then i else ρ.length + ys.length]?
    by_cases hi : i < ρ.length
    · rw [if_pos hi]
      rw [List.getElem?_append_left hi] at e
      refine ⟨?_, ?_⟩
      · rw [List.append_assoc, List.getElem?_append_left hi]; exact e
      · rw [List.append_assoc, List.getElem?_append_left (by omega), List.getElem?_append_left (by omega)]
    · rw [if_neg hi]
      rw [List.getElem?_append_right (by omega)] at e
      have z : i - ρ.length = 0 := by
        cases h : i - ρ.length with
        | zero => rfl
        | succ n => rw [h] at e; simp at e
      rw [z] at e
      refine ⟨?_, ?_⟩
      · rw [List.getElem?_append_right (by simp), List.length_append, Nat.sub_self]; exact e
      · rw [List.getElem?_append_right (by omega), List.getElem?_append_right (by simp; omega), List.length_append, show i - σ.length = 0 by omega, show ρ.length + ys.length - (σ.length + xs.length) = 0 by omega]
  · have last : ∀ {k : Nat} {d : Bd}, ¬ k < ρ.length → (ρ ++ [y])[k]? = some (some d) → k = ρ.length := fun {k d} hk e => by
      rw [List.getElem?_append_right (by omega)] at e
      cases h : k - ρ.length with
      | zero => omega
      | succ n => rw [h] at e; simp at e
    show (if i < ρ.length then i else ρ.length + ys.length) ≠ (if j < ρ.length then j else ρ.length + ys.length)
    by_cases hi : i < ρ.length <;> by_cases hj : j < ρ.length
    · rw [if_pos hi, if_pos hj]; exact ne
    · rw [if_pos hi, if_neg hj]; omega
    · rw [if_neg hi, if_pos hj]; omega
    · have := last hi e1; have := last hj e2; omega
/-- a slot takes the last value -/
theorem Mt.asg {xs : Sl} {ys : En} {x : V} {y : Bd} (M : Mt K so H0 A0 S (σ ++ xs ++ [some x]) (ρ ++ ys ++ [some y]) H A) (hl : σ.length = ρ.length) (hx : xs.length = ys.length) (i : Nat) :
    Mt K so H0 A0 S (σ.set i (some x) ++ xs) (ρ.set i (some y) ++ ys) H A := by
  have key : ∀ (k : Nat) (b : Bd), (ρ.set i (some y) ++ ys)[k]? = some (some b) → (k = i ∧ i < ρ.length ∧ b = y) ∨ (¬ (k = i ∧ i < ρ.length) ∧ k < ρ.length + ys.length ∧ (ρ ++ ys ++ [some y])[k]? = some (some b)) := fun k b e => by
    by_cases hk : k < ρ.length
    · rw [List.getElem?_append_left (by simpa using hk)] at e
      by_cases z : k = i
      · subst z
        rw [List.getElem?_set_self hk] at e
        cases e
        exact .inl ⟨rfl, hk, rfl⟩
      · rw [List.getElem?_set_ne (Ne.symm z)] at e
        exact .inr ⟨fun q => z q.1, by omega, by rw [List.append_assoc, List.getElem?_append_left hk]; exact e⟩
    · rw [List.getElem?_append_right (by simp; omega), List.length_set] at e
      have hk2 : k - ρ.length < ys.length := by
        rcases Nat.lt_or_ge (k - ρ.length) ys.length with z | z
        · exact z
        · rw [List.getElem?_eq_none z] at e; cases e
      exact .inr ⟨fun q => hk (by omega), by omega, by rw [List.append_assoc, List.getElem?_append_right (by omega), List.getElem?_append_left hk2]; exact e⟩
  refine M.re (fun k => if k = i ∧ i < ρ.length then ρ.length + ys.length else k) (by simp; omega) (fun k b e => ?_) (fun k j b b' ne e1 e2 _ _ => ?_)
  · show (ρ ++ ys ++ [some y])[if k = i ∧ i < ρ.length then ρ.length + ys.length else k]? = _ ∧ _ = (σ ++ xs ++ [some x])[if k = i ∧ i < ρ.length then ρ.length + ys.length else k]?
    rcases key k b e with ⟨rfl, h1, rfl⟩ | ⟨h1, h2, h3⟩
    · rw [if_pos ⟨rfl, h1⟩]
      refine ⟨by rw [List.getElem?_append_right (by simp), List.length_append, Nat.sub_self]; rfl, ?_⟩
      rw [List.getElem?_append_left (by simp; omega), List.getElem?_set_self (by omega), List.getElem?_append_right (by simp; omega), List.length_append, show ρ.length + ys.length - (σ.length + xs.length) = 0 by omega]
      rfl
    · rw [if_neg h1]
      refine ⟨h3, ?_⟩
      rw [List.getElem?_append_left (l₁ := σ ++ xs) (by rw [List.length_append]; omega)]
      by_cases hk : k < σ.length
      · rw [List.getElem?_append_left (by simpa using hk), List.getElem?_append_left hk, List.getElem?_set_ne]
        intro z; exact h1 ⟨z.symm, by omega⟩
      · rw [List.getElem?_append_right (by simp; omega), List.getElem?_append_right (by omega), List.length_set]
  · show (if k = i ∧ i < ρ.length then ρ.length + ys.length else k) ≠ (if j = i ∧ i < ρ.length then ρ.length + ys.length else j)
    rcases key k b e1 with ⟨a1, a2, _⟩ | ⟨a1, a2, _⟩ <;> rcases key j b' e2 with ⟨c1, c2, _⟩ | ⟨c1, c2, _⟩
    · omega
    · rw [if_pos ⟨a1, a2⟩, if_neg c1]; omega
    · rw [if_neg a1, if_pos ⟨c1, c2⟩]; omega
    · rw [if_neg a1, if_neg c1]; exact ne
/-- a slot is left -/
theorem Mt.unset (M : Mt K so H0 A0 S σ ρ H A) (i : Nat) : Mt K so H0 A0 S σ (ρ.set i none) H A :=
  M.re id (by simp [M.len]) (fun k b e => by
    by_cases z : k = i
    · subst z
      by_cases h : k < ρ.length
      · rw [List.getElem?_set_self h] at e; cases e
      · rw [List.getElem?_eq_none (by simpa using h)] at e; cases e
    · rw [List.getElem?_set_ne (Ne.symm z)] at e
      exact ⟨e, rfl⟩) fun i j _ _ ne _ _ _ _ => ne
/-- what is wiped -/
theorem Mt.weak (M : Mt K so H0 A0 S σ ρ H A) (hl : σ'.length = ρ'.length) (h : ∀ (i : Nat) (b : Bd), ρ'[i]? = some (some b) → ρ[i]? = some (some b) ∧ σ'[i]? = σ[i]?) : Mt K so H0 A0 S σ' ρ' H A :=
  M.re id hl h fun i j _ _ ne _ _ _ _ => ne
/-- an own list is frozen -/
theorem Mt.frz (M : Mt K so H0 A0 S σ ρ H A) {i : Nat} {ds : List PyData} (h : ρ[i]? = some (some (.lst ds))) : ∃ A', Mt K so H0 A0 S σ (ρ.set i (some (.imm (.list ds)))) H A' := by
  obtain ⟨v, e1, a, vs, rfl, ha, na, h0, hd⟩ := M.bd i _ h
  have hi : i < ρ.length := by
    rcases Nat.lt_or_ge i ρ.length with z | z
    · exact z
    · rw [List.getElem?_eq_none z] at h; cases h
  refine ⟨fun b => A b ∨ b = a, ⟨by simp [M.len], M.keep, fun b q => .inl (M.a0 b q), fun b q => ?_, fun b q => ?_, fun b q => ?_, M.so0, M.src, fun k c e => ?_, fun k j c c' w ne e2 e3 o1 o2 e4 => ?_⟩⟩
  · rcases q with q | rfl
    · exact M.an b q
    · exact .inr h0
  · rcases q with q | rfl
    · exact M.fz b q
    · exact ⟨_, ha⟩
  · rcases q with q | rfl
    · exact M.ns b q
    · exact M.n0 h0
  · by_cases z : k = i
    · subst z
      rw [List.getElem?_set_self hi] at e
      cases e
      refine ⟨_, e1, Den.lst (.inr rfl) ha (hd.mono (fun _ q => .inl q) (fun _ _ _ q => q) fun _ _ q => q)⟩
    · rw [List.getElem?_set_ne (Ne.symm z)] at e
      obtain ⟨w, e5, o⟩ := M.bd k c e
      refine ⟨w, e5, o.up (H' := H) (fun _ _ q _ => q) M.src M.so0 M.ns (fun _ q => .inl q) fun a' ho ev na' q => ?_⟩
      rcases q with q | rfl
      · exact na' q
      · subst ev
        exact M.sep k i c _ _ z e h ho rfl e5 e1
  · have old : ∀ {k : Nat} {c : Bd}, (ρ.set i (some (.imm (.list ds))))[k]? = some (some c) → c.own = true → ρ[k]? = some (some c) := fun {k c} e ho => by
      by_cases z : k = i
      · subst z
        rw [List.getElem?_set_self hi] at e
        cases e
        cases ho
      · rw [List.getElem?_set_ne (Ne.symm z)] at e; exact e
    exact M.sep k j c c' w ne (old e2 o1) (old e3 o2) o1 o2 e4
/-- an own list is changed -/
theorem Mt.mut (M : Mt K so H0 A0 S σ ρ H A) {i : Nat} {ds ds' : List PyData} {a : Addr} {vs' : List V} (nb : ∀ (j : Nat) (es : List PyData), ρ[j]? = some (some (.bor es)) → σ[j]? ≠ some (some (.ref a))) (h : ρ[i]? = some (some (.lst ds))) (hv : σ[i]? = some (some (.ref a))) (hd' : DenL K H A vs' ds') :
    Mt K so H0 A0 S σ (ρ.set i (some (.lst ds'))) (upd H a (.lst vs')) A := by
  obtain ⟨v, e1, a', vs, rfl, ha, na, h0, hd⟩ := M.bd i _ h
  rw [hv] at e1
  cases e1
  have hi : i < ρ.length := by
    rcases Nat.lt_or_ge i ρ.length with z | z
    · exact z
    · rw [List.getElem?_eq_none z] at h; cases h
  have nh := M.n0 h0
  have hAk : ∀ b xs, A b → H b = some (.lst xs) → upd H a (.lst vs') b = some (.lst xs) := fun b xs hb e => by
    rw [upd_ne (show b ≠ a from fun z => na (by rw [← z]; exact hb))]; exact e
  have hT : ∀ c xs, H c = some (.tup xs) → upd H a (.lst vs') c = some (.tup xs) := fun c xs q => by
    rw [upd_ne (ne_of q ha (by intro z; cases z))]; exact q
  refine ⟨by simp [M.len], fun b x e n => ?_, M.a0, M.an, fun b q => ?_, M.ns, M.so0, M.src.keepd fun b q => upd_ne (show b ≠ a from fun z => nh (by rw [← z]; exact q)), fun k c e => ?_, fun k j c c' w ne e2 e3 o1 o2 e4 => ?_⟩
  · rw [upd_ne (fun z => by rw [z, h0] at e; cases e)]; exact M.keep b x e n
  · obtain ⟨xs, z⟩ := M.fz b q
    exact ⟨xs, hAk b xs q z⟩
  · by_cases z : k = i
    · subst z
      rw [List.getElem?_set_self hi] at e
      cases e
      exact ⟨_, hv, a, vs', rfl, upd_same, na, h0, hd'.mono (fun _ q => q) hAk hT⟩
    · rw [List.getElem?_set_ne (Ne.symm z)] at e
      obtain ⟨w, e5, o⟩ := M.bd k c e
      refine ⟨w, e5, ?_⟩
      have nea : ∀ a2, w = .ref a2 → c.own = true → a2 ≠ a := fun a2 ew ho q => by
        subst q; subst ew
        exact M.sep k i c _ _ z e h ho rfl e5 hv
      cases c with
      | imm d => exact Den.mono (fun _ q => q) hAk hT o
      | bor es =>
        obtain ⟨a2, vs2, rfl, g1, g2, g3⟩ := o
        have ne : a2 ≠ a := fun q => nb k es e (by rw [e5, q])
        exact ⟨a2, vs2, rfl, by rw [upd_ne ne]; exact g1, g2, g3.mono (fun _ q => q) hAk hT⟩
      | lst ds2 =>
        obtain ⟨a2, vs2, rfl, g1, g2, g3, g4⟩ := o
        exact ⟨a2, vs2, rfl, by rw [upd_ne (nea a2 rfl rfl)]; exact g1, g2, g3, g4.mono (fun _ q => q) hAk hT⟩
      | dk kvs =>
        obtain ⟨a2, kv, rfl, g1, g2, g3, g4⟩ := o
        exact ⟨a2, kv, rfl, by rw [upd_ne (nea a2 rfl rfl)]; exact g1, g2, g3, Paired.mapP g4 fun p q z => ⟨z.1, Den.mono (fun _ q => q) hAk hT z.2⟩⟩
      | dt kvs =>
        obtain ⟨a2, kv, rfl, g1, g2, g3, g4⟩ := o
        exact ⟨a2, kv, rfl, by rw [upd_ne (nea a2 rfl rfl)]; exact g1, g2, g3, Paired.mapP g4 fun p q z => ⟨z.1, Den.mono (fun _ q => q) hAk hT z.2⟩⟩
      | src => exact o
      | ref _ => exact o
      | wr _ => exact o
  · have old : ∀ {k : Nat} {c : Bd}, (ρ.set i (some (.lst ds')))[k]? = some (some c) → c.own = true → ∃ c2, ρ[k]? = some (some c2) ∧ c2.own = true := fun {k c} e ho => by
      by_cases z : k = i
      · subst z
        exact ⟨_, h, rfl⟩
      · rw [List.getElem?_set_ne (Ne.symm z)] at e; exact ⟨c, e, ho⟩
    obtain ⟨d1, f1, f2⟩ := old e2 o1
    obtain ⟨d2, f3, f4⟩ := old e3 o2
    exact M.sep k j d1 d2 w ne f1 f3 f2 f4 e4
end
end DL
set_option maxRecDepth 100000
set_option maxHeartbeats 2000000
/-! DB: the judgements of the data layer, expressions, tests, argument lists. -/
namespace DL
open PySem PySem.Spec PyProof.Rows L2

inductive R (α : Type) where
  | ok (a : α) (ρ : En) (S : Src)
  | bad
namespace R
def bind {α β : Type} (r : R α) (k : α → En → Src → R β) : R β := match r with
  | .ok a ρ S => k a ρ S
  | .bad => .bad
def Post {α : Type} (r : R α) (P : α → En → Src → Prop) : Prop := match r with
  | .ok a ρ S => P a ρ S
  | .bad => False
def of {α : Type} (o : Option α) (ρ : En) (S : Src) : R α := match o with
  | some a => .ok a ρ S
  | none => .bad
theorem post_bind {α β : Type} {r : R α} {k : α → En → Src → R β} {P : β → En → Src → Prop} : (r.bind k).Post P ↔ r.Post fun a ρ S => (k a ρ S).Post P := by
  cases r <;> exact Iff.rfl
theorem post_of {α : Type} {o : Option α} {ρ : En} {S : Src} {P : α → En → Src → Prop} : (R.of o ρ S).Post P ↔ ∃ a, o = some a ∧ P a ρ S := by
  cases o with
  | none => exact ⟨fun h => h.elim, fun ⟨_, e, _⟩ => nomatch e⟩
  | some a => exact ⟨fun h => ⟨a, rfl, h⟩, fun ⟨_, e, h⟩ => by cases e; exact h⟩
theorem Post.imp {α : Type} {r : R α} {P P' : α → En → Src → Prop} (h : r.Post P) (f : ∀ a ρ S, P a ρ S → P' a ρ S) : r.Post P' := by
  cases r with
  | ok a ρ S => exact f _ _ _ h
  | bad => exact h
theorem Post.get {α : Type} {r : R α} {P : α → En → Src → Prop} (h : r.Post P) : ∃ a ρ S, r = .ok a ρ S ∧ P a ρ S := by
  cases r with
  | ok a ρ S => exact ⟨a, ρ, S, rfl, h⟩
  | bad => exact h.elim
end R
abbrev SE := En → Src → R Bd
abbrev SA := En → Src → R (List Bd)
abbrev SB := En → Src → R Bool
inductive Fl where
  | nx | rt (b : Bd) | bk | ct
abbrev SS := En → Src → R Fl

section
variable (K : PySem.W.Frag) (so : SO)
def RdE (t : TE) (f : SE) : Prop := ∀ (H0 : Hp) (A0 : Addr → Prop) (S : Src) (σ : Sl) (ρ : En) (tv : Sl) (tb : En) (H : Hp) (A : Addr → Prop) (Q : VK), σ.length = ρ.length → Mt K so H0 A0 S (σ ++ tv) (ρ ++ tb) H A →
  (f ρ S).Post (fun b ρ' S' => ∀ v H' A', σ.length = ρ'.length → Mt K so H0 A0 S' (σ ++ tv ++ [some v]) (ρ' ++ tb ++ [some b]) H' A' → Q v H') → t σ H Q
def RdT (t : TT) (f : SB) : Prop := ∀ (H0 : Hp) (A0 : Addr → Prop) (S : Src) (σ : Sl) (ρ : En) (tv : Sl) (tb : En) (H : Hp) (A : Addr → Prop) (Q : Bool → Hp → Prop), σ.length = ρ.length → Mt K so H0 A0 S (σ ++ tv) (ρ ++ tb) H A →
  (f ρ S).Post (fun c ρ' S' => ∀ H' A', σ.length = ρ'.length → Mt K so H0 A0 S' (σ ++ tv) (ρ' ++ tb) H' A' → Q c H') → t σ H Q
def RdA (t : TA) (f : SA) : Prop := ∀ (H0 : Hp) (A0 : Addr → Prop) (S : Src) (σ : Sl) (ρ : En) (tv : Sl) (tb : En) (H : Hp) (A : Addr → Prop) (Q : List V → Hp → Prop), σ.length = ρ.length → Mt K so H0 A0 S (σ ++ tv) (ρ ++ tb) H A →
  (f ρ S).Post (fun bs ρ' S' => ∀ vs H' A', σ.length = ρ'.length → vs.length = bs.length → Mt K so H0 A0 S' (σ ++ tv ++ vs.map some) (ρ' ++ tb ++ bs.map some) H' A' → Q vs H') → t σ H Q
end
structure DE (X : Cx) (so : SO) (e : Expr) (t : TE) (f : SE) : Prop where
  pe : PE X e t
  rd : RdE X.K so t f
structure DT (X : Cx) (so : SO) (e : Expr) (t : TT) (f : SB) : Prop where
  pt : PT X e t
  rd : RdT X.K so t f
structure DW (X : Cx) (so : SO) (e : Expr) (t : TT) (f : SB) : Prop where
  pw : PW X e t
  rd : RdT X.K so t f
structure DAr (X : Cx) (so : SO) (es : List Expr) (t : TA) (f : SA) : Prop where
  pa : PA X es t
  rd : RdA X.K so t f

/-! ### what a value holds -/
def toD : Bd → Option PyData
  | .imm d => some d
  | .bor ds => some (.list ds)
  | .lst ds => some (.list ds)
  | .wr d => some d
  | _ => none
def toL : Bd → Option (List PyData)
  | .imm (.list ds) => some ds
  | .bor ds => some ds
  | .lst ds => some ds
  | _ => none
/-- as data for good -/
def toF : Bd → Option PyData
  | .imm d => some d
  | .lst ds => some (.list ds)
  | _ => none
/-- a binding that is frozen where it can be -/
def frzB : Bd → Bd
  | .lst ds => .imm (.list ds)
  | b => b
/-- what may be stored -/
def stB : Bd → Option Bd
  | .bor _ => none
  | b => some b
theorem sqL_k {K : PySem.W.Frag} {H : Hp} {a : Addr} {xs : List V} (h : SqL K (fun _ => none) a xs) : SqL K H a xs := by
  rcases h with (h | ⟨o, h⟩) | h
  · cases h
  · cases h
  · exact .inr h
theorem sqT_k {K : PySem.W.Frag} {H : Hp} {a : Addr} {xs : List V} (h : SqT K (fun _ => none) a xs) : SqT K H a xs := by
  rcases h with (h | ⟨o, h⟩) | h
  · cases h
  · cases h
  · exact .inr h
mutual
theorem dp_k {K : PySem.W.Frag} {H : Hp} : ∀ {d : PyData} {v : V}, Dp K (fun _ => none) v d → Dp K H v d
  | .none, _, h => by cases h; exact .non
  | .bool b, _, h => by cases h; exact .bl b
  | .int i, _, h => by cases h; exact .int i
  | .str x, _, h => by cases h; exact .str x
  | .list ds, _, h => by
    cases h with
    | lst hs hl => exact .lst (sqL_k hs) (dpAll_k hl)
  | .tuple ds, _, h => by
    cases h with
    | tup hs hl => exact .tup (sqT_k hs) (dpAll_k hl)
  | .dict _, _, h => by cases h
theorem dpAll_k {K : PySem.W.Frag} {H : Hp} : ∀ {ds : List PyData} {vs : List V}, DpAll K (fun _ => none) vs ds → DpAll K H vs ds
  | [], _, h => by cases h; exact .nil
  | d :: ds, _, h => by
    cases h with
    | cons h1 h2 => exact .cons (dp_k h1) (dpAll_k h2)
end
section
variable {K : PySem.W.Frag} {so : SO} {H0 H H' : Hp} {A0 A A' : Addr → Prop} {S S' : Src} {σ σ' tv : Sl} {ρ ρ' tb : En} {v x y : V} {b c : Bd}
theorem OOk.dp {d : PyData} (h : OOk K so H0 H A v b) (e : toD b = some d) : Dp K H v d := by
  cases b with
  | imm d => cases e; exact Den.dp h
  | bor ds => cases e; obtain ⟨a, vs, rfl, ha, _, hd⟩ := h; exact .lst (SqL.of ha) hd.dp
  | lst ds => cases e; obtain ⟨a, vs, rfl, ha, _, _, hd⟩ := h; exact .lst (SqL.of ha) hd.dp
  | wr d => cases e; exact dp_k h
  | dk _ => cases e
  | dt _ => cases e
  | src => cases e
  | ref _ => cases e
theorem OOk.lstI {ds : List PyData} (h : OOk K so H0 H A v b) (e : toL b = some ds) : ∃ a vs, v = .ref a ∧ H a = some (.lst vs) ∧ DenL K H A vs ds := by
  cases b with
  | imm d =>
    cases d with
    | list es => cases e; cases h with | lst ha hh hl => exact ⟨_, _, rfl, hh, hl⟩
    | _ => cases e
  | bor ds => cases e; obtain ⟨a, vs, rfl, ha, _, hd⟩ := h; exact ⟨a, vs, rfl, ha, hd⟩
  | lst ds => cases e; obtain ⟨a, vs, rfl, ha, _, _, hd⟩ := h; exact ⟨a, vs, rfl, ha, hd⟩
  | wr _ => cases e
  | dk _ => cases e
  | dt _ => cases e
  | src => cases e
  | ref _ => cases e
theorem OOk.tupI {ds : List PyData} (h : OOk K so H0 H A v (.imm (.tuple ds))) : ∃ a vs, v = .ref a ∧ H a = some (.tup vs) ∧ DenL K H A vs ds := by
  cases h with
  | tup hh hl => exact ⟨_, _, rfl, hh, hl⟩
theorem _root_.L2.Dp.intI {i : Int} (h : Dp K H v (.int i)) : v = .int i := by cases h; rfl
theorem _root_.L2.Dp.strI {i : Str} (h : Dp K H v (.str i)) : v = .str i := by cases h; rfl
theorem _root_.L2.Dp.blI {i : Bool} (h : Dp K H v (.bool i)) : v = .bl i := by cases h; rfl
theorem Mt.last (M : Mt K so H0 A0 S (σ ++ [some v]) (ρ ++ [some b]) H A) : OOk K so H0 H A v b := by
  have hl : σ.length = ρ.length := by have := M.len; simp at this; exact this
  obtain ⟨w, e, o⟩ := M.bd ρ.length b (by rw [List.getElem?_append_right (Nat.le_refl _), Nat.sub_self]; rfl)
  rw [← hl, List.getElem?_append_right (Nat.le_refl _), Nat.sub_self] at e
  simp at e
  subst e
  exact o
theorem Mt.init (M : Mt K so H0 A0 S (σ ++ [some v]) (ρ ++ [some b]) H A) : Mt K so H0 A0 S σ ρ H A := M.sub (by have := M.len; simp at this; exact this)
theorem Mt.len1 (M : Mt K so H0 A0 S (σ ++ [some v]) (ρ ++ [some b]) H A) : σ.length = ρ.length := by have := M.len; simp at this; exact this
/-- the last two, without the last but one -/
theorem Mt.cut1 (M : Mt K so H0 A0 S (σ ++ [some x] ++ [some v]) (ρ ++ [some c] ++ [some b]) H A) : Mt K so H0 A0 S (σ ++ [some v]) (ρ ++ [some b]) H A :=
  M.cut (by have := M.len; simp at this; exact this) rfl
theorem Mt.cut2 (M : Mt K so H0 A0 S (σ ++ [some x] ++ [some y] ++ [some v]) (ρ ++ [some c] ++ [some b'] ++ [some b]) H A) : Mt K so H0 A0 S (σ ++ [some v]) (ρ ++ [some b]) H A :=
  M.cut1.cut1
theorem Mt.slot (M : Mt K so H0 A0 S (σ ++ tv) (ρ ++ tb) H A) (hl : σ.length = ρ.length) {i : Nat} {b : Bd} (h : ρ[i]? = some (some b)) : ∃ v, σ[i]? = some (some v) ∧ OOk K so H0 H A v b := by
  have hi : i < ρ.length := by
    rcases Nat.lt_or_ge i ρ.length with z | z
    · exact z
    · rw [List.getElem?_eq_none z] at h; cases h
  obtain ⟨v, e, o⟩ := M.bd i b (by rw [List.getElem?_append_left hi]; exact h)
  exact ⟨v, by rw [List.getElem?_append_left (by omega)] at e; exact e, o⟩
theorem getlt {α : Type} {l : List α} {i : Nat} {x : α} (h : l[i]? = some x) : i < l.length := by
  rcases Nat.lt_or_ge i l.length with z | z
  · exact z
  · rw [List.getElem?_eq_none z] at h; cases h

/-! ### names, constants -/
/-- a name: an own list is borrowed -/
def fVar (i : Nat) : SE := fun ρ S => match ρ[i]? with
  | some (some (.lst ds)) => .ok (.bor ds) ρ S
  | some (some (.dk _)) => .bad
  | some (some (.dt _)) => .bad
  | some (some b) => .ok b ρ S
  | _ => .bad
theorem rd_var (i : Nat) : RdE K so (tVar i) (fVar i) := fun H0 A0 S σ ρ tv tb H A Q hl M h => by
  unfold fVar at h
  split at h
  · rename_i ds e
    obtain ⟨v, e1, o⟩ := M.slot hl e
    obtain ⟨a, vs, rfl, ha, na, h0, hd⟩ := o
    exact ⟨_, e1, h _ H A hl (M.pushI ⟨a, vs, rfl, ha, M.n0 h0, hd⟩ rfl)⟩
  · exact h.elim
  · exact h.elim
  · rename_i b n1 n2 n3 e
    obtain ⟨v, e1, o⟩ := M.slot hl e
    refine ⟨_, e1, h _ H A hl (M.push o fun ho => ?_)⟩
    cases b with
    | lst ds => exact (n1 ds rfl).elim
    | dk ds => exact (n2 ds rfl).elim
    | dt ds => exact (n3 ds rfl).elim
    | _ => cases ho
  · exact h.elim
/-- a name whose own list is frozen from here on -/
def fFrz (i : Nat) : SE := fun ρ S => match ρ[i]? with
  | some (some (.lst ds)) => .ok (.imm (.list ds)) (ρ.set i (some (.imm (.list ds)))) S
  | some (some (.dk _)) => .bad
  | some (some (.dt _)) => .bad
  | some (some b) => .ok b ρ S
  | _ => .bad
theorem set_app {α : Type} {l m : List α} {i : Nat} {x : α} (h : i < l.length) : (l ++ m).set i x = l.set i x ++ m := by
  rw [List.set_append, if_pos h]
theorem rd_frz (i : Nat) : RdE K so (tVar i) (fFrz i) := fun H0 A0 S σ ρ tv tb H A Q hl M h => by
  unfold fFrz at h
  split at h
  · rename_i ds e
    have hi := getlt e
    obtain ⟨v, e1, _⟩ := M.slot hl e
    obtain ⟨A', M'⟩ := M.frz (i := i) (ds := ds) (by rw [List.getElem?_append_left hi]; exact e)
    rw [set_app hi] at M'
    have hl' : σ.length = (ρ.set i (some (.imm (.list ds)))).length := by simpa using hl
    obtain ⟨v', e1', o⟩ := M'.slot hl' (i := i) (List.getElem?_set_self hi)
    rw [e1] at e1'
    cases e1'
    exact ⟨_, e1, h _ H A' hl' (M'.pushI o rfl)⟩
  · exact h.elim
  · exact h.elim
  · rename_i b n1 n2 n3 e
    obtain ⟨v, e1, o⟩ := M.slot hl e
    refine ⟨_, e1, h _ H A hl (M.push o fun ho => ?_)⟩
    cases b with
    | lst ds => exact (n1 ds rfl).elim
    | dk ds => exact (n2 ds rfl).elim
    | dt ds => exact (n3 ds rfl).elim
    | _ => cases ho
  · exact h.elim
/-- a name that is left by this -/
def fMov (i : Nat) : SE := fun ρ S => match ρ[i]? with
  | some (some b) => .ok b (ρ.set i none) S
  | _ => .bad
theorem rd_mov (i : Nat) : RdE K so (tVar i) (fMov i) := fun H0 A0 S σ ρ tv tb H A Q hl M h => by
  unfold fMov at h
  split at h
  · rename_i b e
    have hi := getlt e
    obtain ⟨v, e1, o⟩ := M.slot hl e
    have M' := M.unset i
    rw [set_app hi] at M'
    have hl' : σ.length = (ρ.set i none).length := by simpa using hl
    refine ⟨_, e1, h v H A hl' (M'.push o fun ho j b' ej hj ev => ?_)⟩
    by_cases z : j = i
    · subst z
      rw [List.getElem?_append_left (by simpa using hi), List.getElem?_set_self hi] at ej
      cases ej
    · have ej' : (ρ ++ tb)[j]? = some (some b') := by
        rw [← set_app hi, List.getElem?_set_ne (Ne.symm z)] at ej
        exact ej
      exact M.sep j i b' b v z ej' (by rw [List.getElem?_append_left hi]; exact e) hj ho ev (by rw [List.getElem?_append_left (by omega)]; exact e1)
  · exact h.elim
def fC (d : PyData) : SE := fun ρ S => .ok (.imm d) ρ S
theorem rd_c {d : PyData} (hv : ∀ H A, Den K H A v d) : RdE K so (tC v) (fC d) := fun H0 A0 S σ ρ tv tb H A Q hl M h => h v H A hl (M.pushI (hv H A) rfl)
/-- a written thing of the module -/
def fW (d : PyData) : SE := fun ρ S => .ok (.wr d) ρ S
theorem rd_w {d : PyData} (hv : Dp K (fun _ => none) v d) : RdE K so (tC v) (fW d) := fun H0 A0 S σ ρ tv tb H A Q hl M h => h v H A hl (M.pushI (b := .wr d) hv rfl)
def fRef (a : Addr) : SE := fun ρ S => .ok (.ref a) ρ S
theorem rd_ref {a : Addr} : RdE K so (tC (.ref a)) (fRef a) := fun H0 A0 S σ ρ tv tb H A Q hl M h => h _ H A hl (M.pushI (b := .ref a) rfl rfl)

/-! ### two values, one value -/
def OpS (K : PySem.W.Frag) (so : SO) (r : R2) (o : Bd → Bd → Option Bd) : Prop := ∀ (H0 : Hp) (A0 : Addr → Prop) (S : Src) (σ : Sl) (ρ : En) (H : Hp) (A : Addr → Prop) (x y : V) (bx by_ b : Bd) (Q : VK),
  Mt K so H0 A0 S (σ ++ [some x] ++ [some y]) (ρ ++ [some bx] ++ [some by_]) H A → o bx by_ = some b →
  (∀ v H' A', Mt K so H0 A0 S (σ ++ [some x] ++ [some y] ++ [some v]) (ρ ++ [some bx] ++ [some by_] ++ [some b]) H' A' → Q v H') → r x y H Q
def fOp (o : Bd → Bd → Option Bd) (fa fb : SE) : SE := fun ρ S => (fa ρ S).bind fun x ρ S => (fb ρ S).bind fun y ρ S => R.of (o x y) ρ S
theorem rd_op {r : R2} {o : Bd → Bd → Option Bd} {ta tb' : TE} {fa fb : SE} (ho : OpS K so r o) (ha : RdE K so ta fa) (hb : RdE K so tb' fb) : RdE K so (tOp r ta tb') (fOp o fa fb) := fun H0 A0 S σ ρ tv tb H A Q hl M h => by
  refine ha H0 A0 S σ ρ tv tb H A _ hl M ?_
  refine (R.post_bind.mp h).imp fun bx ρ1 S1 h v1 H1 A1 hl1 M1 => ?_
  refine hb H0 A0 S1 σ ρ1 (tv ++ [some v1]) (tb ++ [some bx]) H1 A1 _ hl1 (by simpa only [List.append_assoc] using M1) ?_
  refine (R.post_bind.mp h).imp fun by_ ρ2 S2 h v2 H2 A2 hl2 M2 => ?_
  obtain ⟨b, e, h⟩ := R.post_of.mp h
  have M2' : Mt K so H0 A0 S2 (σ ++ tv ++ [some v1] ++ [some v2]) (ρ2 ++ tb ++ [some bx] ++ [some by_]) H2 A2 := by simpa only [List.append_assoc] using M2
  exact ho H0 A0 S2 (σ ++ tv) (ρ2 ++ tb) H2 A2 v1 v2 bx by_ b Q M2' e fun v H' A' M' => h v H' A' hl2 M'.cut2
def UnS (K : PySem.W.Frag) (so : SO) (r : V → Hp → VK → Prop) (o : Bd → Option Bd) : Prop := ∀ (H0 : Hp) (A0 : Addr → Prop) (S : Src) (σ : Sl) (ρ : En) (H : Hp) (A : Addr → Prop) (x : V) (bx b : Bd) (Q : VK),
  Mt K so H0 A0 S (σ ++ [some x]) (ρ ++ [some bx]) H A → o bx = some b →
  (∀ v H' A', Mt K so H0 A0 S (σ ++ [some x] ++ [some v]) (ρ ++ [some bx] ++ [some b]) H' A' → Q v H') → r x H Q
def fUn (o : Bd → Option Bd) (fa : SE) : SE := fun ρ S => (fa ρ S).bind fun x ρ S => R.of (o x) ρ S
theorem rd_un {r : V → Hp → VK → Prop} {o : Bd → Option Bd} {ta : TE} {fa : SE} (ho : UnS K so r o) (ha : RdE K so ta fa) : RdE K so (fun σ H Q => ta σ H fun x H1 => r x H1 Q) (fUn o fa) := fun H0 A0 S σ ρ tv tb H A Q hl M h => by
  refine ha H0 A0 S σ ρ tv tb H A _ hl M ?_
  refine (R.post_bind.mp h).imp fun bx ρ1 S1 h v1 H1 A1 hl1 M1 => ?_
  obtain ⟨b, e, h⟩ := R.post_of.mp h
  exact ho H0 A0 S1 (σ ++ tv) (ρ1 ++ tb) H1 A1 v1 bx b Q M1 e fun v H' A' M' => h v H' A' hl1 M'.cut1

/-! ### argument lists, displays -/
def aNil : SA := fun ρ S => .ok [] ρ S
def aCons (fa : SE) (fr : SA) : SA := fun ρ S => (fa ρ S).bind fun b ρ S => (fr ρ S).bind fun bs ρ S => .ok (b :: bs) ρ S
theorem rda_nil : RdA K so tNil aNil := fun H0 A0 S σ ρ tv tb H A Q hl M h => h [] H A hl rfl (by simpa using M)
theorem rda_cons {ta : TE} {tr : TA} {fa : SE} {fr : SA} (ha : RdE K so ta fa) (hr : RdA K so tr fr) : RdA K so (tCons ta tr) (aCons fa fr) := fun H0 A0 S σ ρ tv tb H A Q hl M h => by
  refine ha H0 A0 S σ ρ tv tb H A _ hl M ?_
  refine (R.post_bind.mp h).imp fun b ρ1 S1 h v1 H1 A1 hl1 M1 => ?_
  refine hr H0 A0 S1 σ ρ1 (tv ++ [some v1]) (tb ++ [some b]) H1 A1 _ hl1 (by simpa only [List.append_assoc] using M1) ?_
  refine (R.post_bind.mp h).imp fun bs ρ2 S2 h vs H2 A2 hl2 hn M2 => ?_
  exact h (v1 :: vs) H2 A2 hl2 (by simp [hn]) (by simpa [List.append_assoc] using M2)
def toFs : List Bd → Option (List PyData)
  | [] => some []
  | b :: bs => match toF b, toFs bs with
    | some d, some ds => some (d :: ds)
    | _, _ => none
/-- a row of values frozen -/
theorem Mt.frzs : ∀ {bs : List Bd} {vs : List V} {ds : List PyData} {σ : Sl} {ρ : En} {A : Addr → Prop}, Mt K so H0 A0 S (σ ++ vs.map some) (ρ ++ bs.map some) H A → σ.length = ρ.length → toFs bs = some ds →
    ∃ A', Mt K so H0 A0 S (σ ++ vs.map some) (ρ ++ (ds.map fun d => some (Bd.imm d))) H A' ∧ DenL K H A' vs ds
  | [], vs, ds, σ, ρ, A, M, hl, e => by
    cases e
    have : vs = [] := by
      have := M.len
      simp [hl] at this
      exact this
    subst this
    exact ⟨A, M, .nil⟩
  | b :: bs, vs, ds, σ, ρ, A, M, hl, e => by
    cases vs with
    | nil => have := M.len; simp [hl] at this
    | cons v vs =>
    simp only [toFs] at e
    cases eb : toF b with
    | none => rw [eb] at e; cases e
    | some d =>
    cases er : toFs bs with
    | none => rw [eb, er] at e; cases e
    | some es =>
    rw [eb, er] at e
    cases e
    have M' : Mt K so H0 A0 S (σ ++ [some v] ++ vs.map some) (ρ ++ [some b] ++ bs.map some) H A := by simpa using M
    have one : ∃ A', Mt K so H0 A0 S (σ ++ [some v] ++ vs.map some) (ρ ++ [some (.imm d)] ++ bs.map some) H A' := by
      cases b with
      | imm d' => cases eb; exact ⟨A, M'⟩
      | lst ds' =>
        cases eb
        obtain ⟨A', M2⟩ := M'.frz (i := ρ.length) (ds := ds') (by rw [List.append_assoc, List.getElem?_append_right (Nat.le_refl _), Nat.sub_self]; rfl)
        refine ⟨A', ?_⟩
        rw [set_app (by simp), List.set_append, if_neg (by omega), Nat.sub_self] at M2
        exact M2
      | _ => cases eb
    obtain ⟨A1, M1⟩ := one
    obtain ⟨A2, M2, D2⟩ := Mt.frzs (σ := σ ++ [some v]) (ρ := ρ ++ [some (.imm d)]) M1 (by simp [hl]) er
    refine ⟨A2, by simpa using M2, .cons ?_ D2⟩
    have M3 := M2.sub (by simp [hl])
    exact M3.last
def tupB (bs : List Bd) : Option Bd := match toFs bs with
  | some ds => if ds.length ≤ 1000 then some (.imm (.tuple ds)) else none
  | none => none
def lstB (bs : List Bd) : Option Bd := match toFs bs with
  | some ds => if ds.length ≤ 1000 then some (.lst ds) else none
  | none => none
def fAr (o : List Bd → Option Bd) (fa : SA) : SE := fun ρ S => (fa ρ S).bind fun bs ρ S => R.of (o bs) ρ S
theorem Mt.cutN {vs : List V} {bs : List Bd} (M : Mt K so H0 A0 S (σ ++ vs.map some ++ [some v]) (ρ ++ bs.map some ++ [some b]) H A) (hl : σ.length = ρ.length) (hn : vs.length = bs.length) : Mt K so H0 A0 S (σ ++ [some v]) (ρ ++ [some b]) H A :=
  M.cut hl (by simp [hn])
theorem lim1000 {n : Nat} (h : n ≤ 1000) : n ≤ sizeLine := Nat.le_of_lt (small1000 h)
theorem rd_tup {ta : TA} {fa : SA} (ha : RdA K so ta fa) : RdE K so (tTup ta) (fAr tupB fa) := fun H0 A0 S σ ρ tv tb H A Q hl M h => by
  refine ha H0 A0 S σ ρ tv tb H A _ hl M ?_
  refine (R.post_bind.mp h).imp fun bs ρ1 S1 h vs H1 A1 hl1 hn M1 => ?_
  obtain ⟨b, e, h⟩ := R.post_of.mp h
  unfold tupB at e
  cases ef : toFs bs with
  | none => rw [ef] at e; cases e
  | some ds =>
    rw [ef] at e
    simp only at e
    split at e
    · rename_i hz
      cases e
      have hlt : (σ ++ tv).length = (ρ1 ++ tb).length := by have := M1.len; simp at this ⊢; omega
      obtain ⟨A2, M2, D2⟩ := M1.frzs hlt ef
      refine ⟨lim1000 (by rw [DenL.length D2]; exact hz), fun p hp => ?_⟩
      have M3 := M2.newT hp D2
      exact h (.ref p) _ A2 hl1 (M3.cut hlt (by simp [DenL.length D2]))
    · cases e
theorem rd_lst {ta : TA} {fa : SA} (ha : RdA K so ta fa) : RdE K so (tLst ta) (fAr lstB fa) := fun H0 A0 S σ ρ tv tb H A Q hl M h => by
  refine ha H0 A0 S σ ρ tv tb H A _ hl M ?_
  refine (R.post_bind.mp h).imp fun bs ρ1 S1 h vs H1 A1 hl1 hn M1 => ?_
  obtain ⟨b, e, h⟩ := R.post_of.mp h
  unfold lstB at e
  cases ef : toFs bs with
  | none => rw [ef] at e; cases e
  | some ds =>
    rw [ef] at e
    simp only at e
    split at e
    · rename_i hz
      cases e
      have hlt : (σ ++ tv).length = (ρ1 ++ tb).length := by have := M1.len; simp at this ⊢; omega
      obtain ⟨A2, M2, D2⟩ := M1.frzs hlt ef
      refine ⟨lim1000 (by rw [DenL.length D2]; exact hz), fun p hp => ?_⟩
      have M3 := M2.newL hp D2
      exact h (.ref p) _ A2 hl1 (M3.cut hlt (by simp [DenL.length D2]))
    · cases e
/-- a call of a built-in, by values -/
def CaS (K : PySem.W.Frag) (so : SO) (r : List V → Hp → VK → Prop) (o : List Bd → Option Bd) : Prop := ∀ (H0 : Hp) (A0 : Addr → Prop) (S : Src) (σ : Sl) (ρ : En) (H : Hp) (A : Addr → Prop) (vs : List V) (bs : List Bd) (b : Bd) (Q : VK), σ.length = ρ.length → vs.length = bs.length →
  Mt K so H0 A0 S (σ ++ vs.map some) (ρ ++ bs.map some) H A → o bs = some b →
  (∀ v H' A', Mt K so H0 A0 S (σ ++ vs.map some ++ [some v]) (ρ ++ bs.map some ++ [some b]) H' A' → Q v H') → r vs H Q
theorem rd_ca {r : List V → Hp → VK → Prop} {o : List Bd → Option Bd} {ta : TA} {fa : SA} (ho : CaS K so r o) (ha : RdA K so ta fa) : RdE K so (fun σ H Q => ta σ H fun xs H1 => r xs H1 Q) (fAr o fa) := fun H0 A0 S σ ρ tv tb H A Q hl M h => by
  refine ha H0 A0 S σ ρ tv tb H A _ hl M ?_
  refine (R.post_bind.mp h).imp fun bs ρ1 S1 h vs H1 A1 hl1 hn M1 => ?_
  obtain ⟨b, e, h⟩ := R.post_of.mp h
  have hlt : (σ ++ tv).length = (ρ1 ++ tb).length := by have := M1.len; simp at this ⊢; omega
  exact ho H0 A0 S1 (σ ++ tv) (ρ1 ++ tb) H1 A1 vs bs b Q hlt hn M1 e fun v H' A' M' => h v H' A' hl1 (M'.cutN hlt hn)
/-- .. of one value -/
theorem CaS.of1 {r : List V → Hp → VK → Prop} {o : Bd → Option Bd} (h : UnS K so (fun x H Q => r [x] H Q) o) : CaS K so r (fun bs => match bs with | [b] => o b | _ => none) := fun H0 A0 S σ ρ H A vs bs b Q hl hn M e q => by
  match bs, vs, hn with
  | [bx], [x], _ => exact h H0 A0 S σ ρ H A x bx b Q (by simpa using M) e fun v H' A' M' => q v H' A' (by simpa using M')
  | [], _, _ => cases e
  | _ :: _ :: _, _, _ => cases e
theorem CaS.of2 {r : List V → Hp → VK → Prop} {o : Bd → Bd → Option Bd} (h : OpS K so (fun x y H Q => r [x, y] H Q) o) : CaS K so r (fun bs => match bs with | [b, c] => o b c | _ => none) := fun H0 A0 S σ ρ H A vs bs b Q hl hn M e q => by
  match bs, vs, hn with
  | [bx, by_], [x, y], _ => exact h H0 A0 S σ ρ H A x y bx by_ b Q (by simpa using M) e fun v H' A' M' => q v H' A' (by simpa using M')
  | [], _, _ => cases e
  | [_], _, _ => cases e
  | _ :: _ :: _ :: _, _, _ => cases e

/-! ### tests -/
def fTest (fe : SE) : SB := fun ρ S => (fe ρ S).bind fun b ρ S => match b with
  | .imm (.bool c) => .ok c ρ S
  | _ => .bad
theorem rdt_val {te : TE} {fe : SE} (h : RdE K so te fe) : RdT K so (tB te) (fTest fe) := fun H0 A0 S σ ρ tv tb H A Q hl M q => by
  refine h H0 A0 S σ ρ tv tb H A _ hl M ?_
  refine (R.post_bind.mp q).imp fun b ρ1 S1 q v1 H1 A1 hl1 M1 => ?_
  split at q
  · rename_i c
    have o := M1.last
    cases o
    exact ⟨c, rfl, q H1 A1 hl1 M1.init⟩
  · exact q.elim
def bAnd (f g : SB) : SB := fun ρ S => (f ρ S).bind fun c ρ S => if c = true then g ρ S else .ok false ρ S
def bOr (f g : SB) : SB := fun ρ S => (f ρ S).bind fun c ρ S => if c = true then .ok true ρ S else g ρ S
def bNot (f : SB) : SB := fun ρ S => (f ρ S).bind fun c ρ S => .ok (!c) ρ S
theorem rdt_and {t u : TT} {f g : SB} (h1 : RdT K so t f) (h2 : RdT K so u g) : RdT K so (tAnd t u) (bAnd f g) := fun H0 A0 S σ ρ tv tb H A Q hl M q => by
  refine h1 H0 A0 S σ ρ tv tb H A _ hl M ?_
  refine (R.post_bind.mp q).imp fun c ρ1 S1 q H1 A1 hl1 M1 => ?_
  cases c with
  | true => rw [if_pos rfl] at q ⊢; exact h2 H0 A0 S1 σ ρ1 tv tb H1 A1 Q hl1 M1 q
  | false => rw [if_neg Bool.false_ne_true] at q ⊢; exact q H1 A1 hl1 M1
theorem rdt_or {t u : TT} {f g : SB} (h1 : RdT K so t f) (h2 : RdT K so u g) : RdT K so (tOr t u) (bOr f g) := fun H0 A0 S σ ρ tv tb H A Q hl M q => by
  refine h1 H0 A0 S σ ρ tv tb H A _ hl M ?_
  refine (R.post_bind.mp q).imp fun c ρ1 S1 q H1 A1 hl1 M1 => ?_
  cases c with
  | true => rw [if_pos rfl] at q ⊢; exact q H1 A1 hl1 M1
  | false => rw [if_neg Bool.false_ne_true] at q ⊢; exact h2 H0 A0 S1 σ ρ1 tv tb H1 A1 Q hl1 M1 q
theorem rdt_not {t : TT} {f : SB} (h1 : RdT K so t f) : RdT K so (tNot t) (bNot f) := fun H0 A0 S σ ρ tv tb H A Q hl M q => by
  refine h1 H0 A0 S σ ρ tv tb H A _ hl M ?_
  exact (R.post_bind.mp q).imp fun c ρ1 S1 q H1 A1 hl1 M1 => q H1 A1 hl1 M1
/-- a if c else b -/
def fIf (c : SB) (f g : SE) : SE := fun ρ S => (c ρ S).bind fun k ρ S => if k = true then f ρ S else g ρ S
theorem rd_if {tc : TT} {ta tb' : TE} {c : SB} {f g : SE} (hc : RdT K so tc c) (h1 : RdE K so ta f) (h2 : RdE K so tb' g) : RdE K so (tIf tc ta tb') (fIf c f g) := fun H0 A0 S σ ρ tv tb H A Q hl M q => by
  refine hc H0 A0 S σ ρ tv tb H A _ hl M ?_
  refine (R.post_bind.mp q).imp fun k ρ1 S1 q H1 A1 hl1 M1 => ?_
  cases k with
  | true => rw [if_pos rfl] at q ⊢; exact h1 H0 A0 S1 σ ρ1 tv tb H1 A1 Q hl1 M1 q
  | false => rw [if_neg Bool.false_ne_true] at q ⊢; exact h2 H0 A0 S1 σ ρ1 tv tb H1 A1 Q hl1 M1 q
/-- and, or, not of truth values, as values -/
def fAnd (f g : SE) : SE := fun ρ S => (f ρ S).bind fun b ρ S => match b with
  | .imm (.bool c) => if c = true then g ρ S else .ok (.imm (.bool false)) ρ S
  | _ => .bad
def fOr (f g : SE) : SE := fun ρ S => (f ρ S).bind fun b ρ S => match b with
  | .imm (.bool c) => if c = true then .ok (.imm (.bool true)) ρ S else g ρ S
  | _ => .bad
def fNot (f : SE) : SE := fun ρ S => (f ρ S).bind fun b ρ S => match b with
  | .imm (.bool c) => .ok (.imm (.bool (!c))) ρ S
  | _ => .bad
theorem rd_and {ta tb' : TE} {f g : SE} (h1 : RdE K so ta f) (h2 : RdE K so tb' g) : RdE K so (tAndV ta tb') (fAnd f g) := fun H0 A0 S σ ρ tv tb H A Q hl M q => by
  refine h1 H0 A0 S σ ρ tv tb H A _ hl M ?_
  refine (R.post_bind.mp q).imp fun b ρ1 S1 q v1 H1 A1 hl1 M1 => ?_
  split at q
  · rename_i c
    have o := M1.last
    cases o
    refine ⟨c, rfl, ?_⟩
    cases c with
    | true => rw [if_pos rfl] at q ⊢; exact h2 H0 A0 S1 σ ρ1 tv tb H1 A1 Q hl1 M1.init q
    | false => rw [if_neg Bool.false_ne_true] at q ⊢; exact q _ H1 A1 hl1 M1
  · exact q.elim
theorem rd_or {ta tb' : TE} {f g : SE} (h1 : RdE K so ta f) (h2 : RdE K so tb' g) : RdE K so (tOrV ta tb') (fOr f g) := fun H0 A0 S σ ρ tv tb H A Q hl M q => by
  refine h1 H0 A0 S σ ρ tv tb H A _ hl M ?_
  refine (R.post_bind.mp q).imp fun b ρ1 S1 q v1 H1 A1 hl1 M1 => ?_
  split at q
  · rename_i c
    have o := M1.last
    cases o
    refine ⟨c, rfl, ?_⟩
    cases c with
    | true => rw [if_pos rfl] at q ⊢; exact q _ H1 A1 hl1 M1
    | false => rw [if_neg Bool.false_ne_true] at q ⊢; exact h2 H0 A0 S1 σ ρ1 tv tb H1 A1 Q hl1 M1.init q
  · exact q.elim
theorem rd_not {ta : TE} {f : SE} (h1 : RdE K so ta f) : RdE K so (tNotV ta) (fNot f) := fun H0 A0 S σ ρ tv tb H A Q hl M q => by
  refine h1 H0 A0 S σ ρ tv tb H A _ hl M ?_
  refine (R.post_bind.mp q).imp fun b ρ1 S1 q v1 H1 A1 hl1 M1 => ?_
  split at q
  · rename_i c
    have o := M1.last
    cases o
    exact ⟨c, rfl, q _ H1 A1 hl1 (M1.init.pushI (Den.bl _) rfl)⟩
  · exact q.elim
end
end DL
set_option maxRecDepth 100000
set_option maxHeartbeats 2000000
/-! DC: what a def promises by data; its call; operators, built-ins by data. -/
namespace DL
open PySem PySem.Spec PyProof.Rows L2

/-- room, and no display under way -/
structure Rm (k : Nat) (A : Around) : Prop where
  room : Room k A
  gd : A.guards = some []
theorem Rm.mono {j k : Nat} {A : Around} (r : Rm k A) (h : j ≤ k) : Rm j A := ⟨r.room.mono h, r.gd⟩
theorem Rm.deeper {k : Nat} {A : Around} (r : Rm (k + 1) A) (env : PySem.Env) : Rm k (A.deeper env) := ⟨r.room.deeper env, r.gd⟩
theorem Rm.hu {k : Nat} {A : Around} (r : Rm k A) : A.units + 1 < cLine := hu_of r.room
/-- a def's promise at A's without displays -/
structure FnG (P : Program) (w : World) (K : PySem.W.Frag) (mg : Str → Option Value) (base : Heap) (k : Nat) (f : Addr) (fd : FuncData) (ps : List Str) (sp : Sp) : Prop where
  len : ∀ vs H Q E, sp vs H Q E → vs.length = ps.length
  run : ∀ (A : Around) (outer : List PySem.Env) (s : Shared) (H : Hp) (args : Args) (us : List Value) (vs : List V) (Q : VK), Rm k A → Env0 P w K mg base A outer s H → BindsTo s fd args (ps.zip us) → Vals vs us → sp vs H Q E0 →
    codeAny (model P w) A (.call (.ref f) args) (CR CX0 outer P w H s Q E0) s
section
variable {P : Program} {w : World} {K : PySem.W.Frag} {mg : Str → Option Value} {base : Heap}
theorem FnG.mono {j k : Nat} {f : Addr} {fd : FuncData} {ps : List Str} {sp : Sp} (F : FnG P w K mg base j f fd ps sp) (h : j ≤ k) : FnG P w K mg base k f fd ps sp :=
  ⟨F.len, fun A outer s H args us vs Q hr => F.run A outer s H args us vs Q (hr.mono h)⟩
theorem FnG.ofOk {k : Nat} {f : Addr} {fd : FuncData} {ps : List Str} {sp : Sp} (F : FnOk P w K mg base CX0 k f fd ps sp) : FnG P w K mg base k f fd ps sp :=
  ⟨F.len, fun A outer s H args us vs Q hr e0 hb r h => F.run A outer s H args us vs Q E0 hr.room e0 hb r h⟩
/-- by the body -/
theorem FnG.body {x qual : Str} {st : Stmt} {f : Addr} {fd : FuncData} {N ps : List Str} {k : Nat} {sp : Sp} (F : Fun K x qual st f fd) (S : FnScope N ps (defScope st)) (len : ∀ vs H Q E, sp vs H Q E → vs.length = ps.length)
    (hb : ∀ (cdv : Value) (A : Around) (outer : List PySem.Env) (s : Shared) (H : Hp) (vs : List V) (Q : VK), Rm k (A.deeper (envOfC qual (defScope st) s.heap.objs.size f cdv)) → sp vs H Q E0 →
      ∃ t, PSs (cxOf CX0 P w K mg base N qual (defScope st) f cdv A outer s H E0).nox (defBody st) t ∧ t { nx := fun _ H' => Q .non H', rt := Q } (start N vs) H) : FnG P w K mg base (k + 1) f fd ps sp := by
  obtain ⟨oc, od, kV, doc, pm, an, cdv, ct, osl, rfl, lk, hcd⟩ := F.ex
  constructor
  · exact len
  intro A outer s H args us vs Q hr e0 hbd r hsp
  have hl := len _ _ _ _ hsp
  have hin : K.In s.heap := e0.mod.kin.keeps fun b o e => (e0.bs b o e).1
  have hlim : s.heap.NoLimit := e0.mod.nolimit.keeps fun b o e => (e0.bs b o e).1
  have kinds : ∀ y ∈ ps.zip us, (defScope st).names.lookup y.1 = some .local ∨ ((defScope st).names.lookup y.1 = some .cell ∧ ((cellsFrom (s.heap.objs.size + 1) (defScope st).names []).lookup y.1).isSome = true) := by
    rintro ⟨n, v⟩ hy
    exact (S.par n (List.of_mem_zip hy).1).imp id fun q => ⟨q, PySem.W.cellsFrom_some _ _ _ (.inl q)⟩
  apply codeAny_call_function hr.room.depth (hin _ _ lk) rfl S.co S.gen rfl (PySem.W.codeRec_of hin hcd) (hbd _ _ _ _ ?_)
  apply wpAny_newFunctionEnv_cells S.kind kinds
  rintro env rfl s1 x
  refine ⟨hlim.keeps x.toInCall.keep, codeAny_func ?_⟩
  obtain ⟨t, ht, hq⟩ := hb cdv A outer s H vs Q (hr.deeper _) hsp
  have I0 : Inv (cxOf CX0 P w K mg base N qual (defScope st) f cdv A outer s H E0) [] (start N vs) H s1 := inv_start S hr.room.hd e0 hl r x
  refine wpAny_mono (ht.nox.run [] s1 (start N vs) H _ I0 hq) ?_ fun e s' hs => hs
  intro fl s' hs
  cases fl with
  | ret u => obtain ⟨v, σ', H', J, rv, q⟩ := hs; exact ⟨v, H', J.os, J.bare, J.base, J.hok, rv, q⟩
  | next => obtain ⟨σ', H', J, q⟩ := hs; exact ⟨V.non, H', J.os, J.bare, J.base, J.hok, rfl, q⟩
  | brk => obtain ⟨_, _, _, q⟩ := hs; exact q.elim
  | cont => obtain ⟨_, _, _, q⟩ := hs; exact q.elim
end
section
variable {X : Cx} {k : Nat} {f : Addr} {fd : FuncData} {ps : List Str} {sp : Sp} {x : Str} {p pos : Pos} {e : Expr} {es : List Expr} {t : TA}
theorem runG {pins : List (Addr × Obj)} {σ : Sl} {H : Hp} {s : Shared} {Q : VK} {us : List Value} {vs : List V} (F : FnG X.prog X.w X.K X.mg X.base k f fd ps sp) (hr : Rm k X.A) (hb : Binds X.K fd ps [])
    (I : Inv X pins σ H s) (r : Vals vs us) (h : sp vs H Q E0) : wpAny (model X.prog X.w) X.A (call (.ref f) us) (EP X pins σ Q) X.xe s := by
  have hl : us.length = ps.length := by rw [← r.length]; exact F.len _ _ _ _ h
  have bt : BindsTo s fd ⟨us, []⟩ (ps.zip us) := by
    have := hb s us I.kIn (by simpa using hl)
    simpa using this
  refine wpAny_call (codeAny_mono (F.run X.A X.stack s H ⟨us, []⟩ us vs Q hr I.env0 bt r h) ?_)
  intro r s' hq
  cases r with
  | error e => exact hq.elim
  | ok fl => cases fl with
    | ret u => exact I.after hq
    | _ => exact hq.elim
theorem pe_callG (F : FnG X.prog X.w X.K X.mg X.base k f fd ps sp) (hr : Rm k X.A) (hg : Gl X x) (hm : X.mg x = some (.ref f)) (hk : PySem.W.keepIn X.K (.ref f) = true) (hb : Binds X.K fd ps [])
    (ha : PA X (e :: es) t) (hdb : (x == ("__debug__" : Str)) = false := by decide) (he : starEach (e :: es) X.env = (false, eval e X.env) :: starEach es X.env := by rfl) (hpl : (backTo pos (starEach es X.env)).any (·.1) = false := by rfl) :
    PE X (.Call (.Name x p) (e :: es) [] pos) (fun σ H Q => t σ H fun vs H1 => sp vs H1 Q E0) := by
  constructor
  intro pins s σ H Q I h
  apply wpAny_Call_Name_kw (ld_glob I hg hm ?_ hdb)
  refine PySem.W.callWith_K (h₀ := X.base) I.ok.mod.kin hk (thn (ha.run pos pins s σ H _ I h) ?_) he hpl
  rintro us s1 ⟨vs, H1, I1, r, q⟩
  exact ⟨I1.kIn, runG F hr hb I1 r q⟩
theorem pe_callG0 (F : FnG X.prog X.w X.K X.mg X.base k f fd ps sp) (hr : Rm k X.A) (hg : Gl X x) (hm : X.mg x = some (.ref f)) (hk : PySem.W.keepIn X.K (.ref f) = true) (hb : Binds X.K fd ps [])
    (hdb : (x == ("__debug__" : Str)) = false := by decide) : PE X (.Call (.Name x p) [] [] pos) (fun σ H Q => sp [] H Q E0) := by
  constructor
  intro pins s σ H Q I h
  apply wpAny_Call_Name_kw (ld_glob I hg hm ?_ hdb)
  exact PySem.W.callWith_K0 I.kIn hk (runG (us := []) F hr hb I .nil h)
end

/-! ### promises by data -/
abbrev FD := List Bd → Src → Option (Bd × Src)
def Bd.arg : Bd → Option Bd
  | .imm d => some (.imm d)
  | .bor ds => some (.imm (.list ds))
  | .lst ds => some (.imm (.list ds))
  | .src => some .src
  | .ref a => some (.ref a)
  | .wr d => some (.wr d)
  | .dk _ => none
  | .dt _ => none
def argsB : List Bd → Option (List Bd)
  | [] => some []
  | b :: bs => match b.arg, argsB bs with
    | some c, some cs => some (c :: cs)
    | _, _ => none
/-- lent: its list is the caller's own -/
def Bd.lent : Bd → Bool
  | .bor _ => true
  | .lst _ => true
  | _ => false
def Bd.plain : Bd → Bool
  | .imm d => noL d
  | .lst ds => noLs ds
  | .dk _ => false
  | .dt _ => false
  | .bor _ => false
  | _ => true
def Bd.back : Bd → Bool
  | .dk _ => false
  | .dt _ => false
  | .bor _ => false
  | _ => true
def spD (K : PySem.W.Frag) (so : SO) (F : FD) : Sp := fun vs H Q _ => ∃ (bs : List Bd) (S : Src) (A : Addr → Prop), Mt K so H A S (vs.map some) (bs.map some) H A ∧
  match F bs S with
  | some (b, S') => ∀ v H' A', Mt K so H A S' [some v] [some b] H' A' → Q v H'
  | none => False
/-- THE PROMISE of a def by data -/
def FnD (P : Program) (w : World) (K : PySem.W.Frag) (mg : Str → Option Value) (base : Heap) (k : Nat) (f : Addr) (fd : FuncData) (ps : List Str) (F : FD) : Prop := ∀ so : SO, FnG P w K mg base k f fd ps (spD K so F)
/-- the call by data -/
def fCall (F : FD) (fa : SA) : SE := fun ρ S => (fa ρ S).bind fun bs ρ S => match argsB bs with
  | none => .bad
  | some cs => match F cs S with
    | none => .bad
    | some (b, S') => if (b.back && (!(bs.any Bd.lent) || b.plain)) = true then .ok b ρ S' else .bad
section
variable {K : PySem.W.Frag} {so : SO} {H0 H H' : Hp} {A0 A A' : Addr → Prop} {S S' : Src} {σ σ' tv : Sl} {ρ ρ' tb : En} {v x y : V} {b c : Bd}
theorem argsB_get : ∀ {bs cs : List Bd}, argsB bs = some cs → cs.length = bs.length ∧ ∀ (i : Nat) (c : Bd), cs[i]? = some c → ∃ b, bs[i]? = some b ∧ b.arg = some c
  | [], cs, e => by cases e; exact ⟨rfl, fun i c q => by simp at q⟩
  | b :: bs, cs, e => by
    simp only [argsB] at e
    cases eb : b.arg with
    | none => rw [eb] at e; cases e
    | some c0 =>
    cases er : argsB bs with
    | none => rw [eb, er] at e; cases e
    | some cr =>
    rw [eb, er] at e
    cases e
    obtain ⟨h1, h2⟩ := argsB_get er
    refine ⟨by simp [h1], fun i c q => ?_⟩
    cases i with
    | zero => simp at q; subst q; exact ⟨b, rfl, eb⟩
    | succ i => exact h2 i c (by simpa using q)
theorem Bd.arg_own {b c : Bd} (h : b.arg = some c) : c.own = false := by
  cases b <;> simp [Bd.arg] at h <;> subst h <;> rfl
theorem rd_call {F : FD} {ta : TA} {fa : SA} (ha : RdA K so ta fa) : RdE K so (fun σ H Q => ta σ H fun vs H1 => spD K so F vs H1 Q E0) (fCall F fa) := fun H0 A0 S σ ρ tv tb H A Q hl M h => by
  refine ha H0 A0 S σ ρ tv tb H A _ hl M ?_
  refine (R.post_bind.mp h).imp fun bs ρ1 S1 h vs H1 A1 hl1 hn M1 => ?_
  have hlt : (σ ++ tv).length = (ρ1 ++ tb).length := by have := M1.len; simp at this ⊢; omega
  cases ea : argsB bs with
  | none => rw [ea] at h; exact h.elim
  | some cs =>
  rw [ea] at h
  simp only at h
  obtain ⟨hcl, hcs⟩ := argsB_get ea
  have argAt : ∀ (i : Nat) (b : Bd), bs[i]? = some b → ∃ v, vs[i]? = some v ∧ OOk K so H0 H1 A1 v b := fun i b e => by
    obtain ⟨v, e1, o⟩ := M1.bd ((ρ1 ++ tb).length + i) b (by rw [List.getElem?_append_right (by omega), Nat.add_sub_cancel_left, List.getElem?_map, e]; rfl)
    rw [← hlt, List.getElem?_append_right (by omega), Nat.add_sub_cancel_left, List.getElem?_map] at e1
    cases ev : vs[i]? with
    | none => rw [ev] at e1; cases e1
    | some v' => rw [ev] at e1; simp at e1; subst e1; exact ⟨_, rfl, o⟩
  let Ac : Addr → Prop := fun b => A1 b ∨ ∃ (i : Nat) (c : Bd), bs[i]? = some c ∧ c.lent = true ∧ vs[i]? = some (.ref b)
  have lentAt : ∀ {a : Addr} {i : Nat} {c : Bd}, bs[i]? = some c → c.lent = true → vs[i]? = some (.ref a) → (∃ xs, H1 a = some (.lst xs)) ∧ ¬ Has so a := fun {a i c} e1 e2 e3 => by
    obtain ⟨v, e4, o⟩ := argAt i c e1
    rw [e3] at e4
    cases e4
    cases c with
    | bor ds => obtain ⟨a', xs, q, ha', nh, _⟩ := o; cases q; exact ⟨⟨xs, ha'⟩, nh⟩
    | lst ds => obtain ⟨a', xs, q, ha', _, h0, _⟩ := o; cases q; exact ⟨⟨xs, ha'⟩, M1.n0 h0⟩
    | _ => cases e2
  have Mc : Mt K so H1 Ac S1 (vs.map some) (cs.map some) H1 Ac := by
    refine ⟨by simp [hn, hcl], fun b x e _ => e, fun b q => q, fun b q => .inl q, fun b q => ?_, fun b q => ?_, fun b q => ?_, M1.src, fun i c e => ?_, fun i j c c' v ne e1 e2 o1 o2 => ?_⟩
    · rcases q with q | ⟨i, c, e1, e2, e3⟩
      · exact M1.fz b q
      · exact (lentAt e1 e2 e3).1
    · rcases q with q | ⟨i, c, e1, e2, e3⟩
      · exact M1.ns b q
      · exact (lentAt e1 e2 e3).2
    · rcases q.src M1.src with ⟨_, z⟩ | ⟨_, z⟩ <;> exact ⟨_, z⟩
    · rw [List.getElem?_map] at e
      cases ec : cs[i]? with
      | none => rw [ec] at e; cases e
      | some c' =>
      rw [ec] at e
      simp at e
      subst e
      obtain ⟨b, eb, ab⟩ := hcs i c' ec
      obtain ⟨v, ev, o⟩ := argAt i b eb
      refine ⟨v, by rw [List.getElem?_map, ev]; rfl, ?_⟩
      have mono : ∀ {d : PyData} {v : V}, Den K H1 A1 v d → Den K H1 Ac v d := fun h => h.mono (fun _ q => .inl q) (fun _ _ _ q => q) fun _ _ q => q
      have monoL : ∀ {ds : List PyData} {v : List V}, DenL K H1 A1 v ds → DenL K H1 Ac v ds := fun h => h.mono (fun _ q => .inl q) (fun _ _ _ q => q) fun _ _ q => q
      cases b with
      | imm d => cases ab; exact mono o
      | bor ds => cases ab; obtain ⟨a, xs, rfl, g1, g2, g3⟩ := o; exact Den.lst (.inr ⟨i, _, eb, rfl, ev⟩) g1 (monoL g3)
      | lst ds => cases ab; obtain ⟨a, xs, rfl, g1, g2, g3, g4⟩ := o; exact Den.lst (.inr ⟨i, _, eb, rfl, ev⟩) g1 (monoL g4)
      | src => cases ab; exact o
      | ref a => cases ab; exact o
      | wr d => cases ab; exact o
      | dk _ => cases ab
      | dt _ => cases ab
    · have own : ∀ {i : Nat} {c : Bd}, (cs.map some)[i]? = some (some c) → c.own = true → False := fun {i c} e o => by
        rw [List.getElem?_map] at e
        cases ec : cs[i]? with
        | none => rw [ec] at e; cases e
        | some c' =>
        rw [ec] at e
        simp at e
        subst e
        obtain ⟨b, _, ab⟩ := hcs i c' ec
        rw [Bd.arg_own ab] at o
        cases o
      exact (own e1 o1).elim
  refine ⟨cs, S1, Ac, Mc, ?_⟩
  cases eF : F cs S1 with
  | none => rw [eF] at h; exact h.elim
  | some r =>
  obtain ⟨b, S2⟩ := r
  rw [eF] at h
  simp only at h ⊢
  split at h
  · rename_i hb
    intro v H2 A2 M2
    have g := M2.last (σ := []) (ρ := [])
    simp only [Bool.and_eq_true, Bool.or_eq_true, Bool.not_eq_true'] at hb
    obtain ⟨hbk, hpl⟩ := hb
    let A3 : Addr → Prop := fun b => A1 b ∨ (A2 b ∧ H1 b = none)
    have keep : ∀ b x, H1 b = some x → ¬ Has so b → H2 b = some x := M2.keep
    have M3 : Mt K so H0 A0 S2 (σ ++ tv ++ vs.map some) (ρ1 ++ tb ++ bs.map some) H2 A3 := by
      refine M1.up keep M2.src (fun _ q => .inl q) (fun b q => q.imp id fun z => z.2) (fun b q => ?_) fun b q => ?_
      · rcases q with q | q
        · obtain ⟨xs, z⟩ := M1.fz b q
          exact ⟨xs, keep _ _ z (M1.ns b q)⟩
        · exact M2.fz b q.1
      · rcases q with q | q
        · exact M1.ns b q
        · exact M2.ns b q.1
    have noLent : bs.any Bd.lent = false → ∀ a, A2 a → A3 a := fun z a q => by
      rcases M2.an a q with (q1 | ⟨i, c, e1, e2, _⟩) | q1
      · exact .inl q1
      · have : bs.any Bd.lent = true := List.any_eq_true.mpr ⟨c, List.mem_of_getElem? e1, e2⟩
        rw [z] at this; cases this
      · exact .inr ⟨q, q1⟩
    have res : OOk K so H0 H2 A3 v b := by
      cases b with
      | imm d =>
        rcases hpl with z | z
        · exact Den.mono (noLent z) (fun _ _ _ q => q) (fun _ _ q => q) g
        · exact Den.anyA z g
      | lst ds =>
        obtain ⟨a, xs, rfl, g1, g2, g3, g4⟩ := g
        refine ⟨a, xs, rfl, g1, fun q => ?_, M1.h0 g3, ?_⟩
        · rcases q with q | q
          · exact M1.nA g3 q
          · exact g2 q.1
        · rcases hpl with z | z
          · exact DenL.mono (noLent z) (fun _ _ _ q => q) (fun _ _ q => q) g4
          · exact DenL.anyA z g4
      | src => exact g
      | ref a => exact g
      | wr d => exact g
      | dk _ => cases hbk
      | dt _ => cases hbk
      | bor _ => cases hbk
    have M4 := M3.push res fun ho i b' e1 o1 => by
      obtain ⟨a, _, rfl, _, h0, _⟩ := g.there ho
      exact M1.fresh h0 i b' e1 o1
    exact h v H2 A3 hl1 (M4.cut hlt (by simp [hn]))
  · exact h.elim
end
end DL
set_option maxRecDepth 100000
set_option maxHeartbeats 2000000
/-! DD: statements of the data layer; loops; a def by its body. -/
namespace DL
open PySem PySem.Spec PyProof.Rows L2

def NB (tb : En) : Prop := ∀ b : Bd, some b ∈ tb → b.isBor = false
def nbE : En → Bool
  | [] => true
  | none :: r => nbE r
  | some b :: r => !b.isBor && nbE r
theorem nbE_nb : ∀ {ρ : En}, nbE ρ = true → NB ρ
  | [], _, b, h => by cases h
  | none :: r, e, b, h => by
    rcases List.mem_cons.mp h with z | z
    · cases z
    · exact nbE_nb (ρ := r) e b z
  | some c :: r, e, b, h => by
    simp only [nbE, Bool.and_eq_true, Bool.not_eq_true'] at e
    rcases List.mem_cons.mp h with z | z
    · cases z; exact e.1
    · exact nbE_nb e.2 b z
/-- slots but some are as they were -/
structure Off (is : List Nat) (σ σ' : Sl) : Prop where
  len : σ'.length = σ.length
  off : ∀ j, j ∉ is → σ'[j]? = σ[j]?
section
variable (K : PySem.W.Frag) (so : SO)
/-- a statement's end -/
def EndOk (H0 : Hp) (A0 : Addr → Prop) (tv : Sl) (tb : En) (D : Ends) (fl : Fl) (ρ : En) (S : Src) : Prop := match fl with
  | .nx => ∀ (σ : Sl) H A, σ.length = ρ.length → Mt K so H0 A0 S (σ ++ tv) (ρ ++ tb) H A → D.nx σ H
  | .bk => ∀ (σ : Sl) H A, σ.length = ρ.length → Mt K so H0 A0 S (σ ++ tv) (ρ ++ tb) H A → D.bk σ H
  | .ct => ∀ (σ : Sl) H A, σ.length = ρ.length → Mt K so H0 A0 S (σ ++ tv) (ρ ++ tb) H A → D.ct σ H
  | .rt b => ∀ (σ : Sl) v H A, σ.length = ρ.length → Mt K so H0 A0 S (σ ++ tv ++ [some v]) (ρ ++ tb ++ [some b]) H A → D.rt v H
def RdS (t : TS) (g : SS) : Prop := ∀ (H0 : Hp) (A0 : Addr → Prop) (S : Src) (σ : Sl) (ρ : En) (tv : Sl) (tb : En) (H : Hp) (A : Addr → Prop) (D : Ends), σ.length = ρ.length → NB tb → Mt K so H0 A0 S (σ ++ tv) (ρ ++ tb) H A →
  (g ρ S).Post (EndOk K so H0 A0 tv tb D) → t D σ H
/-- a target -/
def RdG (g : TG) (s : Bd → En → Option En) (is : List Nat) : Prop := ∀ (H0 : Hp) (A0 : Addr → Prop) (S : Src) (σ : Sl) (ρ ρ' : En) (tv : Sl) (tb : En) (H : Hp) (A : Addr → Prop) (v : V) (b : Bd) (Q : Sl → Hp → Prop), σ.length = ρ.length →
  Mt K so H0 A0 S (σ ++ tv ++ [some v]) (ρ ++ tb ++ [some b]) H A → s b ρ = some ρ' → (∀ σ' H' A', σ'.length = ρ'.length → Off is σ σ' → Mt K so H0 A0 S (σ' ++ tv) (ρ' ++ tb) H' A' → Q σ' H') → g v σ H Q
def RdGs (g : TGs) (s : List Bd → En → Option En) (is : List Nat) : Prop := ∀ (H0 : Hp) (A0 : Addr → Prop) (S : Src) (σ : Sl) (ρ ρ' : En) (tv : Sl) (tb : En) (H : Hp) (A : Addr → Prop) (vs : List V) (bs : List Bd) (Q : Sl → Hp → Prop), σ.length = ρ.length → vs.length = bs.length →
  Mt K so H0 A0 S (σ ++ tv ++ vs.map some) (ρ ++ tb ++ bs.map some) H A → s bs ρ = some ρ' → (∀ σ' H' A', σ'.length = ρ'.length → Off is σ σ' → Mt K so H0 A0 S (σ' ++ tv) (ρ' ++ tb) H' A' → Q σ' H') → g vs σ H Q
end
structure DS (X : Cx) (so : SO) (st : Stmt) (t : TS) (g : SS) : Prop where
  ps : PS X st t
  rd : RdS X.K so t g
structure DSs (X : Cx) (so : SO) (st : List Stmt) (t : TS) (g : SS) : Prop where
  pss : PSs X st t
  rd : RdS X.K so t g
section
variable {K : PySem.W.Frag} {so : SO} {H0 H H' : Hp} {A0 A A' : Addr → Prop} {S S' : Src} {σ σ' tv : Sl} {ρ ρ' tb : En} {v x y : V} {b c : Bd}
/-! ### targets -/
def sName (i : Nat) (b : Bd) (ρ : En) : Option En := (stB b).map fun c => ρ.set i (some c)
theorem stB_eq {b c : Bd} (h : stB b = some c) : c = b := by cases b <;> simp [stB] at h <;> exact h.symm
theorem rdg_name (i : Nat) : RdG K so (gName i) (sName i) [i] := fun H0 A0 S σ ρ ρ' tv tb H A v b Q hl M e q => by
  unfold sName at e
  cases es : stB b with
  | none => rw [es] at e; cases e
  | some c =>
    rw [es] at e
    cases e
    have := stB_eq es
    subst this
    have hx : tv.length = tb.length := by have := M.len; simp at this; omega
    exact q _ H A (by simpa using hl) ⟨by simp, fun j hj => by rw [List.getElem?_set_ne]; intro z; exact hj (by simp [z])⟩ (M.asg hl hx i)
def sNil (bs : List Bd) (ρ : En) : Option En := match bs with
  | [] => some ρ
  | _ => none
def sCons (s : Bd → En → Option En) (r : List Bd → En → Option En) (bs : List Bd) (ρ : En) : Option En := match bs with
  | b :: bs => (s b ρ).bind fun ρ => r bs ρ
  | [] => none
theorem rdg_nil : RdGs K so gNil sNil [] := fun H0 A0 S σ ρ ρ' tv tb H A vs bs Q hl hn M e q => by
  cases bs with
  | nil =>
    cases e
    have : vs = [] := by simpa using hn
    subst this
    exact ⟨rfl, q σ H A hl ⟨rfl, fun _ _ => rfl⟩ (by simpa using M)⟩
  | cons b bs => cases e
/-- the values that wait stand behind -/
theorem Mt.swap {xs : Sl} {ys : En} {u : Option V} {d : Option Bd} (M : Mt K so H0 A0 S (σ ++ [u] ++ xs) (ρ ++ [d] ++ ys) H A) (hl : σ.length = ρ.length) (hx : xs.length = ys.length) : Mt K so H0 A0 S (σ ++ xs ++ [u]) (ρ ++ ys ++ [d]) H A := by
  have key : ∀ {α : Type} (l m : List α) (z : α) (i : Nat), (l ++ m ++ [z])[i]? = (l ++ [z] ++ m)[if i < l.length then i else if i < l.length + m.length then i + 1 else if i = l.length + m.length then l.length else i]? := fun {α} l m z i => by
    by_cases h1 : i < l.length
    · rw [if_pos h1, List.append_assoc, List.append_assoc, List.getElem?_append_left h1, List.getElem?_append_left h1]
    · rw [if_neg h1]
      by_cases h2 : i < l.length + m.length
      · rw [if_pos h2, List.getElem?_append_left (by simp; omega), List.getElem?_append_right (by omega), List.getElem?_append_right (by simp; omega)]
        congr 1
        rw [List.length_append, List.length_singleton]
        omega
      · rw [if_neg h2]
        by_cases h3 : i = l.length + m.length
        · rw [if_pos h3, List.getElem?_append_right (by simp; omega), List.append_assoc, List.getElem?_append_right (Nat.le_refl _)]
          rw [h3, List.length_append, Nat.sub_self, Nat.sub_self]
          rfl
        · rw [if_neg h3, List.getElem?_eq_none (by simp; omega), List.getElem?_eq_none (by simp; omega)]
  refine M.re (fun i => if i < ρ.length then i else if i < ρ.length + ys.length then i + 1 else if i = ρ.length + ys.length then ρ.length else i) (by simp [hl, hx]) (fun i b e => ⟨by rw [← key]; exact e, ?_⟩) fun i j b b' ne e1 e2 _ _ => ?_
  · have := key σ xs u i
    rw [hl, hx] at this
    exact this
  · have h1 := getlt e1
    have h2 := getlt e2
    simp at h1 h2
    show (if i < ρ.length then i else if i < ρ.length + ys.length then i + 1 else if i = ρ.length + ys.length then ρ.length else i) ≠ (if j < ρ.length then j else if j < ρ.length + ys.length then j + 1 else if j = ρ.length + ys.length then ρ.length else j)
    intro z
    (repeat' split at z) <;> omega
theorem rdg_cons {t : TG} {u : TGs} {s : Bd → En → Option En} {r : List Bd → En → Option En} {i1 i2 : List Nat} (h1 : RdG K so t s i1) (h2 : RdGs K so u r i2) : RdGs K so (gCons t u) (sCons s r) (i1 ++ i2) := fun H0 A0 S σ ρ ρ' tv tb H A vs bs Q hl hn M e q => by
  cases bs with
  | nil => cases e
  | cons b bs =>
    cases vs with
    | nil => cases hn
    | cons v vs =>
    simp only [sCons] at e
    cases e1 : s b ρ with
    | none => rw [e1] at e; cases e
    | some ρ1 =>
    rw [e1] at e
    have hx : tv.length = tb.length := by have := M.len; simp at this hn; omega
    have hn' : vs.length = bs.length := by simpa using hn
    have M' : Mt K so H0 A0 S (σ ++ tv ++ [some v] ++ vs.map some) (ρ ++ tb ++ [some b] ++ bs.map some) H A := by simpa using M
    have M2 := M'.swap (by simp; omega) (by simpa using hn')
    refine ⟨v, vs, rfl, ?_⟩
    refine h1 H0 A0 S σ ρ ρ1 (tv ++ vs.map some) (tb ++ bs.map some) H A v b _ hl (by simpa only [List.append_assoc] using M2) e1 ?_
    intro σ2 H2 A2 hl2 O2 M3
    exact h2 H0 A0 S σ2 ρ1 ρ' tv tb H2 A2 vs bs Q hl2 hn' (by simpa only [List.append_assoc] using M3) e fun σ3 H3 A3 hl3 O3 M4 => q σ3 H3 A3 hl3 ⟨O3.len.trans O2.len, fun j hj => by simp at hj; rw [O3.off j hj.2, O2.off j hj.1]⟩ M4
def sTup (n : Nat) (r : List Bd → En → Option En) (b : Bd) (ρ : En) : Option En := match b with
  | .imm (.tuple ds) => if ds.length = n then r (ds.map Bd.imm) ρ else none
  | _ => none
/-- a row of data is pushed -/
theorem Mt.pushL : ∀ {ds : List PyData} {vs : List V} {σ : Sl} {ρ : En}, Mt K so H0 A0 S σ ρ H A → DenL K H A vs ds → Mt K so H0 A0 S (σ ++ vs.map some) (ρ ++ (ds.map Bd.imm).map some) H A
  | [], vs, σ, ρ, M, h => by cases h; simpa using M
  | d :: ds, vs, σ, ρ, M, h => by
    cases h with
    | cons h1 h2 =>
      have M1 := M.pushI (b := .imm d) h1 rfl
      simpa using Mt.pushL M1 h2
theorem rdg_tup {n : Nat} {u : TGs} {r : List Bd → En → Option En} {is : List Nat} (h : RdGs K so u r is) : RdG K so (gTup K n u) (sTup n r) is := fun H0 A0 S σ ρ ρ' tv tb H A v b Q hl M e q => by
  unfold sTup at e
  split at e
  · rename_i ds
    split at e
    · rename_i hn
      obtain ⟨a, vs, rfl, ha, hd⟩ := M.last.tupI
      refine ⟨a, vs, rfl, SqT.of ha, by rw [hd.length]; exact hn, ?_⟩
      exact h H0 A0 S σ ρ ρ' tv tb H A vs (ds.map Bd.imm) Q hl (by simp [hd.length]) (M.init.pushL hd) e q
    · cases e
  · cases e
/-- a, b = a list -/
def sUnl (n : Nat) (r : List Bd → En → Option En) (b : Bd) (ρ : En) : Option En := match toL b with
  | some ds => if ds.length = n then r (ds.map Bd.imm) ρ else none
  | none => none
theorem rdg_unl {n : Nat} {u : TGs} {r : List Bd → En → Option En} {is : List Nat} (h : RdGs K so u r is) : RdG K so (gUnl K n u) (sUnl n r) is := fun H0 A0 S σ ρ ρ' tv tb H A v b Q hl M e q => by
  unfold sUnl at e
  split at e
  · rename_i ds et
    split at e
    · rename_i hn
      obtain ⟨a, vs, rfl, ha, hd⟩ := M.last.lstI et
      refine ⟨a, vs, rfl, SqL.of ha, by rw [hd.length]; exact hn, ?_⟩
      exact h H0 A0 S σ ρ ρ' tv tb H A vs (ds.map Bd.imm) Q hl (by simp [hd.length]) (M.init.pushL hd) e q
    · cases e
  · cases e
/-! ### statements -/
def gAsg (s : Bd → En → Option En) (fe : SE) : SS := fun ρ S => (fe ρ S).bind fun b ρ S => match s b ρ with
  | some ρ' => .ok .nx ρ' S
  | none => .bad
theorem rds_asg {te : TE} {g : TG} {s : Bd → En → Option En} {fe : SE} {is : List Nat} (he : RdE K so te fe) (hg : RdG K so g s is) : RdS K so (tAsg te g) (gAsg s fe) := fun H0 A0 S σ ρ tv tb H A D hl nb M h => by
  refine he H0 A0 S σ ρ tv tb H A _ hl M ?_
  refine (R.post_bind.mp h).imp fun b ρ1 S1 h v1 H1 A1 hl1 M1 => ?_
  cases e : s b ρ1 with
  | none => rw [e] at h; exact h.elim
  | some ρ' =>
    rw [e] at h
    exact hg H0 A0 S1 σ ρ1 ρ' tv tb H1 A1 v1 b D.nx hl1 M1 e fun σ' H' A' hl' _ M' => h σ' H' A' hl' M'
/-- several names at once -/
def gPar (r : List Bd → En → Option En) (fa : SA) : SS := fun ρ S => (fa ρ S).bind fun bs ρ S => match r bs ρ with
  | some ρ' => .ok .nx ρ' S
  | none => .bad
theorem rds_par {ta : TA} {u : TGs} {r : List Bd → En → Option En} {fa : SA} {is : List Nat} (ha : RdA K so ta fa) (hg : RdGs K so u r is) : RdS K so (fun D σ H => ta σ H fun vs H1 => u vs σ H1 D.nx) (gPar r fa) := fun H0 A0 S σ ρ tv tb H A D hl nb M h => by
  refine ha H0 A0 S σ ρ tv tb H A _ hl M ?_
  refine (R.post_bind.mp h).imp fun bs ρ1 S1 h vs H1 A1 hl1 hn M1 => ?_
  cases e : r bs ρ1 with
  | none => rw [e] at h; exact h.elim
  | some ρ' =>
    rw [e] at h
    exact hg H0 A0 S1 σ ρ1 ρ' tv tb H1 A1 vs bs D.nx hl1 hn M1 e fun σ' H' A' hl' _ M' => h σ' H' A' hl' M'
def gDrop (fe : SE) : SS := fun ρ S => (fe ρ S).bind fun _ ρ S => .ok .nx ρ S
theorem rds_expr {te : TE} {fe : SE} (he : RdE K so te fe) : RdS K so (tDrop te) (gDrop fe) := fun H0 A0 S σ ρ tv tb H A D hl nb M h => by
  refine he H0 A0 S σ ρ tv tb H A _ hl M ?_
  exact (R.post_bind.mp h).imp fun b ρ1 S1 h v1 H1 A1 hl1 M1 => h σ H1 A1 hl1 M1.init
def gRet (fe : SE) : SS := fun ρ S => (fe ρ S).bind fun b ρ S => .ok (.rt b) ρ S
theorem rds_ret {te : TE} {fe : SE} (he : RdE K so te fe) : RdS K so (tRet te) (gRet fe) := fun H0 A0 S σ ρ tv tb H A D hl nb M h => by
  refine he H0 A0 S σ ρ tv tb H A _ hl M ?_
  exact (R.post_bind.mp h).imp fun b ρ1 S1 h v1 H1 A1 hl1 M1 => h σ v1 H1 A1 hl1 M1
def gRetN : SS := fun ρ S => .ok (.rt (.imm .none)) ρ S
theorem rds_retN : RdS K so tRetN gRetN := fun H0 A0 S σ ρ tv tb H A D hl nb M h => h σ .non H A hl (M.pushI Den.non rfl)
def gNext : SS := fun ρ S => .ok .nx ρ S
theorem rds_next : RdS K so tNext gNext := fun H0 A0 S σ ρ tv tb H A D hl nb M h => h σ H A hl M
def gBrk : SS := fun ρ S => .ok .bk ρ S
theorem rds_brk : RdS K so tBreak gBrk := fun H0 A0 S σ ρ tv tb H A D hl nb M h => h σ H A hl M
def gCnt : SS := fun ρ S => .ok .ct ρ S
theorem rds_cnt : RdS K so tCont gCnt := fun H0 A0 S σ ρ tv tb H A D hl nb M h => h σ H A hl M
def gNever : SS := fun _ _ => .bad
theorem rds_never {t : TS} : RdS K so t gNever := fun H0 A0 S σ ρ tv tb H A D hl nb M h => h.elim
def gIf (c : SB) (g1 g2 : SS) : SS := fun ρ S => (c ρ S).bind fun k ρ S => if k = true then g1 ρ S else g2 ρ S
theorem rds_if {tc : TT} {t u : TS} {c : SB} {g1 g2 : SS} (hc : RdT K so tc c) (h1 : RdS K so t g1) (h2 : RdS K so u g2) : RdS K so (tIfS tc t u) (gIf c g1 g2) := fun H0 A0 S σ ρ tv tb H A D hl nb M h => by
  refine hc H0 A0 S σ ρ tv tb H A _ hl M ?_
  refine (R.post_bind.mp h).imp fun k ρ1 S1 h H1 A1 hl1 M1 => ?_
  cases k with
  | true => rw [if_pos rfl] at h ⊢; exact h1 H0 A0 S1 σ ρ1 tv tb H1 A1 D hl1 nb M1 h
  | false => rw [if_neg Bool.false_ne_true] at h ⊢; exact h2 H0 A0 S1 σ ρ1 tv tb H1 A1 D hl1 nb M1 h
def gSeq (g1 g2 : SS) : SS := fun ρ S => (g1 ρ S).bind fun fl ρ S => match fl with
  | .nx => g2 ρ S
  | fl => .ok fl ρ S
theorem rds_seq {t u : TS} {g1 g2 : SS} (h1 : RdS K so t g1) (h2 : RdS K so u g2) : RdS K so (tSeq t u) (gSeq g1 g2) := fun H0 A0 S σ ρ tv tb H A D hl nb M h => by
  refine h1 H0 A0 S σ ρ tv tb H A _ hl nb M ?_
  refine (R.post_bind.mp h).imp fun fl ρ1 S1 h => ?_
  cases fl with
  | nx => exact fun σ' H' A' hl' M' => h2 H0 A0 S1 σ' ρ1 tv tb H' A' D hl' nb M' h
  | rt b => exact h
  | bk => exact h
  | ct => exact h
/-! ### append and the like -/
theorem Mt.frz1 {d : PyData} (M : Mt K so H0 A0 S (σ ++ [some v]) (ρ ++ [some b]) H A) (h : toF b = some d) : ∃ A', Mt K so H0 A0 S (σ ++ [some v]) (ρ ++ [some (.imm d)]) H A' := by
  cases b with
  | imm d' => cases h; exact ⟨A, M⟩
  | lst ds =>
    cases h
    obtain ⟨A', M2⟩ := M.frz (i := ρ.length) (ds := ds) (by rw [List.getElem?_append_right (Nat.le_refl _), Nat.sub_self]; rfl)
    refine ⟨A', ?_⟩
    rw [List.set_append, if_neg (by omega), Nat.sub_self] at M2
    exact M2
  | _ => cases h
theorem lim1 {n : Nat} (h : n < 1000000) : n < sizeLine := Nat.lt_of_lt_of_le h (by rw [sizeLine_eq]; decide)
theorem lim2 {n : Nat} (h : n ≤ 1000000) : n ≤ sizeLine := Nat.le_trans h (by rw [sizeLine_eq]; decide)
theorem NB.app {ρ tb : En} (h : nbE ρ = true) (nb : NB tb) : NB (ρ ++ tb) := fun b hb => (List.mem_append.mp hb).elim (nbE_nb h b) (nb b)
/-- what an own list becomes -/
def ownSet (i : Nat) (ρ : En) (S : Src) (o : List PyData → Option (List PyData)) : R Fl := match ρ[i]? with
  | some (some (.lst ds)) => match o ds with
    | some ds' => if nbE ρ = true then .ok .nx (ρ.set i (some (.lst ds'))) S else .bad
    | none => .bad
  | _ => .bad
theorem ownSet_post {i : Nat} {o : List PyData → Option (List PyData)} {P : Fl → En → Src → Prop} (h : (ownSet i ρ S o).Post P) : ∃ ds ds', ρ[i]? = some (some (.lst ds)) ∧ o ds = some ds' ∧ nbE ρ = true ∧ P .nx (ρ.set i (some (.lst ds'))) S := by
  unfold ownSet at h
  split at h
  · rename_i ds e1
    split at h
    · rename_i ds' e2
      split at h
      · rename_i e3
        exact ⟨ds, ds', e1, e2, e3, h⟩
      · exact h.elim
    · exact h.elim
  · exact h.elim
/-- the change made: what stands at the slot -/
theorem Mt.own (M : Mt K so H0 A0 S (σ ++ tv) (ρ ++ tb) H A) (hl : σ.length = ρ.length) {i : Nat} {ds : List PyData} (h : ρ[i]? = some (some (.lst ds))) : ∃ a vs, σ[i]? = some (some (.ref a)) ∧ H a = some (.lst vs) ∧ DenL K H A vs ds := by
  obtain ⟨v, e, a, vs, rfl, g1, _, _, g4⟩ := M.slot hl h
  exact ⟨a, vs, e, g1, g4⟩
theorem Mt.change (M : Mt K so H0 A0 S (σ ++ tv) (ρ ++ tb) H A) (hl : σ.length = ρ.length) (nb : NB tb) (nr : nbE ρ = true) {i : Nat} {ds ds' : List PyData} {a : Addr} {vs' : List V} (h : ρ[i]? = some (some (.lst ds))) (hv : σ[i]? = some (some (.ref a))) (hd : DenL K H A vs' ds') :
    Mt K so H0 A0 S (σ ++ tv) (ρ.set i (some (.lst ds')) ++ tb) (upd H a (.lst vs')) A := by
  have hi := getlt h
  have M2 := M.mut (nb := fun j es e _ => by have := NB.app nr nb _ (List.mem_of_getElem? e); cases this) (i := i) (ds := ds) (ds' := ds') (a := a) (vs' := vs') (by rw [List.getElem?_append_left hi]; exact h) (by rw [List.getElem?_append_left (by omega)]; exact hv) hd
  rw [set_app hi] at M2
  exact M2
def isOwn (i : Nat) (ρ : En) : Bool := match ρ[i]? with
  | some (some (.lst _)) => true
  | _ => false
/-- xs.append(e) -/
def gAppend (i : Nat) (fe : SE) : SS := fun ρ S => if isOwn i ρ = true then (fe ρ S).bind fun b ρ S => ownSet i ρ S fun ds => (toF b).bind fun d => if ds.length < 1000000 then some (ds ++ [d]) else none else .bad
theorem isOwn_at {i : Nat} (h : isOwn i ρ = true) : ∃ ds, ρ[i]? = some (some (.lst ds)) := by
  unfold isOwn at h
  split at h
  · rename_i ds e; exact ⟨ds, e⟩
  · cases h
theorem rds_append {te : TE} {fe : SE} {i : Nat} (he : RdE K so te fe) : RdS K so (tDrop (tBM K "list" rAppend (tVar i) (tCons te tNil))) (gAppend i fe) := fun H0 A0 S σ ρ tv tb H A D hl nb M h => by
  unfold gAppend at h
  split at h
  · rename_i ho
    obtain ⟨ds0, e0⟩ := isOwn_at ho
    obtain ⟨a, vs0, e1, ha, _⟩ := M.own hl e0
    refine ⟨.ref a, e1, .inl ⟨rfl, _, SqL.of ha⟩, he H0 A0 S σ ρ tv tb H A _ hl M ?_⟩
    refine (R.post_bind.mp h).imp fun b ρ1 S1 h v1 H1 A1 hl1 M1 => ?_
    obtain ⟨ds, ds', g1, g2, g3, g4⟩ := ownSet_post h
    cases ef : toF b with
    | none => rw [ef] at g2; cases g2
    | some d =>
    rw [ef] at g2
    simp only [Option.bind_some] at g2
    split at g2
    · rename_i hz
      cases g2
      obtain ⟨A2, M2⟩ := M1.frz1 ef
      have dd : Den K H1 A2 v1 d := M2.last
      obtain ⟨a', vs, e2, ha', hd⟩ := M2.init.own hl1 g1
      rw [e1] at e2
      cases e2
      refine ⟨a, vs, v1, rfl, rfl, ha', lim1 (by rw [hd.length]; exact hz), ?_⟩
      exact g4 σ _ A2 (by simpa using hl1) (M2.init.change hl1 nb g3 g1 e1 (hd.append (.one dd)))
    · cases g2
  · exact h.elim
/-- xs[k] = e -/
def gSetI (i : Nat) (fe fk : SE) : SS := fun ρ S => (fe ρ S).bind fun b ρ S => if isOwn i ρ = true then (fk ρ S).bind fun k ρ S => match k with
  | .imm (.int k) => ownSet i ρ S fun ds => (toF b).bind fun d => (ixN ds.length k).map fun j => ds.set j d
  | _ => .bad else .bad
theorem Mt.last2 {d : PyData} (M : Mt K so H0 A0 S (σ ++ [some x] ++ [some v]) (ρ ++ [some c] ++ [some b]) H A) : OOk K so H0 H A x c := M.init.last
theorem Mt.frz2 {d : PyData} (M : Mt K so H0 A0 S (σ ++ [some x] ++ [some v]) (ρ ++ [some c] ++ [some b]) H A) (h : toF c = some d) : ∃ A', Mt K so H0 A0 S (σ ++ [some x] ++ [some v]) (ρ ++ [some (.imm d)] ++ [some b]) H A' := by
  cases c with
  | imm d' => cases h; exact ⟨A, M⟩
  | lst ds =>
    cases h
    obtain ⟨A', M2⟩ := M.frz (i := ρ.length) (ds := ds) (by rw [List.append_assoc, List.getElem?_append_right (Nat.le_refl _), Nat.sub_self]; rfl)
    refine ⟨A', ?_⟩
    rw [set_app (by simp), List.set_append, if_neg (by omega), Nat.sub_self] at M2
    exact M2
  | _ => cases h
theorem rds_setI {te tk : TE} {fe fk : SE} {i : Nat} (he : RdE K so te fe) (hk : RdE K so tk fk) : RdS K so (tAsg te (gSub (tVar i) tk rSetL)) (gSetI i fe fk) := fun H0 A0 S σ ρ tv tb H A D hl nb M h => by
  refine he H0 A0 S σ ρ tv tb H A _ hl M ?_
  refine (R.post_bind.mp h).imp fun b ρ1 S1 h v1 H1 A1 hl1 M1 => ?_
  split at h
  · rename_i ho
    obtain ⟨ds0, e0⟩ := isOwn_at ho
    obtain ⟨a, vs0, e1, ha, _⟩ := M1.init.own hl1 e0
    refine ⟨.ref a, e1, hk H0 A0 S1 σ ρ1 (tv ++ [some v1]) (tb ++ [some b]) H1 A1 _ hl1 (by simpa only [List.append_assoc] using M1) ?_⟩
    refine (R.post_bind.mp h).imp fun kb ρ2 S2 h v2 H2 A2 hl2 M2 => ?_
    have M2' : Mt K so H0 A0 S2 (σ ++ tv ++ [some v1] ++ [some v2]) (ρ2 ++ tb ++ [some b] ++ [some kb]) H2 A2 := by simpa only [List.append_assoc] using M2
    split at h
    · rename_i k
      have ok := M2'.last
      cases ok
      obtain ⟨ds, ds', g1, g2, g3, g4⟩ := ownSet_post h
      cases ef : toF b with
      | none => rw [ef] at g2; cases g2
      | some d =>
      rw [ef] at g2
      simp only [Option.bind_some] at g2
      cases ej : ixN ds.length k with
      | none => rw [ej] at g2; cases g2
      | some j =>
      rw [ej] at g2
      cases g2
      obtain ⟨A3, M3⟩ := M2'.frz2 ef
      have dd : Den K H2 A3 v1 d := M3.init.last
      obtain ⟨a', vs, e2, ha', hd⟩ := M3.init.init.own hl2 g1
      rw [e1] at e2
      cases e2
      refine ⟨a, vs, k, j, rfl, rfl, ha', by rw [hd.length]; exact ej, ?_⟩
      exact g4 σ _ A3 (by simpa using hl2) (M3.init.init.change hl2 nb g3 g1 e1 (hd.set j dd))
    · exact h.elim
  · exact h.elim
/-! ### loops -/
/-- what is walked: n turns of data, while what is held stands -/
structure Wk (K : PySem.W.Frag) (so : SO) (J : It) (hv : Sl) (hb : En) (ds : List PyData) : Prop where
  len : hv.length = hb.length
  ex : ∃ (G : Hp → Prop) (Y : Nat → Hp → V → Hp → Prop), Walk J ds.length G Y ∧
    (∀ (H0 : Hp) (A0 : Addr → Prop) (S : Src) (σ : Sl) (ρ : En) (H : Hp) (A : Addr → Prop), σ.length = ρ.length → Mt K so H0 A0 S (σ ++ hv) (ρ ++ hb) H A → G H) ∧
    (∀ (H0 : Hp) (A0 : Addr → Prop) (S : Src) (σ : Sl) (ρ : En) (H : Hp) (A : Addr → Prop) (i : Nat) (d : PyData) (x : V) (H' : Hp), σ.length = ρ.length → Mt K so H0 A0 S (σ ++ hv) (ρ ++ hb) H A → ds[i]? = some d → Y i H x H' →
      ∃ A', Mt K so H0 A0 S (σ ++ hv ++ [some x]) (ρ ++ hb ++ [some (.imm d)]) H' A')
/-- an iterable -/
def RdI (K : PySem.W.Frag) (so : SO) (wi : TI) (fi : En → Src → R (Bool × List PyData)) : Prop := ∀ (H0 : Hp) (A0 : Addr → Prop) (S : Src) (σ : Sl) (ρ : En) (tv : Sl) (tb : En) (H : Hp) (A : Addr → Prop) (Q : It → Hp → Prop), σ.length = ρ.length → Mt K so H0 A0 S (σ ++ tv) (ρ ++ tb) H A →
  (fi ρ S).Post (fun p ρ' S' => ∀ (J : It) (hv : Sl) (hb : En) (H' : Hp) (A' : Addr → Prop), σ.length = ρ'.length → Wk K so J hv hb p.2 → (p.1 = true → NB hb) → Mt K so H0 A0 S' (σ ++ tv ++ hv) (ρ' ++ tb ++ hb) H' A' → Q J H') → wi σ H Q
def forS (s : Bd → En → Option En) (g : SS) : List PyData → En → Src → R Fl
  | [], ρ, S => .ok .nx ρ S
  | d :: ds, ρ, S => match s (.imm d) ρ with
    | none => .bad
    | some ρ1 => match g ρ1 S with
      | .bad => .bad
      | .ok .nx ρ2 S2 => forS s g ds ρ2 S2
      | .ok .ct ρ2 S2 => forS s g ds ρ2 S2
      | .ok .bk ρ2 S2 => .ok .nx ρ2 S2
      | .ok (.rt b) ρ2 S2 => .ok (.rt b) ρ2 S2
def gFor (s : Bd → En → Option En) (fi : En → Src → R (Bool × List PyData)) (g : SS) : SS := fun ρ S => (fi ρ S).bind fun p ρ S => if p.1 = true then forS s g p.2 ρ S else .bad
theorem rds_for {wi : TI} {gt : TG} {t : TS} {s : Bd → En → Option En} {fi : En → Src → R (Bool × List PyData)} {g : SS} {is : List Nat} (hi : RdI K so wi fi) (hg : RdG K so gt s is) (hb : RdS K so t g) : RdS K so (tFor wi gt t) (gFor s fi g) := fun H0 A0 S σ ρ tv tb H A D hl nb M h => by
  refine hi H0 A0 S σ ρ tv tb H A _ hl M ?_
  refine (R.post_bind.mp h).imp fun p ρ1 S1 h J hv hbd H1 A1 hl1 W hnb M1 => ?_
  split at h
  · rename_i hp
    have hN := hnb hp
    obtain ⟨G, Y, walk, hG, hY⟩ := W.ex
    have hx : tv.length = tb.length := by have := M1.len; have := W.len; simp at *; omega
    refine for_it walk (fun i σ' H' => ∃ (ρ' : En) (S' : Src) (A' : Addr → Prop), σ'.length = ρ'.length ∧ Mt K so H0 A0 S' (σ' ++ tv ++ hv) (ρ' ++ tb ++ hbd) H' A' ∧ (forS s g (p.2.drop i) ρ' S').Post (EndOk K so H0 A0 tv tb D))
      ⟨ρ1, S1, A1, hl1, M1, by simpa using h⟩ (fun i σ' H' _ q => ?_) (fun i x σ' H' H2 hlt q y => ?_) (fun σ' H' q => ?_)
    · obtain ⟨ρ', S', A', l, m, _⟩ := q
      exact hG H0 A0 S' (σ' ++ tv) (ρ' ++ tb) H' A' (by simp; omega) m
    · obtain ⟨ρ', S', A', l, m, po⟩ := q
      have ed : p.2[i]? = some p.2[i] := List.getElem?_eq_getElem hlt
      obtain ⟨A2, m2⟩ := hY H0 A0 S' (σ' ++ tv) (ρ' ++ tb) H' A' i p.2[i] x H2 (by simp; omega) m ed y
      rw [List.drop_eq_getElem_cons hlt] at po
      simp only [forS] at po
      cases es : s (.imm p.2[i]) ρ' with
      | none => rw [es] at po; exact po.elim
      | some ρ2 =>
      rw [es] at po
      simp only at po
      refine hg H0 A0 S' σ' ρ' ρ2 (tv ++ hv) (tb ++ hbd) H2 A2 x _ _ l (by simpa only [List.append_assoc] using m2) es fun σ3 H3 A3 l3 _ m3 => ?_
      refine hb H0 A0 S' σ3 ρ2 (tv ++ hv) (tb ++ hbd) H3 A3 _ l3 (fun b hb2 => (List.mem_append.mp hb2).elim (nb b) (hN b)) m3 ?_
      cases eg : g ρ2 S' with
      | bad => rw [eg] at po; exact po.elim
      | ok fl ρ4 S4 =>
      rw [eg] at po
      have nxt : (forS s g (p.2.drop (i + 1)) ρ4 S4).Post (EndOk K so H0 A0 tv tb D) → ∀ (σ5 : Sl) H5 A5, σ5.length = ρ4.length → Mt K so H0 A0 S4 (σ5 ++ (tv ++ hv)) (ρ4 ++ (tb ++ hbd)) H5 A5 →
          ∃ (ρ' : En) (S' : Src) (A' : Addr → Prop), σ5.length = ρ'.length ∧ Mt K so H0 A0 S' (σ5 ++ tv ++ hv) (ρ' ++ tb ++ hbd) H5 A' ∧ (forS s g (p.2.drop (i + 1)) ρ' S').Post (EndOk K so H0 A0 tv tb D) :=
        fun po σ5 H5 A5 l5 m5 => ⟨ρ4, S4, A5, l5, by simpa only [List.append_assoc] using m5, po⟩
      cases fl with
      | nx => exact nxt po
      | ct => exact nxt po
      | bk => exact fun σ5 H5 A5 l5 m5 => po σ5 H5 A5 l5 (Mt.sub (xs := hv) (ys := hbd) (by simpa only [List.append_assoc] using m5) (by simp; omega))
      | rt b => exact fun σ5 v5 H5 A5 l5 m5 => po σ5 v5 H5 A5 l5 (Mt.cut (xs := hv) (ys := hbd) (by simpa only [List.append_assoc] using m5) (by simp; omega) W.len)
    · obtain ⟨ρ', S', A', l, m, po⟩ := q
      rw [List.drop_of_length_le (Nat.le_refl _)] at po
      exact po σ' H' A' l (m.sub (by simp; omega))
  · exact h.elim
/-- a while, at most n turns -/
def whS (c : SB) (g : SS) : Nat → En → Src → R Fl
  | 0, _, _ => .bad
  | n + 1, ρ, S => (c ρ S).bind fun k ρ1 S1 => if k = true then match g ρ1 S1 with
    | .bad => .bad
    | .ok .nx ρ2 S2 => whS c g n ρ2 S2
    | .ok .ct ρ2 S2 => whS c g n ρ2 S2
    | .ok .bk ρ2 S2 => .ok .nx ρ2 S2
    | .ok (.rt b) ρ2 S2 => .ok (.rt b) ρ2 S2 else .ok .nx ρ1 S1
/-- how many turns a while is let -/
def FU : Nat := 1000000
def gWhile (c : SB) (g : SS) : SS := whS c g FU
theorem rds_while {tc : TT} {t : TS} {c : SB} {g : SS} (hc : RdT K so tc c) (hb : RdS K so t g) : RdS K so (tWhile tc t) (gWhile c g) := fun H0 A0 S σ ρ tv tb H A D hl nb M h => by
  refine ⟨fun n σ' H' => ∃ (ρ' : En) (S' : Src) (A' : Addr → Prop), σ'.length = ρ'.length ∧ Mt K so H0 A0 S' (σ' ++ tv) (ρ' ++ tb) H' A' ∧ (whS c g n ρ' S').Post (EndOk K so H0 A0 tv tb D), ⟨FU, ρ, S, A, hl, M, h⟩, ?_⟩
  rintro n σ' H' ⟨ρ', S', A', l, m, po⟩
  cases n with
  | zero => exact po.elim
  | succ n =>
  simp only [whS] at po
  refine hc H0 A0 S' σ' ρ' tv tb H' A' _ l m ?_
  refine (R.post_bind.mp po).imp fun k ρ1 S1 po H1 A1 l1 m1 => ?_
  cases k with
  | false => rw [if_neg Bool.false_ne_true] at po ⊢; exact po σ' H1 A1 l1 m1
  | true =>
  rw [if_pos rfl] at po ⊢
  refine ⟨fun σ' H' => ∃ (ρ' : En) (S' : Src) (A' : Addr → Prop), σ'.length = ρ'.length ∧ Mt K so H0 A0 S' (σ' ++ tv) (ρ' ++ tb) H' A' ∧ (whS c g n ρ' S').Post (EndOk K so H0 A0 tv tb D), fun σ2 H2 q => ⟨n, Nat.lt_succ_self n, q⟩, ?_⟩
  refine hb H0 A0 S1 σ' ρ1 tv tb H1 A1 _ l1 nb m1 ?_
  cases eg : g ρ1 S1 with
  | bad => rw [eg] at po; exact po.elim
  | ok fl ρ2 S2 =>
  rw [eg] at po
  cases fl with
  | nx => exact fun σ5 H5 A5 l5 m5 => ⟨ρ2, S2, A5, l5, m5, po⟩
  | ct => exact fun σ5 H5 A5 l5 m5 => ⟨ρ2, S2, A5, l5, m5, po⟩
  | bk => exact po
  | rt b => exact po
end
/-! ### a def by its body -/
def runB (m n : Nat) (g : SS) : FD := fun bs S => if (decide (bs.length = m) && bs.all fun b => !b.own && !b.isBor) = true then match g (bs.map some ++ List.replicate (n - m) none) S with
  | .ok (.rt b) _ S' => some (b, S')
  | .ok .nx _ S' => some (.imm .none, S')
  | _ => none else none
theorem runB_some {m n : Nat} {g : SS} {bs : List Bd} {S S' : Src} {b : Bd} (h : runB m n g bs S = some (b, S')) : bs.length = m ∧
    ((∃ ρ, g (bs.map some ++ List.replicate (n - m) none) S = .ok (.rt b) ρ S') ∨ (b = .imm .none ∧ ∃ ρ, g (bs.map some ++ List.replicate (n - m) none) S = .ok .nx ρ S')) := by
  unfold runB at h
  by_cases hc : (decide (bs.length = m) && bs.all fun b => !b.own && !b.isBor) = true
  · rw [if_pos hc] at h
    simp only [Bool.and_eq_true, decide_eq_true_eq] at hc
    refine ⟨hc.1, ?_⟩
    cases eg : g (bs.map some ++ List.replicate (n - m) none) S with
    | bad => rw [eg] at h; cases h
    | ok fl ρ S2 =>
      rw [eg] at h
      cases fl with
      | nx => cases h; exact .inr ⟨rfl, ρ, rfl⟩
      | rt c => cases h; exact .inl ⟨ρ, rfl⟩
      | bk => cases h
      | ct => cases h
  · rw [if_neg hc] at h; cases h
section
variable {P : Program} {w : World} {K : PySem.W.Frag} {mg : Str → Option Value} {base : Heap}
theorem Mt.nones {so : SO} {H0 H : Hp} {A0 A : Addr → Prop} {S : Src} {σ : Sl} {ρ : En} (m : Mt K so H0 A0 S σ ρ H A) (n : Nat) : Mt K so H0 A0 S (σ ++ List.replicate n none) (ρ ++ List.replicate n none) H A :=
  m.re id (by simp [m.len]) (fun i b e => by
    by_cases hi : i < ρ.length
    · rw [List.getElem?_append_left hi] at e
      exact ⟨e, by rw [List.getElem?_append_left (by rw [m.len]; exact hi)]; rfl⟩
    · rw [List.getElem?_append_right (by omega)] at e
      have := List.mem_of_getElem? e
      rw [List.mem_replicate] at this
      cases this.2) fun i j _ _ ne _ _ _ _ => ne
theorem fn_d {x qual : Str} {st : Stmt} {f : Addr} {fd : FuncData} {N ps : List Str} {k : Nat} {g : SS} (F : Fun K x qual st f fd) (S : FnScope N ps (defScope st))
    (hb : ∀ (so : SO) (cdv : Value) (A : Around) (outer : List PySem.Env) (s : Shared) (H : Hp), Rm k (A.deeper (envOfC qual (defScope st) s.heap.objs.size f cdv)) →
      ∃ t, DSs (cxOf CX0 P w K mg base N qual (defScope st) f cdv A outer s H E0).nox so (defBody st) t g) : FnD P w K mg base (k + 1) f fd ps (runB ps.length N.length g) := by
  intro so
  refine FnG.body F S (fun vs H Q E h => ?_) fun cdv A outer s H vs Q hr h => ?_
  · obtain ⟨bs, S', A', M, h⟩ := h
    cases e : runB ps.length N.length g bs S' with
    | none => rw [e] at h; exact h.elim
    | some r =>
      have := (runB_some (b := r.1) (S' := r.2) e).1
      have := M.len
      simp at this
      omega
  · obtain ⟨t, ht⟩ := hb so cdv A outer s H hr
    refine ⟨t, ht.pss, ?_⟩
    obtain ⟨bs, S', A', M, h⟩ := h
    cases e : runB ps.length N.length g bs S' with
    | none => rw [e] at h; exact h.elim
    | some r =>
    obtain ⟨b, S2⟩ := r
    rw [e] at h
    simp only at h
    obtain ⟨hc, hg⟩ := runB_some e
    have hvl : vs.length = bs.length := by have := M.len; simpa using this
    have M1 : Mt K so H A' S' (L2.start N vs) (bs.map some ++ List.replicate (N.length - ps.length) none) H A' := by
      have := M.nones (N.length - ps.length)
      unfold L2.start
      rw [hvl, hc]
      exact this
    have rd := ht.rd H A' S' (L2.start N vs) _ [] [] H A' { nx := fun _ H' => Q .non H', rt := Q } (by have := M1.len; exact this) (fun b hb => nomatch hb) (by rw [List.append_nil, List.append_nil]; exact M1)
    have only : ∀ {σ : Sl} {ρ : En} {v : V} {b : Bd} {H2 : Hp} {A2 : Addr → Prop}, σ.length = ρ.length → Mt K so H A' S2 (σ ++ [some v]) (ρ ++ [some b]) H2 A2 → Mt K so H A' S2 [some v] [some b] H2 A2 := fun {σ ρ v b H2 A2} l m =>
      Mt.cut (σ := []) (ρ := []) (xs := σ) (ys := ρ) m rfl l
    refine rd ?_
    rcases hg with ⟨ρ, eg⟩ | ⟨rfl, ρ, eg⟩
    · rw [eg]
      intro σ v H2 A2 l m
      exact h v H2 A2 (only l (by have m' := m; rw [List.append_nil, List.append_nil] at m'; exact m'))
    · rw [eg]
      intro σ H2 A2 l m
      exact h .non H2 A2 (only (σ := σ) (ρ := ρ) l (Mt.pushI (b := .imm .none) (by have m' := m; rw [List.append_nil, List.append_nil] at m'; exact m') Den.non rfl))
end
end DL
set_option maxRecDepth 100000
set_option maxHeartbeats 2000000
/-! DE: operators, subscripts, slices, built-ins, what is walked, comprehensions: by data. -/
namespace DL
open PySem PySem.Spec PyProof.Rows L2
section
variable {K : PySem.W.Frag} {so : SO} {H0 H H' : Hp} {A0 A A' : Addr → Prop} {S S' : Src} {σ σ' tv : Sl} {ρ ρ' tb : En} {v x y : V} {b c : Bd}
/-- a value without objects is pushed -/
theorem Mt.flat {d : PyData} (M : Mt K so H0 A0 S σ ρ H A) (h : ∀ H A, Den K H A v d) : Mt K so H0 A0 S (σ ++ [some v]) (ρ ++ [some (.imm d)]) H A := M.pushI (h H A) rfl
theorem Mt.tupD {ds : List PyData} (o : OOk K so H0 H A v b) (e : toD b = some (.tuple ds)) : ∃ a vs, v = .ref a ∧ SqT K H a vs ∧ DpAll K H vs ds := by
  have h := o.dp e
  cases h with
  | tup hs hl => exact ⟨_, _, rfl, hs, hl⟩
/-! ### operators -/
def pair? (a b : Bd) : Option (PyData × PyData) := (toD a).bind fun d => (toD b).map fun e => (d, e)
theorem pair_some {a b : Bd} {d e : PyData} (h : pair? a b = some (d, e)) : toD a = some d ∧ toD b = some e := by
  unfold pair? at h
  cases ea : toD a with
  | none => rw [ea] at h; cases h
  | some d' =>
    cases eb : toD b with
    | none => rw [ea, eb] at h; cases h
    | some e' => rw [ea, eb] at h; cases h; exact ⟨rfl, rfl⟩
/-- two ints -/
def iOp (f : Int → Int → Option PyData) (a b : Bd) : Option Bd := match toD a, toD b with
  | some (.int i), some (.int j) => (f i j).map Bd.imm
  | _, _ => none
theorem iOp_some {f : Int → Int → Option PyData} {a b r : Bd} (h : iOp f a b = some r) : ∃ i j d, toD a = some (.int i) ∧ toD b = some (.int j) ∧ f i j = some d ∧ r = .imm d := by
  unfold iOp at h
  split at h
  · rename_i i j e1 e2
    cases ef : f i j with
    | none => rw [ef] at h; cases h
    | some d => rw [ef] at h; cases h; exact ⟨i, j, d, e1, e2, ef, rfl⟩
  · cases h
def subB : Bd → Bd → Option Bd := iOp fun i j => some (.int (i - j))
def ltB : Bd → Bd → Option Bd := iOp fun i j => some (.bool (decide (i < j)))
def leB : Bd → Bd → Option Bd := iOp fun i j => some (.bool (decide (i ≤ j)))
def gtB : Bd → Bd → Option Bd := iOp fun i j => some (.bool (decide (j < i)))
def geB : Bd → Bd → Option Bd := iOp fun i j => some (.bool (decide (j ≤ i)))
def fdivB : Bd → Bd → Option Bd := iOp fun i j => if j ≠ 0 ∧ j.natAbs < 1073741824 then some (.int (i.fdiv j)) else none
def modB : Bd → Bd → Option Bd := iOp fun i j => if j ≠ 0 then some (.int (i.fmod j)) else none
theorem ops_i0 {f : Int → Int → V} {g : Int → Int → PyData} (hfg : ∀ i j H A, Den K H A (f i j) (g i j)) : OpS K so (rI0 f) (iOp fun i j => some (g i j)) := fun H0 A0 S σ ρ H A x y bx by_ b Q M e q => by
  obtain ⟨i, j, d, e1, e2, e3, rfl⟩ := iOp_some e
  cases e3
  exact ⟨i, j, (M.init.last.dp e1).intI, (M.last.dp e2).intI, q _ H A (M.flat (hfg i j))⟩
theorem ops_sub : OpS K so (rI0 fun i j => .int (i - j)) subB := ops_i0 fun i j H A => .int _
theorem ops_lt : OpS K so (rI0 fun i j => .bl (decide (i < j))) ltB := ops_i0 fun i j H A => .bl _
theorem ops_le : OpS K so (rI0 fun i j => .bl (decide (i ≤ j))) leB := ops_i0 fun i j H A => .bl _
theorem ops_gt : OpS K so (rI0 fun i j => .bl (decide (j < i))) gtB := ops_i0 fun i j H A => .bl _
theorem ops_ge : OpS K so (rI0 fun i j => .bl (decide (j ≤ i))) geB := ops_i0 fun i j H A => .bl _
theorem ops_fdiv : OpS K so (rI CDivN fun i j => .int (i.fdiv j)) fdivB := fun H0 A0 S σ ρ H A x y bx by_ b Q M e q => by
  obtain ⟨i, j, d, e1, e2, e3, rfl⟩ := iOp_some e
  split at e3
  · rename_i hz
    cases e3
    exact ⟨i, j, (M.init.last.dp e1).intI, (M.last.dp e2).intI, hz, q _ H A (M.flat fun H A => .int _)⟩
  · cases e3
theorem ops_mod : OpS K so (rI (fun _ j => j ≠ 0) fun i j => .int (i.fmod j)) modB := fun H0 A0 S σ ρ H A x y bx by_ b Q M e q => by
  obtain ⟨i, j, d, e1, e2, e3, rfl⟩ := iOp_some e
  split at e3
  · rename_i hz
    cases e3
    exact ⟨i, j, (M.init.last.dp e1).intI, (M.last.dp e2).intI, hz, q _ H A (M.flat fun H A => .int _)⟩
  · cases e3
/-- + of ints, texts, tuples, lists -/
def addB (a b : Bd) : Option Bd := match a, b with
  | .imm (.tuple xs), .imm (.tuple ys) => if xs.length + ys.length ≤ 1000000 then some (.imm (.tuple (xs ++ ys))) else none
  | a, b => match toL a, toL b with
    | some xs, some ys => if xs.length + ys.length ≤ 1000000 then some (.lst (xs ++ ys)) else none
    | _, _ => match toD a, toD b with
      | some (.int i), some (.int j) => some (.imm (.int (i + j)))
      | some (.str s), some (.str t) => if s.length + t.length ≤ 1000000 then some (.imm (.str (s ++ t))) else none
      | _, _ => none
def rAddA (K : PySem.W.Frag) : R2 := fun x y H Q => rCatA K x y H Q ∨ rCat x y H Q ∨ rI0 (fun i j => .int (i + j)) x y H Q ∨ (∃ i j, x = .str i ∧ y = .str j ∧ i.length + j.length ≤ sizeLine ∧ Q (.str (i ++ j)) H)
theorem op_addA {X : Cx} : OpR X (binaryOp .Add) (rAddA X.K) := op_catA.or (op_cat.or (op_add.or op_add_str))
theorem ops_add : OpS K so (rAddA K) addB := fun H0 A0 S σ ρ H A x y bx by_ b Q M e q => by
  have o1 := M.init.last
  have o2 := M.last
  unfold addB at e
  split at e
  · rename_i xs ys
    split at e
    · rename_i hz
      cases e
      obtain ⟨a1, v1, rfl, g1, h1⟩ := o1.tupI
      obtain ⟨a2, v2, rfl, g2, h2⟩ := o2.tupI
      refine .inl ⟨a1, a2, v1, v2, rfl, rfl, SqT.of g1, SqT.of g2, by rw [h1.length, h2.length]; exact lim2 hz, fun z => ?_, fun z1 z2 => ?_, fun z1 z2 p hp => ?_⟩
      · subst z
        cases h1
        exact q _ H A (M.pushI (b := .imm (.tuple ([] ++ ys))) (by simpa using o2) rfl)
      · subst z2
        cases h2
        exact q _ H A (M.pushI (b := .imm (.tuple (xs ++ []))) (by simpa using o1) rfl)
      · exact q _ _ A (M.newT hp (h1.append h2))
    · cases e
  · split at e
    · rename_i xs ys e1 e2
      split at e
      · rename_i hz
        cases e
        obtain ⟨a1, v1, rfl, g1, h1⟩ := o1.lstI e1
        obtain ⟨a2, v2, rfl, g2, h2⟩ := o2.lstI e2
        exact .inr (.inl ⟨a1, a2, v1, v2, rfl, rfl, g1, g2, by rw [h1.length, h2.length]; exact lim2 hz, fun p hp => q _ _ A (M.newL hp (h1.append h2))⟩)
      · cases e
    · split at e
      · rename_i i j e1 e2
        cases e
        exact .inr (.inr (.inl ⟨i, j, (o1.dp e1).intI, (o2.dp e2).intI, q _ H A (M.flat fun H A => .int _)⟩))
      · rename_i s t e1 e2
        split at e
        · rename_i hz
          cases e
          exact .inr (.inr (.inr ⟨s, t, (o1.dp e1).strI, (o2.dp e2).strI, lim2 hz, q _ H A (M.flat fun H A => .str _)⟩))
        · cases e
      · cases e
/-- * of ints, of a list and an int -/
def mulB (a b : Bd) : Option Bd := match toL a, toD b with
  | some xs, some (.int k) => if 0 ≤ k ∧ k ≤ 1000 ∧ xs.length * k.toNat ≤ 1000000 then some (.lst (List.replicate k.toNat xs).flatten) else none
  | _, _ => match toD a, toD b with
    | some (.int i), some (.int j) => if (-(2 ^ 64) < i ∧ i < 2 ^ 64) ∨ (-(2 ^ 64) < j ∧ j < 2 ^ 64) then some (.imm (.int (i * j))) else none
    | _, _ => none
theorem DenL.rep {ds : List PyData} {vs : List V} (h : DenL K H A vs ds) : ∀ k : Nat, DenL K H A (List.replicate k vs).flatten (List.replicate k ds).flatten
  | 0 => .nil
  | k + 1 => by rw [List.replicate_succ, List.replicate_succ, List.flatten_cons, List.flatten_cons]; exact h.append (DenL.rep h k)
/-- == of data -/
def eqB (neg : Bool) (a b : Bd) : Option Bd := match toD a, toD b with
  | some (.str x), some (.str y) => some (.imm (.bool (if neg then !decide (x = y) else decide (x = y))))
  | some (.int i), some (.int j) => some (.imm (.bool (if neg then !decide (i = j) else decide (i = j))))
  | some d, some e => if (SeqAt.shaped d && SeqAt.shaped e) = true then some (.imm (.bool (if neg then !PyData.eqv d e else PyData.eqv d e))) else none
  | _, _ => none
def rEqA (K : PySem.W.Frag) : R2 := fun x y H Q => rEq x y H Q ∨ rEqD K x y H Q
def rNeA (K : PySem.W.Frag) : R2 := fun x y H Q => rNe x y H Q ∨ rNeD K x y H Q
theorem op_eqA {X : Cx} (hu : X.A.units + 64 < cLine) : OpR X (compareOp .Eq) (rEqA X.K) := op_eq.or (op_eqD hu)
theorem op_neA {X : Cx} (hu : X.A.units + 64 < cLine) : OpR X (compareOp .NotEq) (rNeA X.K) := op_ne.or (op_neD hu)
theorem ops_eq : OpS K so (rEqA K) (eqB false) := fun H0 A0 S σ ρ H A x y bx by_ b Q M e q => by
  unfold eqB at e
  split at e
  · rename_i u v e1 e2
    cases e
    cases (M.init.last.dp e1)
    cases (M.last.dp e2)
    refine .inl ⟨rfl, ?_⟩
    have := q (.bl (decide (u = v))) H A (M.flat fun H A => .bl _)
    simpa using this
  · rename_i u v e1 e2
    cases e
    cases (M.init.last.dp e1)
    cases (M.last.dp e2)
    refine .inl ⟨rfl, ?_⟩
    have := q (.bl (decide (u = v))) H A (M.flat fun H A => .bl _)
    simpa using this
  · rename_i d1 d2 _ _ e1 e2
    split at e
    · rename_i hz
      cases e
      simp only [Bool.and_eq_true] at hz
      exact .inr ⟨d1, d2, M.init.last.dp e1, M.last.dp e2, hz.1, hz.2, q _ H A (M.flat fun H A => .bl _)⟩
    · cases e
  · cases e
theorem ops_ne : OpS K so (rNeA K) (eqB true) := fun H0 A0 S σ ρ H A x y bx by_ b Q M e q => by
  unfold eqB at e
  split at e
  · rename_i u v e1 e2
    cases e
    cases (M.init.last.dp e1)
    cases (M.last.dp e2)
    refine .inl ⟨rfl, ?_⟩
    have := q (.bl (!decide (u = v))) H A (M.flat fun H A => .bl _)
    simpa using this
  · rename_i u v e1 e2
    cases e
    cases (M.init.last.dp e1)
    cases (M.last.dp e2)
    refine .inl ⟨rfl, ?_⟩
    have := q (.bl (!decide (u = v))) H A (M.flat fun H A => .bl _)
    simpa using this
  · rename_i d1 d2 _ _ e1 e2
    split at e
    · rename_i hz
      cases e
      simp only [Bool.and_eq_true] at hz
      exact .inr ⟨d1, d2, M.init.last.dp e1, M.last.dp e2, hz.1, hz.2, q _ H A (M.flat fun H A => .bl _)⟩
    · cases e
  · cases e
/-- is None; is, of truth values -/
def isNone : Bd → Bool
  | .imm .none => true
  | .wr .none => true
  | _ => false
def isB (neg : Bool) (a b : Bd) : Option Bd := match toD b with
  | some .none => some (.imm (.bool (if neg then !isNone a else isNone a)))
  | some (.bool j) => match toD a with
    | some (.bool i) => some (.imm (.bool (if neg then !decide (i = j) else decide (i = j))))
    | _ => none
  | _ => none
theorem OOk.none (o : OOk K so H0 H A v b) : decide (v = .non) = isNone b := by
  cases b with
  | imm d =>
    cases d with
    | none => cases o; rfl
    | bool _ => cases o; rfl
    | int _ => cases o; rfl
    | str _ => cases o; rfl
    | list _ => cases o; rfl
    | tuple _ => cases o; rfl
    | dict _ => cases o
  | wr d =>
    have h : Dp K (fun _ => none) v d := o
    cases d with
    | none => cases h; rfl
    | bool _ => cases h; rfl
    | int _ => cases h; rfl
    | str _ => cases h; rfl
    | list _ => cases h; rfl
    | tuple _ => cases h; rfl
    | dict _ => cases h
  | bor ds => obtain ⟨a, vs, rfl, _⟩ := o; rfl
  | lst ds => obtain ⟨a, vs, rfl, _⟩ := o; rfl
  | dk ds => obtain ⟨a, kv, rfl, _⟩ := o; rfl
  | dt ds => obtain ⟨a, kv, rfl, _⟩ := o; rfl
  | src => obtain ⟨a, c, rfl, _⟩ := o; rfl
  | ref a => cases o; rfl
def rIsA : R2 := fun x y H Q => (y = .non ∧ Q (.bl (decide (x = .non))) H) ∨ rIsB x y H Q
def rIsnA : R2 := fun x y H Q => (y = .non ∧ Q (.bl (!decide (x = .non))) H) ∨ rNotB x y H Q
theorem op_isA {X : Cx} : OpR X (compareOp .Is) rIsA := op_isN.or op_isBl
theorem op_isnA {X : Cx} : OpR X (compareOp .IsNot) rIsnA := op_notN.or op_notBl
theorem ops_is : OpS K so rIsA (isB false) := fun H0 A0 S σ ρ H A x y bx by_ b Q M e q => by
  unfold isB at e
  have o1 := M.init.last
  split at e
  · rename_i e1
    cases e
    have h := M.last.dp e1
    cases h
    exact .inl ⟨rfl, by rw [o1.none]; exact q _ H A (M.flat fun H A => .bl _)⟩
  · rename_i j e1
    split at e
    · rename_i i e2
      cases e
      exact .inr ⟨i, j, (o1.dp e2).blI, (M.last.dp e1).blI, q _ H A (M.flat fun H A => .bl _)⟩
    · cases e
  · cases e
theorem ops_isn : OpS K so rIsnA (isB true) := fun H0 A0 S σ ρ H A x y bx by_ b Q M e q => by
  unfold isB at e
  have o1 := M.init.last
  split at e
  · rename_i e1
    cases e
    have h := M.last.dp e1
    cases h
    exact .inl ⟨rfl, by rw [o1.none]; exact q _ H A (M.flat fun H A => .bl _)⟩
  · rename_i j e1
    split at e
    · rename_i i e2
      cases e
      exact .inr ⟨i, j, (o1.dp e2).blI, (M.last.dp e1).blI, q _ H A (M.flat fun H A => .bl _)⟩
    · cases e
  · cases e
/-- in, not in -/
def flatD : PyData → Bool
  | .list _ => false
  | .tuple _ => false
  | .dict _ => false
  | _ => true
def itemsD : PyData → Option (List PyData)
  | .list ds => some ds
  | .tuple ds => some ds
  | _ => none
def inB (neg : Bool) (x c : Bd) : Option Bd := match toD x, toD c with
  | some (.str s), some (.str z) => match s.cps.toList with
    | [k] => some (.imm (.bool (if neg then !decide (k ∈ z.cps.toList) else decide (k ∈ z.cps.toList))))
    | _ => none
  | some d, some e => match itemsD e with
    | some ds => if (flatD d && ds.all flatD) = true then some (.imm (.bool (if neg then !ds.any fun z => PyData.eqv z d else ds.any fun z => PyData.eqv z d)))
      else match e with
        | .list ds => if (SeqAt.shaped d && SeqAt.shaped (.list ds)) = true then some (.imm (.bool (if neg then !ds.any fun z => PyData.eqv z d else ds.any fun z => PyData.eqv z d))) else none
        | _ => none
    | none => none
  | _, _ => none
theorem _root_.L2.Dp.flat {d : PyData} (h : Dp K H v d) (f : flatD d = true) : flatV v = true := by
  cases h <;> first | rfl | cases f
theorem _root_.L2.Dp.eqVD {d e : PyData} {w : V} (h : Dp K H v d) (h2 : Dp K H w e) (f : flatD d = true) (f2 : flatD e = true) : eqV v w = PyData.eqv d e := by
  cases h <;> cases h2 <;> first | rfl | cases f | cases f2 | skip
  all_goals simp [eqV, PyData.eqv]
theorem dpAll_allF : ∀ {ds : List PyData} {vs : List V}, DpAll K H vs ds → ds.all flatD = true → vs.all flatV = true
  | [], _, h, _ => by cases h; rfl
  | d :: ds, _, h, f => by
    cases h with
    | cons h1 h2 =>
      simp only [List.all_cons, Bool.and_eq_true] at f ⊢
      exact ⟨h1.flat f.1, dpAll_allF h2 f.2⟩
theorem dpAll_inD {d : PyData} (hv : Dp K H v d) (f : flatD d = true) : ∀ {ds : List PyData} {vs : List V}, DpAll K H vs ds → ds.all flatD = true → inV v vs = ds.any fun z => PyData.eqv z d
  | [], _, h, _ => by cases h; rfl
  | e :: ds, _, h, g => by
    cases h with
    | cons h1 h2 =>
      simp only [List.all_cons, Bool.and_eq_true] at g
      have r := dpAll_inD hv f h2 g.2
      unfold inV at r ⊢
      rw [List.any_cons, List.any_cons, r, h1.eqVD hv g.1 f]
def rInA (K : PySem.W.Frag) : R2 := fun x y H Q => rIn K false x y H Q ∨ (∃ (c : Nat) (z : Str), x = .str ⟨#[c]⟩ ∧ y = .str z ∧ Q (.bl (decide (c ∈ z.cps.toList))) H) ∨ rInD K x y H Q
def rNinA (K : PySem.W.Frag) : R2 := fun x y H Q => rIn K true x y H Q ∨ (∃ (c : Nat) (z : Str), x = .str ⟨#[c]⟩ ∧ y = .str z ∧ Q (.bl (!decide (c ∈ z.cps.toList))) H) ∨ rNotInD K x y H Q
theorem op_inA {X : Cx} (hu : X.A.units + 65 < cLine) : OpR X (compareOp .In) (rInA X.K) := op_in_seq.or (op_in_sign.or (op_inD hu))
theorem op_ninA {X : Cx} (hu : X.A.units + 65 < cLine) : OpR X (compareOp .NotIn) (rNinA X.K) := op_notIn_seq.or (op_notIn_sign.or (op_notInD hu))
theorem _root_.L2.Dp.seq {e : PyData} {ds : List PyData} (h : Dp K H v e) (i : itemsD e = some ds) : ∃ p vs, v = .ref p ∧ (SqL K H p vs ∨ SqT K H p vs) ∧ DpAll K H vs ds := by
  cases h with
  | lst hs hl => cases i; exact ⟨_, _, rfl, .inl hs, hl⟩
  | tup hs hl => cases i; exact ⟨_, _, rfl, .inr hs, hl⟩
  | _ => cases i
theorem Str.one {s : Str} {k : Nat} (h : s.cps.toList = [k]) : s = ⟨#[k]⟩ := by
  cases s with
  | mk a => cases a with | mk l => simp at h; subst h; rfl
theorem ops_in : OpS K so (rInA K) (inB false) := fun H0 A0 S σ ρ H A x y bx by_ b Q M e q => by
  unfold inB at e
  split at e
  · rename_i s z e1 e2
    split at e
    · rename_i k ek
      cases e
      exact .inr (.inl ⟨k, z, by rw [(M.init.last.dp e1).strI, Str.one ek], (M.last.dp e2).strI, q _ H A (M.flat fun H A => .bl _)⟩)
    · cases e
  · rename_i d e' n1 e1 e2
    split at e
    · rename_i ds ei
      split at e
      · rename_i hf
        cases e
        simp only [Bool.and_eq_true] at hf
        have d1 := M.init.last.dp e1
        obtain ⟨p, vs, rfl, hs, hl⟩ := (M.last.dp e2).seq ei
        exact .inl ⟨p, vs, rfl, hs, d1.flat hf.1, dpAll_allF hl hf.2, by rw [if_neg Bool.false_ne_true, dpAll_inD d1 hf.1 hl hf.2]; exact q _ H A (M.flat fun H A => .bl _)⟩
      · split at e
        · rename_i ds'
          cases ei
          split at e
          · rename_i hz
            cases e
            simp only [Bool.and_eq_true] at hz
            exact .inr (.inr ⟨_, _, M.init.last.dp e1, M.last.dp e2, hz.1, hz.2, q _ H A (M.flat fun H A => .bl _)⟩)
          · cases e
        · cases e
    · cases e
  · cases e
theorem ops_nin : OpS K so (rNinA K) (inB true) := fun H0 A0 S σ ρ H A x y bx by_ b Q M e q => by
  unfold inB at e
  split at e
  · rename_i s z e1 e2
    split at e
    · rename_i k ek
      cases e
      exact .inr (.inl ⟨k, z, by rw [(M.init.last.dp e1).strI, Str.one ek], (M.last.dp e2).strI, q _ H A (M.flat fun H A => .bl _)⟩)
    · cases e
  · rename_i d e' n1 e1 e2
    split at e
    · rename_i ds ei
      split at e
      · rename_i hf
        cases e
        simp only [Bool.and_eq_true] at hf
        have d1 := M.init.last.dp e1
        obtain ⟨p, vs, rfl, hs, hl⟩ := (M.last.dp e2).seq ei
        exact .inl ⟨p, vs, rfl, hs, d1.flat hf.1, dpAll_allF hl hf.2, by rw [if_pos rfl, dpAll_inD d1 hf.1 hl hf.2]; exact q _ H A (M.flat fun H A => .bl _)⟩
      · split at e
        · rename_i ds'
          cases ei
          split at e
          · rename_i hz
            cases e
            simp only [Bool.and_eq_true] at hz
            exact .inr (.inr ⟨_, _, M.init.last.dp e1, M.last.dp e2, hz.1, hz.2, q _ H A (M.flat fun H A => .bl _)⟩)
          · cases e
        · cases e
    · cases e
  · cases e
/-! ### subscripts, slices -/
def seqD : PyData → Option (List PyData) := itemsD
/-- the i-th of a list, a tuple, a text -/
def ixB (a b : Bd) : Option Bd := match toD b with
  | some (.int i) => match a with
    | .wr (.tuple ds) => (atI ds i).map Bd.wr
    | a => match toL a with
      | some ds => (atI ds i).map Bd.imm
      | none => match a with
        | .imm (.tuple ds) => (atI ds i).map Bd.imm
        | .imm (.str z) => if z.length ≤ 1000000 then (atI z.cps.toList i).map fun c => .imm (.str ⟨#[c]⟩) else none
        | .wr (.str z) => if z.length ≤ 1000000 then (atI z.cps.toList i).map fun c => .imm (.str ⟨#[c]⟩) else none
        | _ => none
  | _ => none
theorem DenL.at {ds : List PyData} {vs : List V} {i : Int} {d : PyData} (h : DenL K H A vs ds) (e : atI ds i = some d) : ∃ v, atI vs i = some v ∧ Den K H A v d := by
  unfold atI at e ⊢
  rw [h.length]
  cases ej : ixN ds.length i with
  | none => rw [ej] at e; cases e
  | some j =>
    rw [ej] at e
    exact h.get e
theorem dpAll_len : ∀ {ds : List PyData} {vs : List V}, DpAll K H vs ds → vs.length = ds.length
  | [], _, h => by cases h; rfl
  | d :: ds, _, h => by
    cases h with
    | cons h1 h2 => simp [dpAll_len h2]
end
end DL
set_option maxRecDepth 100000
set_option maxHeartbeats 2000000
/-! DF: subscripts, slices, built-ins, what is walked, comprehensions: by data. -/
namespace DL
open PySem PySem.Spec PyProof.Rows L2
section
variable {K : PySem.W.Frag} {so : SO} {H0 H H' : Hp} {A0 A A' : Addr → Prop} {S S' : Src} {σ σ' tv : Sl} {ρ ρ' tb : En} {v x y : V} {b c : Bd}
theorem dpAll_get : ∀ {ds : List PyData} {vs : List V} {i : Nat} {d : PyData}, DpAll K H vs ds → ds[i]? = some d → ∃ v, vs[i]? = some v ∧ Dp K H v d
  | [], _, i, d, h, e => by simp at e
  | d0 :: ds, _, i, d, h, e => by
    cases h with
    | cons h1 h2 =>
      cases i with
      | zero => simp at e; subst e; exact ⟨_, rfl, h1⟩
      | succ i =>
        obtain ⟨v, e1, e2⟩ := dpAll_get h2 (i := i) (by simpa using e)
        exact ⟨v, by simpa using e1, e2⟩
theorem dpAll_at {ds : List PyData} {vs : List V} {i : Int} {d : PyData} (h : DpAll K H vs ds) (e : atI ds i = some d) : ∃ v, atI vs i = some v ∧ Dp K H v d := by
  unfold atI at e ⊢
  rw [dpAll_len h]
  cases ej : ixN ds.length i with
  | none => rw [ej] at e; cases e
  | some j =>
    rw [ej] at e
    exact dpAll_get h e
theorem ops_ix : OpS K so (rIx K) ixB := fun H0 A0 S σ ρ H A x y bx by_ b Q M e q => by
  unfold ixB at e
  split at e
  · rename_i i ei
    have ey := (M.last.dp ei).intI
    have o1 := M.init.last
    split at e
    · rename_i ds
      cases ea : atI ds i with
      | none => rw [ea] at e; cases e
      | some d =>
      rw [ea] at e
      cases e
      have h : Dp K (fun _ => none) x (.tuple ds) := o1
      cases h with
      | tup hs hl =>
        obtain ⟨v, g1, g2⟩ := dpAll_at hl ea
        exact .inr (.inl ⟨_, _, i, v, rfl, ey, sqT_k hs, g1, q v H A (M.pushI (b := .wr d) g2 rfl)⟩)
    · split at e
      · rename_i ds el
        cases ea : atI ds i with
        | none => rw [ea] at e; cases e
        | some d =>
        rw [ea] at e
        cases e
        obtain ⟨a, vs, rfl, g1, g2⟩ := o1.lstI el
        obtain ⟨v, g3, g4⟩ := g2.at ea
        exact .inl ⟨a, vs, i, v, rfl, ey, SqL.of g1, g3, q v H A (M.pushI (b := .imm d) g4 rfl)⟩
      · split at e
        · rename_i ds _ _
          cases ea : atI ds i with
          | none => rw [ea] at e; cases e
          | some d =>
          rw [ea] at e
          cases e
          obtain ⟨a, vs, rfl, g1, g2⟩ := o1.tupI
          obtain ⟨v, g3, g4⟩ := g2.at ea
          exact .inr (.inl ⟨a, vs, i, v, rfl, ey, SqT.of g1, g3, q v H A (M.pushI (b := .imm d) g4 rfl)⟩)
        · rename_i z _ _
          split at e
          · rename_i hz
            cases ea : atI z.cps.toList i with
            | none => rw [ea] at e; cases e
            | some k =>
            rw [ea] at e
            cases e
            exact .inr (.inr ⟨z, i, k, (o1.dp rfl).strI, ey, lim2 hz, ea, q _ H A (M.flat fun H A => .str _)⟩)
          · cases e
        · rename_i z _ _
          split at e
          · rename_i hz
            cases ea : atI z.cps.toList i with
            | none => rw [ea] at e; cases e
            | some k =>
            rw [ea] at e
            cases e
            exact .inr (.inr ⟨z, i, k, (o1.dp rfl).strI, ey, lim2 hz, ea, q _ H A (M.flat fun H A => .str _)⟩)
          · cases e
        · cases e
  · cases e
/-! ### slices -/
abbrev SO2 := En → Src → R (Option Int)
def RdO (K : PySem.W.Frag) (so : SO) (t : TO) (f : SO2) : Prop := ∀ (H0 : Hp) (A0 : Addr → Prop) (S : Src) (σ : Sl) (ρ : En) (tv : Sl) (tb : En) (H : Hp) (A : Addr → Prop) (Q : Option Int → Hp → Prop), σ.length = ρ.length → Mt K so H0 A0 S (σ ++ tv) (ρ ++ tb) H A →
  (f ρ S).Post (fun o ρ' S' => ∀ H' A', σ.length = ρ'.length → Mt K so H0 A0 S' (σ ++ tv) (ρ' ++ tb) H' A' → Q o H') → t σ H Q
def oNone : SO2 := fun ρ S => .ok none ρ S
def oSome (fe : SE) : SO2 := fun ρ S => (fe ρ S).bind fun b ρ S => match toD b with
  | some (.int i) => .ok (some i) ρ S
  | _ => .bad
theorem rdo_none : RdO K so tNoPart oNone := fun H0 A0 S σ ρ tv tb H A Q hl M h => h H A hl M
theorem rdo_some {te : TE} {fe : SE} (he : RdE K so te fe) : RdO K so (tPart te) (oSome fe) := fun H0 A0 S σ ρ tv tb H A Q hl M h => by
  refine he H0 A0 S σ ρ tv tb H A _ hl M ?_
  refine (R.post_bind.mp h).imp fun b ρ1 S1 h v1 H1 A1 hl1 M1 => ?_
  split at h
  · rename_i i e
    exact ⟨i, (M1.last.dp e).intI, h H1 A1 hl1 M1.init⟩
  · exact h.elim
def cutG {α : Type} (xs : List α) (lo hi : Option Int) : List α := (xs.drop (HT.sIx xs.length 0 lo)).take (HT.sIx xs.length xs.length hi - HT.sIx xs.length 0 lo)
def slB (a : Bd) (lo hi : Option Int) : Option Bd := match toL a with
  | some ds => some (.lst (cutG ds lo hi))
  | none => match a with
    | .imm (.tuple ds) => some (.imm (.tuple (cutG ds lo hi)))
    | .imm (.str z) => if z.length ≤ 1000000 then some (.imm (.str (cutS z lo hi))) else none
    | _ => none
def rSlAll (K : PySem.W.Frag) : V → Option Int → Option Int → Hp → VK → Prop := fun x lo hi H Q => rSlL K x lo hi H Q ∨ rSlA K x lo hi H Q ∨ rSlS x lo hi H Q
theorem sl_all {X : Cx} : SlR X (rSlAll X.K) := sl_list.or (sl_tupA.or sl_str)
theorem DenL.cut {ds : List PyData} {vs : List V} (h : DenL K H A vs ds) (lo hi : Option Int) : DenL K H A (cutV vs lo hi) (cutG ds lo hi) := by
  unfold cutV cutG
  rw [h.length]
  exact (h.drop _).take _
theorem sl_s {l u : Option Int} : UnS K so (fun x H Q => rSlAll K x l u H Q) (fun b => slB b l u) := fun H0 A0 S σ ρ H A x bx b Q M e0 fin => by
  have e : slB bx l u = some b := e0
  unfold slB at e
  have o := M.last
  split at e
  · rename_i ds el
    cases e
    obtain ⟨a, vs, rfl, g1, g2⟩ := o.lstI el
    exact .inl ⟨a, vs, rfl, SqL.of g1, fun p hp => fin _ _ A (M.newL hp (g2.cut l u))⟩
  · split at e
    · rename_i ds _
      cases e
      obtain ⟨a, vs, rfl, g1, g2⟩ := o.tupI
      refine .inr (.inl ⟨a, vs, rfl, SqT.of g1, fun z => ?_, fun z p hp => fin _ _ A (M.newT hp (g2.cut l u))⟩)
      have e : cutG ds l u = ds := by
        unfold cutG
        rw [← g2.length, z.1, z.2]
        simp [g2.length]
      refine fin _ H A (M.pushI (b := .imm (.tuple (cutG ds l u))) ?_ rfl)
      rw [e]
      exact o
    · rename_i z _
      split at e
      · rename_i hz
        cases e
        exact .inr (.inr ⟨z, (o.dp rfl).strI, lim2 hz, fin _ H A (M.flat fun H A => .str _)⟩)
      · cases e
    · cases e
def fSl (fa : SE) (lo hi : SO2) : SE := fun ρ S => (fa ρ S).bind fun a ρ S => (lo ρ S).bind fun l ρ S => (hi ρ S).bind fun u ρ S => R.of (slB a l u) ρ S
theorem rd_sl {te : TE} {tl th : TO} {fa : SE} {lo hi : SO2} (ha : RdE K so te fa) (h1 : RdO K so tl lo) (h2 : RdO K so th hi) : RdE K so (tSl (rSlAll K) te tl th) (fSl fa lo hi) := fun H0 A0 S σ ρ tv tb H A Q hl M h => by
  refine ha H0 A0 S σ ρ tv tb H A _ hl M ?_
  refine (R.post_bind.mp h).imp fun bx ρ1 S1 h v1 H1 A1 hl1 M1 => ?_
  refine h1 H0 A0 S1 σ ρ1 (tv ++ [some v1]) (tb ++ [some bx]) H1 A1 _ hl1 (by simpa only [List.append_assoc] using M1) ?_
  refine (R.post_bind.mp h).imp fun l ρ2 S2 h H2 A2 hl2 M2 => ?_
  refine h2 H0 A0 S2 σ ρ2 (tv ++ [some v1]) (tb ++ [some bx]) H2 A2 _ hl2 M2 ?_
  refine (R.post_bind.mp h).imp fun u ρ3 S3 h H3 A3 hl3 M3 => ?_
  have M3' : Mt K so H0 A0 S3 (σ ++ tv ++ [some v1]) (ρ3 ++ tb ++ [some bx]) H3 A3 := by simpa only [List.append_assoc] using M3
  obtain ⟨b, e, h⟩ := R.post_of.mp h
  exact sl_s H0 A0 S3 (σ ++ tv) (ρ3 ++ tb) H3 A3 v1 bx b Q M3' e fun v H' A' M' => h v H' A' hl3 M'.cut1
/-! ### built-ins -/
def lenB (b : Bd) : Option Bd := match toD b with
  | some (.str z) => if z.length ≤ 1000000 then some (.imm (.int z.length)) else none
  | some d => (itemsD d).map fun ds => .imm (.int ds.length)
  | none => none
def rLen (K : PySem.W.Frag) : List V → Hp → VK → Prop := fun xs H Q => (∃ p ys, xs = [.ref p] ∧ (SqL K H p ys ∨ SqT K H p ys) ∧ Q (.int ys.length) H) ∨ ∃ z, xs = [.str z] ∧ z.length ≤ sizeLine ∧ Q (.int z.length) H
theorem call_lenA {X : Cx} : CallR X (.builtin "len") (rLen X.K) := call_len_seq.or call_len_str
theorem cas_len : CaS K so (rLen K) (fun bs => match bs with | [b] => lenB b | _ => none) := CaS.of1 fun H0 A0 S σ ρ H A x bx b Q M e q => by
  unfold lenB at e
  split at e
  · rename_i z ez
    split at e
    · rename_i hz
      cases e
      exact .inr ⟨z, by rw [(M.last.dp ez).strI], lim2 hz, q _ H A (M.flat fun H A => .int _)⟩
    · cases e
  · rename_i d n ed
    cases ei : itemsD d with
    | none => rw [ei] at e; cases e
    | some ds =>
    rw [ei] at e
    cases e
    obtain ⟨p, vs, rfl, hs, hl⟩ := (M.last.dp ed).seq ei
    exact .inl ⟨p, vs, rfl, hs, by rw [dpAll_len hl]; exact q _ H A (M.flat fun H A => .int _)⟩
  · cases e
def tupleB (b : Bd) : Option Bd := match toL b with
  | some ds => some (.imm (.tuple ds))
  | none => match b with
    | .imm (.tuple ds) => some (.imm (.tuple ds))
    | _ => none
theorem cas_tuple : CaS K so (fun xs H Q => ∃ p ys, xs = [.ref p] ∧ ((SqL K H p ys ∧ ∀ l, H l = none → Q (.ref l) (upd H l (.tup ys))) ∨ (SqT K H p ys ∧ Q (.ref p) H))) (fun bs => match bs with | [b] => tupleB b | _ => none) := CaS.of1 fun H0 A0 S σ ρ H A x bx b Q M e q => by
  unfold tupleB at e
  split at e
  · rename_i ds el
    cases e
    obtain ⟨a, vs, rfl, g1, g2⟩ := M.last.lstI el
    exact ⟨a, vs, rfl, .inl ⟨SqL.of g1, fun l hl => q _ _ A (M.newT hl g2)⟩⟩
  · split at e
    · rename_i ds _
      cases e
      obtain ⟨a, vs, rfl, g1, g2⟩ := M.last.tupI
      exact ⟨a, vs, rfl, .inr ⟨SqT.of g1, q _ H A (M.pushI (b := .imm (.tuple ds)) M.last rfl)⟩⟩
    · cases e
def listB (b : Bd) : Option Bd := match toL b with
  | some ds => some (.lst ds)
  | none => match b with
    | .imm (.tuple ds) => some (.lst ds)
    | _ => none
theorem cas_list : CaS K so (fun xs H Q => ∃ p ys, xs = [.ref p] ∧ (SqL K H p ys ∨ SqT K H p ys) ∧ ∀ l, H l = none → Q (.ref l) (upd H l (.lst ys))) (fun bs => match bs with | [b] => listB b | _ => none) := CaS.of1 fun H0 A0 S σ ρ H A x bx b Q M e q => by
  unfold listB at e
  split at e
  · rename_i ds el
    cases e
    obtain ⟨a, vs, rfl, g1, g2⟩ := M.last.lstI el
    exact ⟨a, vs, rfl, .inl (SqL.of g1), fun l hl => q _ _ A (M.newL hl g2)⟩
  · split at e
    · rename_i ds _
      cases e
      obtain ⟨a, vs, rfl, g1, g2⟩ := M.last.tupI
      exact ⟨a, vs, rfl, .inr (SqT.of g1), fun l hl => q _ _ A (M.newL hl g2)⟩
    · cases e
def intB (b : Bd) : Option Bd := match toD b with
  | some (.int i) => some (.imm (.int i))
  | some (.bool k) => some (.imm (.int (if k then 1 else 0)))
  | _ => none
theorem cas_int : CaS K so (fun xs H Q => (∃ i, xs = [.int i] ∧ Q (.int i) H) ∨ ∃ k, xs = [.bl k] ∧ Q (.int (if k then 1 else 0)) H) (fun bs => match bs with | [b] => intB b | _ => none) := CaS.of1 fun H0 A0 S σ ρ H A x bx b Q M e q => by
  unfold intB at e
  split at e
  · rename_i i ei
    cases e
    exact .inl ⟨i, by rw [(M.last.dp ei).intI], q _ H A (M.flat fun H A => .int _)⟩
  · rename_i k ei
    cases e
    exact .inr ⟨k, by rw [(M.last.dp ei).blI], q _ H A (M.flat fun H A => .int _)⟩
  · cases e
def absB (b : Bd) : Option Bd := match toD b with
  | some (.int i) => some (.imm (.int (if i < 0 then -i else i)))
  | _ => none
theorem cas_abs : CaS K so (fun xs H Q => ∃ i, xs = [.int i] ∧ Q (.int (if i < 0 then -i else i)) H) (fun bs => match bs with | [b] => absB b | _ => none) := CaS.of1 fun H0 A0 S σ ρ H A x bx b Q M e q => by
  unfold absB at e
  split at e
  · rename_i i ei
    cases e
    exact ⟨i, by rw [(M.last.dp ei).intI], q _ H A (M.flat fun H A => .int _)⟩
  · cases e
def max2B : Bd → Bd → Option Bd := iOp fun i j => some (.int (if j > i then j else i))
def min2B : Bd → Bd → Option Bd := iOp fun i j => some (.int (if j < i then j else i))
theorem cas_max2 : CaS K so (fun xs H Q => ∃ i j, xs = [.int i, .int j] ∧ Q (.int (if j > i then j else i)) H) (fun bs => match bs with | [a, b] => max2B a b | _ => none) := CaS.of2 fun H0 A0 S σ ρ H A x y bx by_ b Q M e q => by
  obtain ⟨i, j, d, e1, e2, e3, rfl⟩ := iOp_some e
  cases e3
  exact ⟨i, j, by rw [(M.init.last.dp e1).intI, (M.last.dp e2).intI], q _ H A (M.flat fun H A => .int _)⟩
theorem cas_min2 : CaS K so (fun xs H Q => ∃ i j, xs = [.int i, .int j] ∧ Q (.int (if j < i then j else i)) H) (fun bs => match bs with | [a, b] => min2B a b | _ => none) := CaS.of2 fun H0 A0 S σ ρ H A x y bx by_ b Q M e q => by
  obtain ⟨i, j, d, e1, e2, e3, rfl⟩ := iOp_some e
  cases e3
  exact ⟨i, j, by rw [(M.init.last.dp e1).intI, (M.last.dp e2).intI], q _ H A (M.flat fun H A => .int _)⟩
/-- a list of truth values -/
def boolsD : List PyData → Option (List Bool)
  | [] => some []
  | .bool b :: r => (boolsD r).map (b :: ·)
  | _ => none
def allB (b : Bd) : Option Bd := (toL b).bind fun ds => (boolsD ds).map fun bs => .imm (.bool (bs.all id))
def anyB (b : Bd) : Option Bd := (toL b).bind fun ds => (boolsD ds).map fun bs => .imm (.bool (bs.any id))
theorem boolsD_den : ∀ {ds : List PyData} {vs : List V} {bs : List Bool}, DenL K H A vs ds → boolsD ds = some bs → vs = bs.map V.bl
  | [], _, bs, h, e => by cases h; cases e; rfl
  | d :: ds, _, bs, h, e => by
    cases h with
    | cons h1 h2 =>
      cases d with
      | bool b =>
        simp only [boolsD] at e
        cases er : boolsD ds with
        | none => rw [er] at e; cases e
        | some r => rw [er] at e; cases e; cases h1; rw [boolsD_den h2 er]; rfl
      | _ => simp [boolsD] at e
theorem cas_all : CaS K so (rAll K) (fun bs => match bs with | [b] => allB b | _ => none) := CaS.of1 fun H0 A0 S σ ρ H A x bx b Q M e q => by
  unfold allB at e
  cases el : toL bx with
  | none => rw [el] at e; cases e
  | some ds =>
  rw [el, Option.bind_some] at e
  cases eb : boolsD ds with
  | none => rw [eb] at e; cases e
  | some bs =>
  rw [eb] at e
  cases e
  obtain ⟨a, vs, rfl, g1, g2⟩ := M.last.lstI el
  exact ⟨a, bs, rfl, by rw [← boolsD_den g2 eb]; exact SqL.of g1, q _ H A (M.flat fun H A => .bl _)⟩
theorem cas_any : CaS K so (rAny K) (fun bs => match bs with | [b] => anyB b | _ => none) := CaS.of1 fun H0 A0 S σ ρ H A x bx b Q M e q => by
  unfold anyB at e
  cases el : toL bx with
  | none => rw [el] at e; cases e
  | some ds =>
  rw [el, Option.bind_some] at e
  cases eb : boolsD ds with
  | none => rw [eb] at e; cases e
  | some bs =>
  rw [eb] at e
  cases e
  obtain ⟨a, vs, rfl, g1, g2⟩ := M.last.lstI el
  exact ⟨a, bs, rfl, by rw [← boolsD_den g2 eb]; exact SqL.of g1, q _ H A (M.flat fun H A => .bl _)⟩
/-- repr of data -/
def reprOk (d : PyData) : Bool := d.showable && !d.hasDict && decide (d.depth ≤ 60) && decide (d.shown.length ≤ sizeLine)
def reprB (b : Bd) : Option Bd := match toD b with
  | some d => if reprOk d = true then some (.imm (.str d.shown)) else none
  | none => none
def rRepr (K : PySem.W.Frag) : List V → Hp → VK → Prop := fun xs H Q => ∃ v d, xs = [v] ∧ Dp K H v d ∧ reprOk d = true ∧ Q (.str d.shown) H
theorem call_reprA {X : Cx} {k : Nat} (hr : Rm k X.A) : CallR X (.builtin "repr") (rRepr X.K) := by
  intro pins s σ H xs us Q I r h
  obtain ⟨v, d, rfl, hd, ok, q⟩ := h
  obtain ⟨u, rfl, ru⟩ := Vals.one r
  simp only [reprOk, Bool.and_eq_true, Bool.not_eq_true', decide_eq_true_eq] at ok
  obtain ⟨⟨⟨o1, o2⟩, o3⟩, o4⟩ := ok
  obtain ⟨as, rd⟩ := Dp.reads I d v u hd ru
  have disp : ∀ a, u = .ref a → wpAny (model X.prog X.w) X.A (call (.builtin "repr") [u]) (EP X pins σ Q) X.xe s := fun a e => by
    subst e
    refine repr_of_reads' rd o1 (PyData.noDict_hsm o2) hr.gd (by have := hr.room.units; omega) (fun _ _ e => e) (fun h' t tk hk => ?_) o4
    exact ⟨.str d.shown, H, I.kept hk, ⟨_, rfl⟩, q⟩
  cases d with
  | none => cases hd; cases ru; exact P.repr_of_none ⟨.str _, H, I.tok _, ⟨_, rfl⟩, q⟩
  | bool b => cases hd; cases ru; exact P.repr_of_bool ⟨.str _, H, I.tok _, ⟨_, rfl⟩, by cases b <;> exact q⟩
  | int i => cases hd; obtain ⟨t, rfl⟩ := ru; exact P.repr_of_int (by simpa [PyData.showable] using o1) ⟨.str _, H, I.tok _, ⟨_, rfl⟩, q⟩
  | str z => cases hd; obtain ⟨t, rfl⟩ := ru; exact P.repr_of_str ⟨.str _, H, I.tok _, ⟨_, rfl⟩, q⟩ o4
  | list ds => cases hd; exact disp _ ru
  | tuple ds => cases hd; exact disp _ ru
  | dict _ => cases hd
theorem cas_repr : CaS K so (rRepr K) (fun bs => match bs with | [b] => reprB b | _ => none) := CaS.of1 fun H0 A0 S σ ρ H A x bx b Q M e q => by
  unfold reprB at e
  split at e
  · rename_i d ed
    split at e
    · rename_i hz
      cases e
      exact ⟨x, d, rfl, M.last.dp ed, hz, q _ H A (M.flat fun H A => .str _)⟩
    · cases e
  · cases e
/-- isinstance(x, T), T a built-in type -/
def tyD : PyData → String
  | .none => "NoneType"
  | .bool _ => "bool"
  | .int _ => "int"
  | .str _ => "str"
  | .list _ => "list"
  | .tuple _ => "tuple"
  | .dict _ => "dict"
def isiB (n : String) (b : Bd) : Option Bd := match toD b with
  | some d => (kitB (tyD d) n).map fun r => .imm (.bool r)
  | none => match b with
    | .dk _ => (kitB "dict" n).map fun r => .imm (.bool r)
    | _ => none
theorem _root_.L2.Dp.tyX {d : PyData} (h : Dp K H v d) : TyX K H v (.type (tyD d)) := by
  cases h with
  | non => exact .base .non
  | bl b => exact .base (.bl b)
  | int i => exact .base (.int i)
  | str s => exact .base (.str s)
  | lst hs hl =>
    rcases hs with (h | ⟨o, h⟩) | ⟨o, its, n, h1, h2, _⟩
    · exact .base (.lst h)
    · exact .base (.frz h)
    · exact .kList h1 h2
  | tup hs hl =>
    rcases hs with (h | ⟨o, h⟩) | ⟨o, its, n, h1, h2, _⟩
    · exact .base (.tup h)
    · exact .fTuple h
    · exact .kTuple h1 h2
theorem uns_isi {n : String} : UnS K so (fun x H Q => rIsi K [x, .ty n] H Q) (isiB n) := fun H0 A0 S σ ρ H A x bx b Q M e q => by
  unfold isiB at e
  split at e
  · rename_i d ed
    cases ek : kitB (tyD d) n with
    | none => rw [ek] at e; cases e
    | some r =>
    rw [ek] at e
    cases e
    exact ⟨x, _, _, _, r, rfl, .ty n, (M.last.dp ed).tyX, kit_ty ek, q _ H A (M.flat fun H A => .bl _)⟩
  · split at e
    · rename_i kvs _
      cases ek : kitB "dict" n with
      | none => rw [ek] at e; cases e
      | some r =>
      rw [ek] at e
      cases e
      obtain ⟨a, kv, rfl, g, _⟩ := M.last
      exact ⟨_, _, _, _, r, rfl, .ty n, .base (.dK g), kit_ty ek, q _ H A (M.flat fun H A => .bl _)⟩
    · cases e
end
end DL
set_option maxRecDepth 100000
set_option maxHeartbeats 2000000
/-! DG: what is walked, comprehensions, own dicts: by data. -/
namespace DL
open PySem PySem.Spec PyProof.Rows L2
section
variable {K : PySem.W.Frag} {so : SO} {H0 H H' : Hp} {A0 A A' : Addr → Prop} {S S' : Src} {σ σ' tv : Sl} {ρ ρ' tb : En} {v x y : V} {b c : Bd}
abbrev SI := En → Src → R (Bool × List PyData)
/-! ### what is walked -/
theorem wk_list {a : Addr} {ds : List PyData} {b : Bd} (e : toL b = some ds) : Wk K so (Itl K a) [some (.ref a)] [some b] ds := by
  refine ⟨rfl, fun H => ∃ vs, SqL K H a vs ∧ vs.length = ds.length, fun i H x H' => H' = H ∧ ∀ xs, SqL K H a xs → xs[i]? = some x, ⟨fun i H hi ⟨vs, g1, g2⟩ => ⟨vs, vs[i], g1, List.getElem?_eq_getElem (by omega)⟩, fun H ⟨vs, g1, g2⟩ => ⟨vs, g1, by omega⟩, fun i H x H' _ _ y => y⟩, ?_, ?_⟩
  · intro H0 A0 S σ ρ H A hl M
    obtain ⟨a', vs, q, g1, g2⟩ := M.last.lstI e
    cases q
    exact ⟨vs, SqL.of g1, g2.length⟩
  · rintro H0 A0 S σ ρ H A i d x H' hl M ed ⟨rfl, y⟩
    obtain ⟨a', vs, q, g1, g2⟩ := M.last.lstI e
    cases q
    obtain ⟨w, e1, e2⟩ := g2.get ed
    have := y vs (SqL.of g1)
    rw [e1] at this
    cases this
    exact ⟨A, M.pushI (b := .imm d) e2 rfl⟩
theorem wk_tup {a : Addr} {ds : List PyData} : Wk K so (Itt K a) [some (.ref a)] [some (.imm (.tuple ds))] ds := by
  refine ⟨rfl, fun H => ∃ vs, SqT K H a vs ∧ vs.length = ds.length, fun i H x H' => H' = H ∧ ∀ xs, SqT K H a xs → xs[i]? = some x, ⟨fun i H hi ⟨vs, g1, g2⟩ => ⟨vs, vs[i], g1, List.getElem?_eq_getElem (by omega)⟩, fun H ⟨vs, g1, g2⟩ => ⟨vs, g1, by omega⟩, fun i H x H' _ _ y => y⟩, ?_, ?_⟩
  · intro H0 A0 S σ ρ H A hl M
    obtain ⟨a', vs, q, g1, g2⟩ := M.last.tupI
    cases q
    exact ⟨vs, SqT.of g1, g2.length⟩
  · rintro H0 A0 S σ ρ H A i d x H' hl M ed ⟨rfl, y⟩
    obtain ⟨a', vs, q, g1, g2⟩ := M.last.tupI
    cases q
    obtain ⟨w, e1, e2⟩ := g2.get ed
    have := y vs (SqT.of g1)
    rw [e1] at this
    cases this
    exact ⟨A, M.pushI (b := .imm d) e2 rfl⟩
/-- signs of a text -/
def signsD (z : Str) : List PyData := z.cps.toList.map fun c => .str ⟨#[c]⟩
theorem wk_str {z : Str} : Wk K so (Its z) [] [] (signsD z) := by
  refine ⟨rfl, fun _ => True, fun i H v H' => H' = H ∧ ∃ c, z.cps[i]? = some c ∧ v = .str ⟨#[c]⟩, ?_, fun _ _ _ _ _ _ _ _ _ => trivial, ?_⟩
  · have : (signsD z).length = z.cps.size := by simp [signsD]
    rw [this]
    exact walk_str
  · rintro H0 A0 S σ ρ H A i d x H' hl M ed ⟨rfl, c, e1, rfl⟩
    have : d = .str ⟨#[c]⟩ := by
      unfold signsD at ed
      rw [List.getElem?_map, Array.getElem?_toList, e1] at ed
      simpa using ed.symm
    subst this
    exact ⟨A, by simpa using M.flat (v := .str ⟨#[c]⟩) (d := .str ⟨#[c]⟩) fun H A => .str _⟩
/-- lo, lo + 1, .. -/
def rangeD (lo : Int) (n : Nat) : List PyData := (List.range n).map fun i => .int (lo + (i : Nat))
theorem wk_range {lo : Int} {n : Nat} : Wk K so (Itr lo n) [] [] (rangeD lo n) := by
  refine ⟨rfl, fun _ => True, YFn fun i => .int (lo + i), ?_, fun _ _ _ _ _ _ _ _ _ => trivial, ?_⟩
  · have : (rangeD lo n).length = n := by simp [rangeD]
    rw [this]
    exact walk_range
  · rintro H0 A0 S σ ρ H A i d x H' hl M ed ⟨rfl, rfl⟩
    have : d = .int (lo + i) := by
      unfold rangeD at ed
      rw [List.getElem?_map] at ed
      cases er : (List.range n)[i]? with
      | none => rw [er] at ed; cases ed
      | some j =>
        rw [er] at ed
        rw [List.getElem?_eq_some_iff] at er
        obtain ⟨h1, h2⟩ := er
        simp at h2
        subst h2
        simpa using ed.symm
    subst this
    exact ⟨A, by simpa using M.flat (v := .int (lo + i)) (d := .int (lo + i)) fun H A => .int _⟩
/-- lo, lo + c, .. -/
def rangeCD (lo c : Int) (n : Nat) : List PyData := (List.range n).map fun i => .int (lo + (i : Nat) * c)
theorem wk_rangeC {lo c : Int} {n : Nat} : Wk K so (Itc lo c n) [] [] (rangeCD lo c n) := by
  refine ⟨rfl, fun _ => True, YFn fun i => .int (lo + (i : Nat) * c), ?_, fun _ _ _ _ _ _ _ _ _ => trivial, ?_⟩
  · have : (rangeCD lo c n).length = n := by simp [rangeCD]
    rw [this]
    exact walk_rangeC
  · rintro H0 A0 S σ ρ H A i d x H' hl M ed ⟨rfl, rfl⟩
    have : d = .int (lo + (i : Nat) * c) := by
      unfold rangeCD at ed
      rw [List.getElem?_map] at ed
      cases er : (List.range n)[i]? with
      | none => rw [er] at ed; cases ed
      | some j =>
        rw [er] at ed
        rw [List.getElem?_eq_some_iff] at er
        obtain ⟨h1, h2⟩ := er
        simp at h2
        subst h2
        simpa using ed.symm
    subst this
    exact ⟨A, by simpa using M.flat (v := .int (lo + (i : Nat) * c)) (d := .int (lo + (i : Nat) * c)) fun H A => .int _⟩
/-- (0, x), (1, y), .. -/
def enumD (ds : List PyData) : List PyData := ds.mapIdx fun i d => .tuple [.int (i : Nat), d]
theorem Mt.pairNew {d e : PyData} {T : Addr} {x y : V} (M : Mt K so H0 A0 S σ ρ H A) (hT : H T = none) (hx : Den K H A x d) (hy : Den K H A y e) : Mt K so H0 A0 S (σ ++ [some (.ref T)]) (ρ ++ [some (.imm (.tuple [d, e]))]) (upd H T (.tup [x, y])) A :=
  M.newT hT (.cons hx (.cons hy .nil))
theorem wk_enum {a : Addr} {ds : List PyData} {b : Bd} (e : toL b = some ds) : Wk K so (Ite K a) [some (.ref a)] [some b] (enumD ds) := by
  refine ⟨rfl, fun H => ∃ vs, SqL K H a vs ∧ vs.length = (enumD ds).length, fun i H v H' => ∃ T x, v = .ref T ∧ H T = none ∧ H' = upd H T (.tup [.int (i : Nat), x]) ∧ ∀ xs, SqL K H a xs → xs[i]? = some x,
    ⟨fun i H hi ⟨vs, g1, g2⟩ => ⟨vs, vs[i], g1, List.getElem?_eq_getElem (by omega)⟩, fun H ⟨vs, g1, g2⟩ => ⟨vs, g1, by omega⟩, fun i H x H' _ _ y => y⟩, ?_, ?_⟩
  · intro H0 A0 S σ ρ H A hl M
    obtain ⟨a', vs, q, g1, g2⟩ := M.last.lstI e
    cases q
    exact ⟨vs, SqL.of g1, by simp [enumD, g2.length]⟩
  · rintro H0 A0 S σ ρ H A i d x H' hl M ed ⟨T, x', rfl, hT, rfl, y⟩
    obtain ⟨a', vs, q, g1, g2⟩ := M.last.lstI e
    cases q
    unfold enumD at ed
    rw [List.getElem?_mapIdx] at ed
    cases ei : ds[i]? with
    | none => rw [ei] at ed; cases ed
    | some d' =>
      rw [ei] at ed
      have : d = .tuple [.int (i : Nat), d'] := by simpa using ed.symm
      subst this
      obtain ⟨w, e1, e2⟩ := g2.get ei
      have := y vs (SqL.of g1)
      rw [e1] at this
      cases this
      exact ⟨A, M.pairNew hT (.int _) e2⟩
/-- a value walked: a list, a tuple, a text -/
def seqI (b : Bd) : Option (Bool × List PyData) := match toL b with
  | some ds => some (!b.isBor, ds)
  | none => match b with
    | .imm (.tuple ds) => some (true, ds)
    | .imm (.str z) => some (true, signsD z)
    | _ => none
def fiSeq (fe : SE) : SI := fun ρ S => (fe ρ S).bind fun b ρ S => R.of (seqI b) ρ S
def iSeq (K : PySem.W.Frag) (te : TE) : TI := fun σ H R => iList K te σ H R ∨ iTup K te σ H R ∨ iStr te σ H R
theorem pi_seq {X : Cx} {tg e : Expr} {te : TE} (he : PE X e te) : PI X tg e (iSeq X.K te) := ⟨fun pins s σ H R I h => by
  rcases h with h | h | h
  · exact (pi_list he).run pins s σ H R I h
  · exact (pi_tup he).run pins s σ H R I h
  · exact (pi_str he).run pins s σ H R I h⟩
theorem nbOne {b : Bd} (h : b.isBor = false) : NB [some b] := fun c hc => by
  simp at hc
  subst hc
  exact h
theorem rdi_seq {te : TE} {fe : SE} (he : RdE K so te fe) : RdI K so (iSeq K te) (fiSeq fe) := fun H0 A0 S σ ρ tv tb H A Q hl M h => by
  have h' := R.post_bind.mp h
  obtain ⟨b, ρ1, S1, ef, h1⟩ := h'.get
  obtain ⟨p, es, h2⟩ := R.post_of.mp h1
  have go : ∀ (R : V → Hp → Prop), (∀ v1 H1 A1, σ.length = ρ1.length → Mt K so H0 A0 S1 (σ ++ tv ++ [some v1]) (ρ1 ++ tb ++ [some b]) H1 A1 → R v1 H1) → te σ H R := fun R hR =>
    he H0 A0 S σ ρ tv tb H A R hl M (by rw [ef]; exact hR)
  unfold seqI at es
  split at es
  · rename_i ds el
    cases es
    refine .inl (go _ fun v1 H1 A1 hl1 M1 => ?_)
    obtain ⟨a, vs, rfl, g1, g2⟩ := M1.last.lstI el
    exact ⟨a, rfl, ⟨vs, SqL.of g1⟩, h2 _ [some (.ref a)] [some b] H1 A1 hl1 (wk_list el) (fun z => nbOne (by simpa using z)) M1⟩
  · split at es
    · rename_i ds _
      cases es
      refine .inr (.inl (go _ fun v1 H1 A1 hl1 M1 => ?_))
      obtain ⟨a, vs, rfl, g1, g2⟩ := M1.last.tupI
      exact ⟨a, rfl, ⟨vs, SqT.of g1⟩, h2 _ [some (.ref a)] [some (.imm (.tuple ds))] H1 A1 hl1 wk_tup (fun z => nbOne rfl) M1⟩
    · rename_i z _
      cases es
      refine .inr (.inr (go _ fun v1 H1 A1 hl1 M1 => ?_))
      exact ⟨z, (M1.last.dp rfl).strI, h2 _ [] [] H1 A1 hl1 wk_str (fun z c hc => nomatch hc) (by simpa using M1.init)⟩
    · cases es
/-- range(n), range(a, b), range(a, b, c) -/
def rOk (i j : Int) : Bool := decide (-(2 ^ 62) ≤ i ∧ i < 2 ^ 62 ∧ -(2 ^ 62) ≤ j ∧ j < 2 ^ 62)
def rng1I (bs : List Bd) : Option (Bool × List PyData) := match bs with
  | [a] => match toD a with
    | some (.int j) => if rOk 0 j = true then some (true, rangeD 0 j.toNat) else none
    | _ => none
  | _ => none
def rng2I (bs : List Bd) : Option (Bool × List PyData) := match bs with
  | [a, b] => match toD a, toD b with
    | some (.int i), some (.int j) => if rOk i j = true then some (true, rangeD i (j - i).toNat) else none
    | _, _ => none
  | _ => none
def fiAr (o : List Bd → Option (Bool × List PyData)) (fa : SA) : SI := fun ρ S => (fa ρ S).bind fun bs ρ S => R.of (o bs) ρ S
theorem Mt.at1 {vs : List V} (M : Mt K so H0 A0 S (σ ++ vs.map some) (ρ ++ [b].map some) H A) (hl : σ.length = ρ.length) : ∃ x, vs = [x] ∧ Mt K so H0 A0 S (σ ++ [some x]) (ρ ++ [some b]) H A := by
  have := M.len
  simp [hl] at this
  match vs, this with
  | [x], _ => exact ⟨x, rfl, by simpa using M⟩
theorem Mt.at2 {vs : List V} (M : Mt K so H0 A0 S (σ ++ vs.map some) (ρ ++ [b, c].map some) H A) (hl : σ.length = ρ.length) : ∃ x y, vs = [x, y] ∧ Mt K so H0 A0 S (σ ++ [some x] ++ [some y]) (ρ ++ [some b] ++ [some c]) H A := by
  have := M.len
  simp [hl] at this
  match vs, this with
  | [x, y], _ => exact ⟨x, y, rfl, by simpa using M⟩
theorem rdi_rng1 {ta : TA} {fa : SA} (ha : RdA K so ta fa) : RdI K so (iRng1 ta) (fiAr rng1I fa) := fun H0 A0 S σ ρ tv tb H A Q hl M h => by
  refine ha H0 A0 S σ ρ tv tb H A _ hl M ?_
  refine (R.post_bind.mp h).imp fun bs ρ1 S1 h vs H1 A1 hl1 hn M1 => ?_
  obtain ⟨p, e, h⟩ := R.post_of.mp h
  have hlt : (σ ++ tv).length = (ρ1 ++ tb).length := by have := M1.len; simp at this ⊢; omega
  unfold rng1I at e
  split at e
  · rename_i a
    split at e
    · rename_i j ej
      split at e
      · rename_i hz
        cases e
        obtain ⟨x, rfl, M2⟩ := M1.at1 hlt
        simp only [rOk, decide_eq_true_eq] at hz
        exact ⟨j, by rw [(M2.last.dp ej).intI], hz.2.2.1, hz.2.2.2, h _ [] [] H1 A1 hl1 wk_range (fun z c hc => nomatch hc) (by simpa using M2.init)⟩
      · cases e
    · cases e
  · cases e
theorem rdi_rng2 {ta : TA} {fa : SA} (ha : RdA K so ta fa) : RdI K so (iRng2 ta) (fiAr rng2I fa) := fun H0 A0 S σ ρ tv tb H A Q hl M h => by
  refine ha H0 A0 S σ ρ tv tb H A _ hl M ?_
  refine (R.post_bind.mp h).imp fun bs ρ1 S1 h vs H1 A1 hl1 hn M1 => ?_
  obtain ⟨p, e, h⟩ := R.post_of.mp h
  have hlt : (σ ++ tv).length = (ρ1 ++ tb).length := by have := M1.len; simp at this ⊢; omega
  unfold rng2I at e
  split at e
  · rename_i a b
    split at e
    · rename_i i j ei ej
      split at e
      · rename_i hz
        cases e
        obtain ⟨x, y, rfl, M2⟩ := M1.at2 hlt
        simp only [rOk, decide_eq_true_eq] at hz
        exact ⟨i, j, by rw [(M2.init.last.dp ei).intI, (M2.last.dp ej).intI], hz, h _ [] [] H1 A1 hl1 wk_range (fun z c hc => nomatch hc) (by simpa using M2.init.init)⟩
      · cases e
    · cases e
  · cases e
/-- enumerate(a list) -/
def enumI (bs : List Bd) : Option (Bool × List PyData) := match bs with
  | [b] => (toL b).map fun ds => (!b.isBor, enumD ds)
  | _ => none
theorem rdi_enum {ta : TA} {fa : SA} (ha : RdA K so ta fa) : RdI K so (iEnum K ta) (fiAr enumI fa) := fun H0 A0 S σ ρ tv tb H A Q hl M h => by
  refine ha H0 A0 S σ ρ tv tb H A _ hl M ?_
  refine (R.post_bind.mp h).imp fun bs ρ1 S1 h vs H1 A1 hl1 hn M1 => ?_
  obtain ⟨p, e, h⟩ := R.post_of.mp h
  have hlt : (σ ++ tv).length = (ρ1 ++ tb).length := by have := M1.len; simp at this ⊢; omega
  unfold enumI at e
  split at e
  · rename_i b
    cases el : toL b with
    | none => rw [el] at e; cases e
    | some ds =>
    rw [el] at e
    cases e
    obtain ⟨x, rfl, M2⟩ := M1.at1 hlt
    obtain ⟨a, vs, rfl, g1, g2⟩ := M2.last.lstI el
    exact ⟨a, vs, rfl, SqL.of g1, h _ [some (.ref a)] [some b] H1 A1 hl1 (wk_enum el) (fun z => nbOne (by simpa using z)) M2⟩
  · cases e
/-! ### comprehensions -/
def wE (ρ : En) : List Nat → En
  | [] => ρ
  | v :: vs => (wE ρ vs).set v none
theorem wE_length (ρ : En) : ∀ vs, (wE ρ vs).length = ρ.length
  | [] => rfl
  | v :: vs => by simp [wE, wE_length ρ vs]
theorem wE_some {i : Nat} {b : Bd} : ∀ {vs : List Nat}, (wE ρ vs)[i]? = some (some b) → ρ[i]? = some (some b) ∧ i ∉ vs
  | [], h => ⟨h, by simp⟩
  | v :: vs, h => by
    unfold wE at h
    by_cases hi : v = i
    · subst hi
      by_cases hv : v < (wE ρ vs).length
      · rw [List.getElem?_set_self hv] at h; cases h
      · rw [List.getElem?_eq_none (by simpa using hv)] at h; cases h
    · rw [List.getElem?_set_ne hi] at h
      obtain ⟨h1, h2⟩ := wE_some h
      exact ⟨h1, by simp only [List.mem_cons, not_or]; exact ⟨fun e => hi e.symm, h2⟩⟩
theorem Mt.app_weak {σ2 : Sl} {ρ2 : En} (M : Mt K so H0 A0 S (σ ++ tv) (ρ ++ tb) H A) (hl : σ.length = ρ.length) (h1 : σ2.length = σ.length) (h2 : ρ2.length = ρ.length) (h : ∀ (i : Nat) (b : Bd), ρ2[i]? = some (some b) → ρ[i]? = some (some b) ∧ σ2[i]? = σ[i]?) :
    Mt K so H0 A0 S (σ2 ++ tv) (ρ2 ++ tb) H A :=
  M.weak (by have := M.len; simp at this ⊢; omega) fun i b e => by
    by_cases hi : i < ρ2.length
    · rw [List.getElem?_append_left hi] at e
      obtain ⟨g1, g2⟩ := h i b e
      exact ⟨by rw [List.getElem?_append_left (by omega)]; exact g1, by rw [List.getElem?_append_left (by omega), List.getElem?_append_left (by omega)]; exact g2⟩
    · rw [List.getElem?_append_right (by omega)] at e
      exact ⟨by rw [List.getElem?_append_right (by omega), ← h2]; exact e, by rw [List.getElem?_append_right (by omega), List.getElem?_append_right (by omega), h1]⟩
theorem Mt.wiped (M : Mt K so H0 A0 S (σ ++ tv) (ρ ++ tb) H A) (hl : σ.length = ρ.length) (vs : List Nat) : Mt K so H0 A0 S (wipe σ vs ++ tv) (wE ρ vs ++ tb) H A :=
  M.app_weak hl (wipe_length σ vs) (wE_length ρ vs) fun i b e => by
    obtain ⟨g1, g2⟩ := wE_some e
    exact ⟨g1, wipe_out g2⟩
theorem Mt.unwiped (M : Mt K so H0 A0 S (wipe σ vs ++ tv) (ρ ++ tb) H A) (hl : σ.length = ρ.length) : Mt K so H0 A0 S (σ ++ tv) (wE ρ vs ++ tb) H A :=
  M.app_weak (by rw [wipe_length]; exact hl) (wipe_length σ vs).symm (wE_length ρ vs) fun i b e => by
    obtain ⟨g1, g2⟩ := wE_some e
    exact ⟨g1, (wipe_out g2).symm⟩
theorem wipe_get {i : Nat} {vs : List Nat} (h : i ∈ vs) : (wipe σ vs)[i]? = if i < σ.length then some none else none := by
  induction vs with
  | nil => cases h
  | cons v vs ih =>
    unfold wipe
    by_cases e : v = i
    · subst e
      by_cases hv : v < σ.length
      · rw [List.getElem?_set_self (by rw [wipe_length]; exact hv), if_pos hv]
      · rw [List.getElem?_eq_none (by simpa [wipe_length] using hv), if_neg hv]
    · rw [List.getElem?_set_ne e]
      rcases List.mem_cons.mp h with z | z
      · exact absurd z.symm e
      · exact ih z
theorem Off.wiped {is vs : List Nat} (o : Off is (wipe σ vs) σ') (hs : ∀ i ∈ is, i ∈ vs) : wipe σ' vs = wipe σ vs := by
  apply List.ext_getElem?
  intro j
  by_cases hj : j ∈ vs
  · rw [wipe_get hj, wipe_get hj]
    have := o.len
    rw [wipe_length] at this
    rw [this]
  · rw [wipe_out hj, o.off j (fun z => hj (hs j z))]
def lcS (vs : List Nat) (s : Bd → En → Option En) (c : SB) (fe : SE) : List PyData → List PyData → En → Src → R (List PyData)
  | [], acc, ρ, S => .ok acc ρ S
  | d :: ds, acc, ρ, S => match s (.imm d) (wE ρ vs) with
    | none => .bad
    | some ρ1 => (c ρ1 S).bind fun k ρ2 S2 => if k = true then (fe ρ2 S2).bind fun b ρ3 S3 => match toF b with
        | some e => if (nbE ρ3 && decide (acc.length < 1000000)) = true then lcS vs s c fe ds (acc ++ [e]) ρ3 S3 else .bad
        | none => .bad
      else lcS vs s c fe ds acc ρ2 S2
def fLc (vs : List Nat) (s : Bd → En → Option En) (fi : SI) (c : SB) (fe : SE) : SE := fun ρ S => (fi ρ S).bind fun p ρ S => (lcS vs s c fe p.2 [] ρ S).bind fun acc ρ S => .ok (.lst acc) (wE ρ vs) S
def bYes : SB := fun ρ S => .ok true ρ S
theorem rdt_yes : RdT K so tYes bYes := fun H0 A0 S σ ρ tv tb H A Q hl M h => h H A hl M
/-- the last one stands ahead -/
theorem Mt.swapR {xs : Sl} {ys : En} {u : Option V} {d : Option Bd} (M : Mt K so H0 A0 S (σ ++ xs ++ [u]) (ρ ++ ys ++ [d]) H A) (hl : σ.length = ρ.length) (hx : xs.length = ys.length) : Mt K so H0 A0 S (σ ++ [u] ++ xs) (ρ ++ [d] ++ ys) H A := by
  have key : ∀ {α : Type} (l m : List α) (z : α) (i : Nat), (l ++ [z] ++ m)[i]? = (l ++ m ++ [z])[if i < l.length then i else if i = l.length then l.length + m.length else if i ≤ l.length + m.length then i - 1 else i]? := fun {α} l m z i => by
    by_cases h1 : i < l.length
    · rw [if_pos h1, List.append_assoc, List.append_assoc, List.getElem?_append_left h1, List.getElem?_append_left h1]
    · rw [if_neg h1]
      by_cases h2 : i = l.length
      · have e1 : (l ++ [z] ++ m)[l.length]? = some z := by simp
        have e2 : (l ++ m ++ [z])[l.length + m.length]? = some z := by rw [← List.length_append]; simp
        rw [if_pos h2, h2, e1, e2]
      · rw [if_neg h2]
        by_cases h3 : i ≤ l.length + m.length
        · rw [if_pos h3, List.getElem?_append_right (by simp; omega), List.getElem?_append_left (by simp; omega), List.getElem?_append_right (by omega)]
          congr 1
          rw [List.length_append, List.length_singleton]
          omega
        · rw [if_neg h3, List.getElem?_eq_none (by simp; omega), List.getElem?_eq_none (by simp; omega)]
  refine M.re (fun i => if i < ρ.length then i else if i = ρ.length then ρ.length + ys.length else if i ≤ ρ.length + ys.length then i - 1 else i) (by simp [hl, hx]) (fun i b e => ⟨by rw [← key]; exact e, ?_⟩) fun i j b b' ne e1 e2 _ _ => ?_
  · have := key σ xs u i
    rw [hl, hx] at this
    exact this
  · have h1 := getlt e1
    have h2 := getlt e2
    simp at h1 h2
    show (if i < ρ.length then i else if i = ρ.length then ρ.length + ys.length else if i ≤ ρ.length + ys.length then i - 1 else i) ≠ (if j < ρ.length then j else if j = ρ.length then ρ.length + ys.length else if j ≤ ρ.length + ys.length then j - 1 else j)
    intro z
    (repeat' split at z) <;> omega
theorem wE_idem (ρ : En) (l : List Nat) : ∀ (i : Nat) (b : Bd), (wE ρ l)[i]? = some (some b) → ρ[i]? = some (some b) := fun i b e => (wE_some e).1
theorem rd_lc {wi : TI} {g : TG} {tt : TT} {te : TE} {vs is : List Nat} {s : Bd → En → Option En} {fi : SI} {c : SB} {fe : SE} (hi : RdI K so wi fi) (hg : RdG K so g s is) (hs : ∀ i ∈ is, i ∈ vs) (ht : RdT K so tt c) (he : RdE K so te fe) :
    RdE K so (tLc wi g tt te vs) (fLc vs s fi c fe) := fun H0 A0 S σ ρ tv tb H A Q hl M h => by
  refine hi H0 A0 S σ ρ tv tb H A _ hl M ?_
  refine (R.post_bind.mp h).imp fun p ρ1 S1 h J hv hb H1 A1 hl1 W _ M1 => ?_
  intro D hD
  obtain ⟨G, Y, walk, hG, hY⟩ := W.ex
  have hW := W.len
  have hx : tv.length = tb.length := by have := M1.len; simp at this; omega
  -- borrowed ones are not the new list
  have nD : ∀ (j : Nat) (es : List PyData), (tb ++ hb)[j]? = some (some (.bor es)) → (tv ++ hv)[j]? ≠ some (some (.ref D)) := fun j es e1 e2 => by
    have M1' : Mt K so H0 A0 S1 (σ ++ (tv ++ hv)) (ρ1 ++ (tb ++ hb)) H1 A1 := by simpa only [List.append_assoc] using M1
    obtain ⟨v, e3, o⟩ := M1'.bd (ρ1.length + j) (.bor es) (by rw [List.getElem?_append_right (by omega), Nat.add_sub_cancel_left]; exact e1)
    rw [← hl1, List.getElem?_append_right (by omega), Nat.add_sub_cancel_left, e2] at e3
    cases e3
    obtain ⟨a, xs, q, ha, _⟩ := o
    cases q
    rw [hD] at ha; cases ha
  let Pv : Nat → Hp → Prop := fun i H' => ∃ (ρ' : En) (S' : Src) (A' : Addr → Prop) (acc : List PyData), σ.length = ρ'.length ∧ Mt K so H0 A0 S' (wipe σ vs ++ tv ++ [some (.ref D)] ++ hv) (wE ρ' vs ++ tb ++ [some (.lst acc)] ++ hb) H' A' ∧
    ((lcS vs s c fe (p.2.drop i) acc ρ' S').bind fun acc ρ S => .ok (.lst acc) (wE ρ vs) S).Post (fun b ρ' S' => ∀ v H' A', σ.length = ρ'.length → Mt K so H0 A0 S' (σ ++ tv ++ [some v]) (ρ' ++ tb ++ [some b]) H' A' → Q v H')
  refine lc_it walk Pv ?_ (fun i H' _ q => ?_) (fun i x H' H2 hlt q y => ?_) (fun H' q => ?_)
  · have M2 : Mt K so H0 A0 S1 (wipe σ vs ++ tv ++ hv) (wE ρ1 vs ++ tb ++ hb) H1 A1 := by
      have := Mt.wiped (tv := tv ++ hv) (tb := tb ++ hb) (by simpa only [List.append_assoc] using M1) hl1 vs
      simpa only [List.append_assoc] using this
    have M3 := M2.newL (xs := []) (ds := []) hD .nil
    exact ⟨ρ1, S1, A1, [], hl1, M3.swapR (by simp [wipe_length, wE_length]; omega) hW, by simpa using h⟩
  · obtain ⟨ρ', S', A', acc, l, m, _⟩ := q
    exact hG H0 A0 S' (wipe σ vs ++ tv ++ [some (.ref D)]) (wE ρ' vs ++ tb ++ [some (.lst acc)]) H' A' (by simp [wipe_length, wE_length]; omega) m
  · obtain ⟨ρ', S', A', acc, l, m, po⟩ := q
    have ed : p.2[i]? = some p.2[i] := List.getElem?_eq_getElem hlt
    rw [List.drop_eq_getElem_cons hlt] at po
    simp only [lcS] at po
    obtain ⟨A2, m2⟩ := hY H0 A0 S' (wipe σ vs ++ tv ++ [some (.ref D)]) (wE ρ' vs ++ tb ++ [some (.lst acc)]) H' A' i p.2[i] x H2 (by simp [wipe_length, wE_length]; omega) m ed y
    cases es : s (.imm p.2[i]) (wE ρ' vs) with
    | none => rw [es] at po; exact po.elim
    | some ρ2 =>
    rw [es] at po
    simp only at po
    refine hg H0 A0 S' (wipe σ vs) (wE ρ' vs) ρ2 (tv ++ [some (.ref D)] ++ hv) (tb ++ [some (.lst acc)] ++ hb) H2 A2 x _ _ (by rw [wipe_length, wE_length]; exact l) (by simpa only [List.append_assoc] using m2) es fun σ3 H3 A3 l3 off3 m3 => ?_
    have wp := off3.wiped hs
    refine ⟨wp, ht H0 A0 S' σ3 ρ2 (tv ++ [some (.ref D)] ++ hv) (tb ++ [some (.lst acc)] ++ hb) H3 A3 _ l3 m3 ?_⟩
    have l3' : σ3.length = σ.length := by have := congrArg List.length wp; simpa [wipe_length] using this
    have po2 := R.post_bind.mp po
    have po3 := R.post_bind.mp po2
    refine po3.imp fun k ρ4 S4 po4 H4 A4 l4 m4 => ?_
    cases k with
    | false =>
      rw [if_neg Bool.false_ne_true] at po4 ⊢
      refine ⟨ρ4, S4, A4, acc, by omega, ?_, R.post_bind.mpr po4⟩
      have := Mt.wiped (tv := tv ++ [some (.ref D)] ++ hv) (tb := tb ++ [some (.lst acc)] ++ hb) m4 l4 vs
      rw [wp] at this
      simpa only [List.append_assoc] using this
    | true =>
      rw [if_pos rfl] at po4 ⊢
      refine he H0 A0 S4 σ3 ρ4 (tv ++ [some (.ref D)] ++ hv) (tb ++ [some (.lst acc)] ++ hb) H4 A4 _ l4 m4 ?_
      refine (R.post_bind.mp po4).imp fun b ρ5 S5 po5 v5 H5 A5 l5 m5 => ?_
      cases ef : toF b with
      | none => rw [ef] at po5; exact po5.elim
      | some e =>
      rw [ef] at po5
      simp only at po5
      split at po5
      · rename_i hz
        simp only [Bool.and_eq_true, decide_eq_true_eq] at hz
        obtain ⟨A6, m6⟩ := m5.frz1 ef
        have de : Den K H5 A6 v5 e := m6.last
        have m7 : Mt K so H0 A0 S5 (σ3 ++ tv ++ [some (.ref D)] ++ hv) (ρ5 ++ tb ++ [some (.lst acc)] ++ hb) H5 A6 := by simpa only [List.append_assoc] using m6.init
        have eD : (ρ5 ++ tb ++ [some (Bd.lst acc)] ++ hb)[ρ5.length + tb.length]? = some (some (.lst acc)) := by
          rw [List.append_assoc, List.getElem?_append_right (by simp), List.length_append, Nat.sub_self]; rfl
        have vD : (σ3 ++ tv ++ [some (V.ref D)] ++ hv)[ρ5.length + tb.length]? = some (some (.ref D)) := by
          rw [List.append_assoc, List.getElem?_append_right (by simp; omega), List.length_append, show ρ5.length + tb.length - (σ3.length + tv.length) = 0 by omega]; rfl
        obtain ⟨w, e1, a', xs, q, ha, _, _, hd⟩ := m7.bd _ _ eD
        rw [vD] at e1
        cases e1
        cases q
        refine ⟨xs, ha, lim1 (by rw [hd.length]; exact hz.2), ρ5, S5, A6, acc ++ [e], by omega, ?_, R.post_bind.mpr po5⟩
        have m8 := m7.mut (i := ρ5.length + tb.length) (ds := acc) (ds' := acc ++ [e]) (a := D) (vs' := xs ++ [v5]) (fun j es e1 e2 => ?_) eD vD (hd.append (.one de))
        · have m9 : Mt K so H0 A0 S5 (σ3 ++ (tv ++ [some (.ref D)] ++ hv)) (ρ5 ++ (tb ++ [some (.lst (acc ++ [e]))] ++ hb)) (upd H5 D (.lst (xs ++ [v5]))) A6 := by
            have e9 : (ρ5 ++ tb ++ [some (Bd.lst acc)] ++ hb).set (ρ5.length + tb.length) (some (.lst (acc ++ [e]))) = ρ5 ++ (tb ++ [some (.lst (acc ++ [e]))] ++ hb) := by
              rw [set_app (by simp), List.set_append, if_neg (by simp), List.length_append, Nat.sub_self]
              simp
            rw [e9] at m8
            simpa only [List.append_assoc] using m8
          have := Mt.wiped m9 l5 vs
          rw [wp] at this
          simpa only [List.append_assoc] using this
        · -- no borrowed list is the new one
          by_cases h1 : j < ρ5.length
          · rw [List.append_assoc, List.append_assoc, List.getElem?_append_left h1] at e1
            have := nbE_nb hz.1 _ (List.mem_of_getElem? e1)
            cases this
          · by_cases h2 : j < ρ5.length + tb.length
            · rw [List.append_assoc, List.append_assoc, List.getElem?_append_right (by omega), List.getElem?_append_left (by omega)] at e1
              rw [List.append_assoc, List.append_assoc, List.getElem?_append_right (by omega), List.getElem?_append_left (by omega)] at e2
              exact nD (j - ρ5.length) es (by rw [List.getElem?_append_left (by omega)]; exact e1) (by rw [List.getElem?_append_left (by omega), ← l5]; exact e2)
            · by_cases h3 : j = ρ5.length + tb.length
              · rw [h3, eD] at e1; cases e1
              · rw [List.getElem?_append_right (by simp; omega)] at e1 e2
                simp only [List.length_append, List.length_singleton] at e1 e2
                refine nD (j - ρ5.length - 1) es ?_ ?_
                · rw [List.getElem?_append_right (by omega), ← e1]; congr 1; omega
                · rw [List.getElem?_append_right (by omega), ← e2]; congr 1; omega
      · exact po5.elim
  · obtain ⟨ρ', S', A', acc, l, m, po⟩ := q
    rw [List.drop_of_length_le (Nat.le_refl _)] at po
    have m1 : Mt K so H0 A0 S' (wipe σ vs ++ (tv ++ [some (.ref D)])) (wE ρ' vs ++ (tb ++ [some (.lst acc)])) H' A' := by
      have := m.sub (by simp [wipe_length, wE_length]; omega)
      simpa only [List.append_assoc] using this
    have m2 : Mt K so H0 A0 S' (σ ++ (tv ++ [some (.ref D)])) (wE ρ' vs ++ (tb ++ [some (.lst acc)])) H' A' :=
      m1.app_weak (by rw [wipe_length, wE_length]; exact l) (wipe_length σ vs).symm rfl fun i b e => ⟨e, (wipe_out (wE_some e).2).symm⟩
    exact po _ H' A' (by rw [wE_length]; exact l) (by simpa only [List.append_assoc] using m2)
end
end DL
set_option maxRecDepth 100000
set_option maxHeartbeats 2000000
/-! DH: own dicts by data; the law's call. -/
namespace DL
open PySem PySem.Spec PyProof.Rows L2
/-! ### dicts as lists of pairs -/
section
variable {κ α : Type} [DecidableEq κ]
def getK (kvs : List (κ × α)) (k : κ) : Option α := (kvs.find? fun kv => decide (kv.1 = k)).map (·.2)
def putD (kvs : List (κ × α)) (k : κ) (v : α) : List (κ × α) :=
  if (kvs.any fun kv => decide (kv.1 = k)) = true then kvs.map (fun kv => if kv.1 = k then (kv.1, v) else kv) else kvs ++ [(k, v)]
end
section
variable {κ : Type} [DecidableEq κ] {K : PySem.W.Frag} {H : Hp} {A : Addr → Prop}
theorem DKV.get (k : κ) : ∀ {kv : List (κ × V)} {kvs : List (κ × PyData)}, DKV K H A kv kvs → (valV kv k = none ∧ getK kvs k = none) ∨ ∃ v d, valV kv k = some v ∧ getK kvs k = some d ∧ Den K H A v d
  | _, _, .nil => .inl ⟨rfl, rfl⟩
  | p :: kv, q :: kvs, .cons r t => by
    by_cases e : p.1 = k
    · refine .inr ⟨p.2, q.2, valV_pos e, ?_, r.2⟩
      simp [getK, List.find?_cons, ← r.1, e]
    · have e2 : ¬ q.1 = k := by rw [← r.1]; exact e
      have g : getK (q :: kvs) k = getK kvs k := by simp [getK, List.find?_cons, e2]
      rw [valV_neg e, g]
      exact DKV.get k t
theorem DKV.any (k : κ) : ∀ {kv : List (κ × V)} {kvs : List (κ × PyData)}, DKV K H A kv kvs → (kv.any fun p => decide (p.1 = k)) = kvs.any fun p => decide (p.1 = k)
  | _, _, .nil => rfl
  | p :: kv, q :: kvs, .cons r t => by rw [List.any_cons, List.any_cons, DKV.any k t, r.1]
theorem DKV.repl (k : κ) {v : V} {d : PyData} (hd : Den K H A v d) : ∀ {kv : List (κ × V)} {kvs : List (κ × PyData)}, DKV K H A kv kvs → DKV K H A (kv.map fun p => if p.1 = k then (p.1, v) else p) (kvs.map fun p => if p.1 = k then (p.1, d) else p)
  | _, _, .nil => .nil
  | p :: kv, q :: kvs, .cons r t => by
    refine .cons ?_ (DKV.repl k hd t)
    simp only []
    rw [← r.1]
    by_cases e : p.1 = k
    · rw [if_pos e, if_pos e]; exact ⟨rfl, hd⟩
    · rw [if_neg e, if_neg e]; exact r
theorem DKV.app : ∀ {kv kv' : List (κ × V)} {kvs kvs' : List (κ × PyData)}, DKV K H A kv kvs → DKV K H A kv' kvs' → DKV K H A (kv ++ kv') (kvs ++ kvs')
  | _, _, _, _, .nil, h => h
  | _, _, _, _, .cons r t, h => .cons r (DKV.app t h)
theorem DKV.put (k : κ) {v : V} {d : PyData} {kv : List (κ × V)} {kvs : List (κ × PyData)} (h : DKV K H A kv kvs) (hd : Den K H A v d) : DKV K H A (putK kv k v) (putD kvs k d) := by
  unfold putK putD
  rw [DKV.any k h]
  split
  · exact DKV.repl k hd h
  · exact h.app (.cons ⟨rfl, hd⟩ .nil)
theorem DKV.len : ∀ {kv : List (κ × V)} {kvs : List (κ × PyData)}, DKV K H A kv kvs → kv.length = kvs.length
  | _, _, .nil => rfl
  | _, _, .cons _ t => by rw [List.length_cons, List.length_cons, DKV.len t]
end
def keyOfD : PyData → Option Key
  | .int i => some (.inl i)
  | .str s => some (.inr s)
  | _ => none
def keysOfD : List PyData → Option (List Key)
  | [] => some []
  | d :: ds => match keyOfD d, keysOfD ds with
    | some k, some ks => some (k :: ks)
    | _, _ => none
/-- the key of a tuple -/
def tkeyD : Bd → Option (List Key)
  | .imm (.tuple ds) => keysOfD ds
  | _ => none
def keyB (b : Bd) : Option Key := (toD b).bind keyOfD
section
variable {K : PySem.W.Frag} {so : SO} {H0 H H' : Hp} {A0 A A' : Addr → Prop} {S S' : Src} {σ σ' tv : Sl} {ρ ρ' tb : En} {v x y : V} {b c : Bd}
theorem keyOfD_v {d : PyData} {k : Key} (h : Dp K H v d) (e : keyOfD d = some k) : v = kV k := by
  cases h <;> first | (cases e; rfl) | cases e
theorem keysOfD_v : ∀ {ds : List PyData} {vs : List V} {ks : List Key}, DenL K H A vs ds → keysOfD ds = some ks → vs = ks.map kV
  | [], _, ks, h, e => by cases h; cases e; rfl
  | d :: ds, _, ks, h, e => by
    cases h with
    | cons h1 h2 =>
      simp only [keysOfD] at e
      cases e1 : keyOfD d with
      | none => rw [e1] at e; cases e
      | some k =>
      cases e2 : keysOfD ds with
      | none => rw [e1, e2] at e; cases e
      | some ks' =>
      rw [e1, e2] at e
      cases e
      rw [keyOfD_v h1.dp e1, keysOfD_v h2 e2]
      rfl
/-- any own thing is changed -/
theorem Mt.mutG (M : Mt K so H0 A0 S σ ρ H A) {i : Nat} {b b' : Bd} {a : Addr} {o' : HO} (ho : b.own = true) (h : ρ[i]? = some (some b)) (hv : σ[i]? = some (some (.ref a)))
    (nb : ∀ (j : Nat) (es : List PyData), ρ[j]? = some (some (.bor es)) → σ[j]? ≠ some (some (.ref a)))
    (nt : ∀ xs, H a ≠ some (.tup xs)) (new : (∀ b xs, A b → H b = some (.lst xs) → upd H a o' b = some (.lst xs)) → (∀ c xs, H c = some (.tup xs) → upd H a o' c = some (.tup xs)) → ¬ A a → H0 a = none → OOk K so H0 (upd H a o') A (.ref a) b') :
    Mt K so H0 A0 S σ (ρ.set i (some b')) (upd H a o') A := by
  obtain ⟨v, e1, ok⟩ := M.bd i _ h
  rw [hv] at e1
  cases e1
  obtain ⟨a', x0, q, ha, h0, na⟩ := ok.there ho
  cases q
  have hi := getlt h
  have nh := M.n0 h0
  have hAk : ∀ b xs, A b → H b = some (.lst xs) → upd H a o' b = some (.lst xs) := fun b xs hb e => by
    rw [upd_ne (show b ≠ a from fun z => na (by rw [← z]; exact hb))]; exact e
  have hT : ∀ c xs, H c = some (.tup xs) → upd H a o' c = some (.tup xs) := fun c xs q => by
    rw [upd_ne (show c ≠ a from fun z => nt xs (by rw [← z]; exact q))]; exact q
  refine ⟨by simp [M.len], fun b x e n => ?_, M.a0, M.an, fun b q => ?_, M.ns, M.so0, M.src.keepd fun b q => upd_ne (show b ≠ a from fun z => nh (by rw [← z]; exact q)), fun k c e => ?_, fun k j c c' w ne e2 e3 o1 o2 e4 => ?_⟩
  · rw [upd_ne (fun z => by rw [z, h0] at e; cases e)]; exact M.keep b x e n
  · obtain ⟨xs, z⟩ := M.fz b q
    exact ⟨xs, hAk b xs q z⟩
  · by_cases z : k = i
    · subst z
      rw [List.getElem?_set_self hi] at e
      cases e
      exact ⟨_, hv, new hAk hT na h0⟩
    · rw [List.getElem?_set_ne (Ne.symm z)] at e
      obtain ⟨w, e5, o⟩ := M.bd k c e
      refine ⟨w, e5, ?_⟩
      have nea : ∀ a2, w = .ref a2 → c.own = true → a2 ≠ a := fun a2 ew ho2 q => by
        subst q; subst ew
        exact M.sep k i c _ _ z e h ho2 ho e5 hv
      cases c with
      | imm d => exact Den.mono (fun _ q => q) hAk hT o
      | bor es =>
        obtain ⟨a2, vs2, rfl, g1, g2, g3⟩ := o
        have ne : a2 ≠ a := fun q => nb k es e (by rw [e5, q])
        exact ⟨a2, vs2, rfl, by rw [upd_ne ne]; exact g1, g2, g3.mono (fun _ q => q) hAk hT⟩
      | lst ds2 =>
        obtain ⟨a2, vs2, rfl, g1, g2, g3, g4⟩ := o
        exact ⟨a2, vs2, rfl, by rw [upd_ne (nea a2 rfl rfl)]; exact g1, g2, g3, g4.mono (fun _ q => q) hAk hT⟩
      | dk kvs =>
        obtain ⟨a2, kv, rfl, g1, g2, g3, g4⟩ := o
        exact ⟨a2, kv, rfl, by rw [upd_ne (nea a2 rfl rfl)]; exact g1, g2, g3, Paired.mapP g4 fun p q z => ⟨z.1, Den.mono (fun _ q => q) hAk hT z.2⟩⟩
      | dt kvs =>
        obtain ⟨a2, kv, rfl, g1, g2, g3, g4⟩ := o
        exact ⟨a2, kv, rfl, by rw [upd_ne (nea a2 rfl rfl)]; exact g1, g2, g3, Paired.mapP g4 fun p q z => ⟨z.1, Den.mono (fun _ q => q) hAk hT z.2⟩⟩
      | src => exact o
      | ref _ => exact o
      | wr _ => exact o
  · have old : ∀ {k : Nat} {c : Bd}, (ρ.set i (some b'))[k]? = some (some c) → c.own = true → ∃ c2, ρ[k]? = some (some c2) ∧ c2.own = true := fun {k c} e hoc => by
      by_cases z : k = i
      · subst z
        exact ⟨_, h, ho⟩
      · rw [List.getElem?_set_ne (Ne.symm z)] at e; exact ⟨c, e, hoc⟩
    obtain ⟨d1, f1, f2⟩ := old e2 o1
    obtain ⟨d2, f3, f4⟩ := old e3 o2
    exact M.sep k j d1 d2 w ne f1 f3 f2 f4 e4
/-! ### {} -/
def fNewK : SE := fun ρ S => .ok (.dk []) ρ S
def fNewT : SE := fun ρ S => .ok (.dt []) ρ S
theorem rd_newK : RdE K so tDNewK fNewK := fun H0 A0 S σ ρ tv tb H A Q hl M h p hp => by
  refine h (.ref p) _ A hl ?_
  exact (M.new (o := .dK []) hp).push ⟨p, [], rfl, upd_same, M.nA hp, M.h0 hp, .nil⟩ fun _ => M.fresh hp
theorem rd_newT : RdE K so tDNewT fNewT := fun H0 A0 S σ ρ tv tb H A Q hl M h p hp => by
  refine h (.ref p) _ A hl ?_
  exact (M.new (o := .dT []) hp).push ⟨p, [], rfl, upd_same, M.nA hp, M.h0 hp, .nil⟩ fun _ => M.fresh hp
/-! ### asked -/
/-- what an own dict at a slot holds at a key -/
def dGet (i : Nat) (ρ : En) (k : Bd) : Option (Option PyData) := match ρ[i]? with
  | some (some (.dk kvs)) => (keyB k).map fun k => getK kvs k
  | some (some (.dt kvs)) => (tkeyD k).map fun k => getK kvs k
  | _ => none
theorem dGet_at {o : Option PyData} (M : Mt K so H0 A0 S (σ ++ tv ++ [some y]) (ρ ++ tb ++ [some c]) H A) (hl : σ.length = ρ.length) {i : Nat} (h : dGet i ρ c = some o) : ∃ a r, σ[i]? = some (some (.ref a)) ∧ DGet H a y r ∧
    ((r = none ∧ o = none) ∨ ∃ v d, r = some v ∧ o = some d ∧ Den K H A v d) := by
  unfold dGet at h
  split at h
  · rename_i kvs e
    cases ek : keyB c with
    | none => rw [ek] at h; cases h
    | some k =>
    rw [ek] at h
    cases h
    obtain ⟨v, e1, a, kv, rfl, g1, g2, g3, g4⟩ := M.init.slot hl e
    unfold keyB at ek
    cases ed : toD c with
    | none => rw [ed] at ek; cases ek
    | some d =>
    rw [ed] at ek
    have ey := keyOfD_v (M.last.dp ed) ek
    subst ey
    refine ⟨a, _, e1, DGet.k g1, ?_⟩
    exact g4.get k
  · rename_i kvs e
    cases ek : tkeyD c with
    | none => rw [ek] at h; cases h
    | some k =>
    rw [ek] at h
    cases h
    obtain ⟨v, e1, a, kv, rfl, g1, g2, g3, g4⟩ := M.init.slot hl e
    unfold tkeyD at ek
    split at ek
    · rename_i ds
      obtain ⟨q, vs, rfl, f1, f2⟩ := M.last.tupI
      have ey := keysOfD_v f2 ek
      subst ey
      exact ⟨a, _, e1, DGet.t g1 f1, g4.get k⟩
    · cases ek
  · cases h
def fDin (neg : Bool) (i : Nat) (fk : SE) : SE := fun ρ S => (fk ρ S).bind fun k ρ S => match dGet i ρ k with
  | some o => .ok (.imm (.bool (if neg then !o.isSome else o.isSome))) ρ S
  | none => .bad
theorem rd_din {tk : TE} {fk : SE} {i : Nat} (hk : RdE K so tk fk) : RdE K so (tDIn tk (tVar i)) (fDin false i fk) := fun H0 A0 S σ ρ tv tb H A Q hl M h => by
  refine hk H0 A0 S σ ρ tv tb H A _ hl M ?_
  refine (R.post_bind.mp h).imp fun kb ρ1 S1 h v1 H1 A1 hl1 M1 => ?_
  cases e : dGet i ρ1 kb with
  | none => rw [e] at h; exact h.elim
  | some o =>
  rw [e] at h
  obtain ⟨a, r, e1, g, q⟩ := dGet_at M1 hl1 e
  refine ⟨.ref a, e1, a, r, rfl, g, ?_⟩
  have : r.isSome = o.isSome := by rcases q with ⟨rfl, rfl⟩ | ⟨v, d, rfl, rfl, _⟩ <;> rfl
  rw [this]
  exact h _ H1 A1 hl1 (M1.init.flat fun H A => .bl _)
theorem rd_dnotin {tk : TE} {fk : SE} {i : Nat} (hk : RdE K so tk fk) : RdE K so (tDNotIn tk (tVar i)) (fDin true i fk) := fun H0 A0 S σ ρ tv tb H A Q hl M h => by
  refine hk H0 A0 S σ ρ tv tb H A _ hl M ?_
  refine (R.post_bind.mp h).imp fun kb ρ1 S1 h v1 H1 A1 hl1 M1 => ?_
  cases e : dGet i ρ1 kb with
  | none => rw [e] at h; exact h.elim
  | some o =>
  rw [e] at h
  obtain ⟨a, r, e1, g, q⟩ := dGet_at M1 hl1 e
  refine ⟨.ref a, e1, a, r, rfl, g, ?_⟩
  have : r.isSome = o.isSome := by rcases q with ⟨rfl, rfl⟩ | ⟨v, d, rfl, rfl, _⟩ <;> rfl
  rw [this]
  exact h _ H1 A1 hl1 (M1.init.flat fun H A => .bl _)
def isDct (i : Nat) (ρ : En) : Bool := match ρ[i]? with
  | some (some (.dk _)) => true
  | some (some (.dt _)) => true
  | _ => false
theorem isDct_at {i : Nat} (h : isDct i ρ = true) : ∃ b, ρ[i]? = some (some b) := by
  unfold isDct at h
  split at h
  · exact ⟨_, by assumption⟩
  · exact ⟨_, by assumption⟩
  · cases h
def fDget (i : Nat) (fk : SE) : SE := fun ρ S => if isDct i ρ = true then (fk ρ S).bind fun k ρ S => match dGet i ρ k with
  | some (some d) => .ok (.imm d) ρ S
  | _ => .bad else .bad
theorem rd_dget {tk : TE} {fk : SE} {i : Nat} (hk : RdE K so tk fk) : RdE K so (tDGet (tVar i) tk) (fDget i fk) := fun H0 A0 S σ ρ tv tb H A Q hl M h => by
  unfold fDget at h
  split at h
  · rename_i hd
    obtain ⟨b0, e0⟩ := isDct_at hd
    obtain ⟨v0, e1, _⟩ := M.slot hl e0
    refine ⟨v0, e1, hk H0 A0 S σ ρ tv tb H A _ hl M ?_⟩
    refine (R.post_bind.mp h).imp fun kb ρ1 S1 h v1 H1 A1 hl1 M1 => ?_
    split at h
    · rename_i d e
      obtain ⟨a, r, e2, g, q⟩ := dGet_at M1 hl1 e
      rw [e1] at e2
      cases e2
      rcases q with ⟨_, z⟩ | ⟨v, d', rfl, z, hd'⟩
      · cases z
      · cases z
        exact ⟨a, v, rfl, g, h v H1 A1 hl1 (M1.init.pushI (b := .imm d) hd' rfl)⟩
    · exact h.elim
  · exact h.elim
/-- d[k] = v -/
def dPut (i : Nat) (ρ : En) (k v : Bd) : Option Bd := match ρ[i]?, toF v with
  | some (some (.dk kvs)), some d => (keyB k).bind fun k => if kvs.length < 1000000 then some (.dk (putD kvs k d)) else none
  | some (some (.dt kvs)), some d => (tkeyD k).bind fun k => if kvs.length < 1000000 then some (.dt (putD kvs k d)) else none
  | _, _ => none
def gDput (i : Nat) (fk fv : SE) : SS := fun ρ S => (fv ρ S).bind fun v ρ S => if isDct i ρ = true then (fk ρ S).bind fun k ρ S => match dPut i ρ k v with
  | some b => if nbE ρ = true then .ok .nx (ρ.set i (some b)) S else .bad
  | none => .bad else .bad
theorem rds_dput {tk te : TE} {fk fv : SE} {i : Nat} (hk : RdE K so tk fk) (hv : RdE K so te fv) : RdS K so (sDPut (tVar i) tk te) (gDput i fk fv) := fun H0 A0 S σ ρ tv tb H A D hl nb M h => by
  refine hv H0 A0 S σ ρ tv tb H A _ hl M ?_
  refine (R.post_bind.mp h).imp fun vb ρ1 S1 h v1 H1 A1 hl1 M1 => ?_
  split at h
  · rename_i hd
    obtain ⟨b0, e0⟩ := isDct_at hd
    obtain ⟨v0, e1, _⟩ := M1.init.slot hl1 e0
    refine ⟨v0, e1, hk H0 A0 S1 σ ρ1 (tv ++ [some v1]) (tb ++ [some vb]) H1 A1 _ hl1 (by simpa only [List.append_assoc] using M1) ?_⟩
    refine (R.post_bind.mp h).imp fun kb ρ2 S2 h v2 H2 A2 hl2 M2 => ?_
    have M2' : Mt K so H0 A0 S2 (σ ++ tv ++ [some v1] ++ [some v2]) (ρ2 ++ tb ++ [some vb] ++ [some kb]) H2 A2 := by simpa only [List.append_assoc] using M2
    cases ep : dPut i ρ2 kb vb with
    | none => rw [ep] at h; exact h.elim
    | some b =>
    rw [ep] at h
    simp only at h
    split at h
    · rename_i hn
      unfold dPut at ep
      have noB : ∀ (a : Addr) (j : Nat) (es : List PyData), (ρ2 ++ tb)[j]? = some (some (.bor es)) → (σ ++ tv)[j]? ≠ some (some (.ref a)) := fun a j es e _ => by
        have := NB.app hn nb _ (List.mem_of_getElem? e)
        cases this
      split at ep
      · rename_i kvs d e2 ef
        cases ek : keyB kb with
        | none => rw [ek] at ep; cases ep
        | some k =>
        rw [ek, Option.bind_some] at ep
        split at ep
        · rename_i hz
          cases ep
          obtain ⟨A3, M3⟩ := M2'.frz2 ef
          have dd : Den K H2 A3 v1 d := M3.init.last
          have M4 := M3.init.init
          obtain ⟨v, e3, a, kv, rfl, g1, g2, g3, g4⟩ := M4.slot hl2 e2
          rw [e1] at e3
          cases e3
          unfold keyB at ek
          cases ed : toD kb with
          | none => rw [ed] at ek; cases ek
          | some dk =>
          rw [ed] at ek
          have ey := keyOfD_v (M2'.last.dp ed) ek
          subst ey
          refine ⟨a, _, rfl, DPut.k g1 (lim1 (by rw [g4.len]; exact hz)), ?_⟩
          have hi := getlt e2
          have M5 := M4.mutG (i := i) (b := .dk kvs) (b' := .dk (putD kvs k d)) (a := a) (o' := .dK (putK kv k v1)) rfl (by rw [List.getElem?_append_left hi]; exact e2) (by rw [List.getElem?_append_left (by omega)]; exact e1) (noB a)
            (fun xs z => by rw [g1] at z; cases z) fun hAk hT na h0 => ⟨a, _, rfl, upd_same, na, h0, DKV.put k (Paired.mapP g4 fun p q z => ⟨z.1, Den.mono (fun _ q => q) hAk hT z.2⟩) (dd.mono (fun _ q => q) hAk hT)⟩
          rw [set_app hi] at M5
          exact h σ _ A3 (by simpa using hl2) M5
        · cases ep
      · rename_i kvs d e2 ef
        cases ek : tkeyD kb with
        | none => rw [ek] at ep; cases ep
        | some k =>
        rw [ek, Option.bind_some] at ep
        split at ep
        · rename_i hz
          cases ep
          unfold tkeyD at ek
          split at ek
          · rename_i ks
            obtain ⟨A3, M3⟩ := M2'.frz2 ef
            have dd : Den K H2 A3 v1 d := M3.init.last
            obtain ⟨q, ws, rfl, f1, f2⟩ := M3.last.tupI
            have ey := keysOfD_v f2 ek
            subst ey
            have M4 := M3.init.init
            obtain ⟨v, e3, a, kv, rfl, g1, g2, g3, g4⟩ := M4.slot hl2 e2
            rw [e1] at e3
            cases e3
            refine ⟨a, _, rfl, DPut.t g1 f1 (lim1 (by rw [g4.len]; exact hz)), ?_⟩
            have hi := getlt e2
            have M5 := M4.mutG (i := i) (b := .dt kvs) (b' := .dt (putD kvs k d)) (a := a) (o' := .dT (putK kv k v1)) rfl (by rw [List.getElem?_append_left hi]; exact e2) (by rw [List.getElem?_append_left (by omega)]; exact e1) (noB a)
              (fun xs z => by rw [g1] at z; cases z) fun hAk hT na h0 => ⟨a, _, rfl, upd_same, na, h0, DKV.put k (Paired.mapP g4 fun p q z => ⟨z.1, Den.mono (fun _ q => q) hAk hT z.2⟩) (dd.mono (fun _ q => q) hAk hT)⟩
            rw [set_app hi] at M5
            exact h σ _ A3 (by simpa using hl2) M5
          · cases ek
        · cases ep
      · cases ep
    · exact h.elim
  · exact h.elim
end
/-! ### the law's own call -/
theorem hid_ns {s : Shared} {H : Hp} {b : Addr} {m : Str → Option Value} (n : H b = none) : s.heap.Ns b m → (hidT s.heap H).Ns b m := fun ⟨o, es, ep, e, r⟩ => ⟨o, es, ep, hidT_get e n, r⟩
theorem lawG {P : Program} {w : World} {K : PySem.W.Frag} {mg mb : Str → Option Value} {k : Nat} {fa a : Addr} {fd : FuncData} {x : Str} {sp : Sp} {s : Shared} {vs : List Value} {ns : List Int}
    (KX : K.In s.heap) (hns : s.heap.Ns mainGlobals mg) (hb : s.heap.Ns builtinsNs mb) (hbb : ∀ x : Str, x ≠ "__name__" → mb x = bootBuiltins x) (hlim : s.heap.NoLimit) (hg : s.gens = #[])
    (ha : s.heap.get? a = some { cls := .type "list", data := .seq vs.toArray }) (hi : IntsAre vs ns) (hz : ns.length ≤ sizeLine) (hr : Room k callerA)
    (F : ∀ base : Heap, K.In base → base.Ns mainGlobals mg → FnG P w K mg base k fa fd [x] sp) (hbd : ∀ (s : Shared) (u : Value), BindsTo s fd ⟨[u], []⟩ [(x, u)])
    (hsp : ∀ H : Hp, Only H → SqL K H a (ns.map V.int) → sp [.ref a] H (fun v _ => v = .bl true) E0) :
    codeAny (model P w) callerA (.call (.ref fa) ⟨[.ref a], []⟩) (fun r s' => r = .ok (.ret (.bool true)) ∧ OldK s.heap s'.heap ∧ s'.os = s.os ∧ AllBare s'.gens) s := by
  have rv := vals_ints hi
  -- what is tracked at the start: the script, or nothing
  have go : ∀ H : Hp, Only H → SqL K H a (ns.map V.int) → HOk P w H s.heap → (∀ b, H b ≠ none → b = a ∧ K.lookup a = none) →
      codeAny (model P w) callerA (.call (.ref fa) ⟨[.ref a], []⟩) (fun r s' => r = .ok (.ret (.bool true)) ∧ OldK s.heap s'.heap ∧ s'.os = s.os ∧ AllBare s'.gens) s := by
    intro H only hS ok at_
    have un : ∀ {b : Addr} {o : Obj}, s.heap.get? b = some o → o.data ≠ .seq vs.toArray 0 → H b = none := fun {b o} e d => by
      apply Classical.byContradiction
      intro n
      obtain ⟨rfl, _⟩ := at_ b n
      rw [ha] at e
      cases e
      exact d rfl
    have nsT : ∀ {b : Addr} {m : Str → Option Value}, s.heap.Ns b m → (hidT s.heap H).Ns b m := fun {b m} N => by
      obtain ⟨o, es, ep, e, d, r⟩ := id N
      exact hid_ns (un e fun z => by rw [d] at z; cases z) N
    have inT : K.In (hidT s.heap H) := fun b o e => hidT_get (KX b o e) (Classical.byContradiction fun n => by
      obtain ⟨rfl, z⟩ := at_ b n
      rw [e] at z; cases z)
    have limT : (hidT s.heap H).NoLimit := by
      obtain ⟨mc, h1, h2⟩ := hlim
      exact ⟨mc, nsT h1, h2⟩
    have env : Env0 P w K mg (hidT s.heap H) callerA [] s H := ⟨rfl, ⟨inT, nsT hns, ⟨mb, nsT hb, hbb⟩, limT⟩, fun b o e => of_hidT e, Nat.le_of_eq (hidT_size _ _), trivial, (fun b z => absurd (show b ∈ ([] : List Addr) from z) (by simp)), ok, .of_eq hg⟩
    refine codeAny_mono ((F _ inT (nsT hns)).run callerA [] s H ⟨[.ref a], []⟩ [.ref a] [.ref a] _ ⟨hr, rfl⟩ env (hbd s (.ref a)) (.cons rfl .nil) (hsp H only hS)) ?_
    intro r s' h
    match r, h with
    | .error e, h => exact h.elim
    | .ok .next, h => exact h.elim
    | .ok .brk, h => exact h.elim
    | .ok .cont, h => exact h.elim
    | .ok (.ret u), h =>
      obtain ⟨v, H', os, bare, u', ok', rr, q⟩ := h
      have q : v = .bl true := q
      subst q
      cases rr
      refine ⟨rfl, OldK.of_keep fun b o e => ?_, os, bare⟩
      rcases only b with z | ⟨ob, xs, z⟩
      · exact u'.keep b o e z (fun m => nomatch m) fun m => nomatch m
      · obtain ⟨f1, _⟩ := ok b _ z
        obtain ⟨f2, _⟩ := ok' b _ (u'.frzs b ob _ z)
        rw [e] at f1
        cases f1
        exact f2
  cases hk : K.lookup a with
  | some o =>
    have e := KX a o hk
    rw [ha] at e
    cases e
    exact go (fun _ => none) (fun _ => .inl rfl) (.inr ⟨_, vs.toArray, _, hk, rfl, rfl, rfl, by simpa [hi.length] using hz, by simpa using rv⟩) (fun b u z => nomatch z) fun b z => absurd rfl z
  | none =>
    let H1 : Hp := upd (fun _ => none) a (.frz { cls := .type "list", data := .seq vs.toArray } (.lst (ns.map V.int)))
    refine go H1 (fun b => ?_) (.inl (.inr ⟨_, upd_same⟩)) (fun b u z => ?_) fun b z => ?_
    · by_cases e : b = a
      · exact .inr ⟨_, _, by rw [e]; exact upd_same⟩
      · exact .inl (upd_ne e)
    · by_cases e : b = a
      · subst e
        have z' : some (HO.frz _ _) = some u := upd_same.symm.trans z
        cases z'
        exact ⟨ha, by simpa using hz, vs, _, rv, ha⟩
      · have z' : (none : Option HO) = some u := (upd_ne e).symm.trans z
        cases z'
    · by_cases e : b = a
      · exact ⟨e, hk⟩
      · exact absurd (upd_ne e) z
theorem walkG {l : PySem.W.OpenLaw} {n k : Nat} {q : Program} {loose : List Str} {XP : (Str → Option Value) → Heap → Prop} {YP : World → Heap → Prop} {d : DefRec} {K : Params → PySem.W.Frag} {sp : PySem.W.Frag → Sp} {x : Str}
    (hn : l.most = some n) (hn2 : n ≤ sizeLine) (hdf : d.params.defaults = []) (hr : Room k callerA) (hY : ∀ (w : World) (h : Heap), YP w h → (K w.params).In h)
    (F : ∀ (w : World) (mg : Str → Option Value) (fa : Addr) (h : Heap), (K w.params).In h → h.Ns mainGlobals mg → mg d.name = some (.ref fa) →
      ∃ fd : FuncData, (∀ (s : Shared) (u : Value), BindsTo s fd ⟨[u], []⟩ [(x, u)]) ∧ ∀ base : Heap, (K w.params).In base → base.Ns mainGlobals mg → FnG l.prog w (K w.params) mg base k fa fd [x] (sp (K w.params)))
    (hsp : ∀ (K : PySem.W.Frag) (H : Hp) (a : Addr) (ns : List Int), ns.length ≤ n → Only H → SqL K H a (ns.map V.int) → sp K [.ref a] H (fun v _ => v = .bl true) E0) :
    PySem.W.WalkO q loose XP YP l.row.toRowW d [] (fun f vs => PySem.call f vs) := by
  refine Att.attach_call hn hdf fun w s₀ s₁ mg mb fa o pm cd doc a vs ns G Y ho hd hcd hmg hobj hints hlen hg => ?_
  have KX := hY w _ Y
  obtain ⟨fd, hb, hF⟩ := F w mg fa _ KX G.T.g hmg
  exact lawG KX G.T.g G.T.b G.T.builtins G.T.nolimit hg hobj hints (Nat.le_trans hlen hn2) hr hF hb fun H only hS => hsp (K w.params) H a ns hlen only hS
end DL
set_option maxRecDepth 100000
set_option maxHeartbeats 2000000
/-! DI: the data layer's rules in one word each: a piece of syntax, its reading, its data. -/
namespace DL
open PySem PySem.Spec PyProof.Rows L2
def o1 (f : Bd → Option Bd) (bs : List Bd) : Option Bd := match bs with
  | [b] => f b
  | _ => none
def o2 (f : Bd → Bd → Option Bd) (bs : List Bd) : Option Bd := match bs with
  | [b, c] => f b c
  | _ => none
section
variable {K : PySem.W.Frag} {so : SO} {H0 H H' : Hp} {A0 A A' : Addr → Prop} {S S' : Src} {σ σ' tv : Sl} {ρ ρ' tb : En} {v x y : V} {b c : Bd}
theorem cs_len : CaS K so (rLen K) (o1 lenB) := cas_len
theorem cs_tuple : CaS K so (fun xs H Q => ∃ p ys, xs = [.ref p] ∧ ((SqL K H p ys ∧ ∀ l, H l = none → Q (.ref l) (upd H l (.tup ys))) ∨ (SqT K H p ys ∧ Q (.ref p) H))) (o1 tupleB) := cas_tuple
theorem cs_list : CaS K so (fun xs H Q => ∃ p ys, xs = [.ref p] ∧ (SqL K H p ys ∨ SqT K H p ys) ∧ ∀ l, H l = none → Q (.ref l) (upd H l (.lst ys))) (o1 listB) := cas_list
theorem cs_int : CaS K so (fun xs H Q => (∃ i, xs = [.int i] ∧ Q (.int i) H) ∨ ∃ k, xs = [.bl k] ∧ Q (.int (if k then 1 else 0)) H) (o1 intB) := cas_int
theorem cs_abs : CaS K so (fun xs H Q => ∃ i, xs = [.int i] ∧ Q (.int (if i < 0 then -i else i)) H) (o1 absB) := cas_abs
theorem cs_max2 : CaS K so (fun xs H Q => ∃ i j, xs = [.int i, .int j] ∧ Q (.int (if j > i then j else i)) H) (o2 max2B) := cas_max2
theorem cs_min2 : CaS K so (fun xs H Q => ∃ i j, xs = [.int i, .int j] ∧ Q (.int (if j < i then j else i)) H) (o2 min2B) := cas_min2
theorem cs_all : CaS K so (rAll K) (o1 allB) := cas_all
theorem cs_any : CaS K so (rAny K) (o1 anyB) := cas_any
theorem cs_repr : CaS K so (rRepr K) (o1 reprB) := cas_repr
/-! ### several names at once -/
def gParN (n : Nat) (r : List Bd → En → Option En) (fa : SA) : SS := fun ρ S => (fa ρ S).bind fun bs ρ S => if bs.length = n then match r bs ρ with
  | some ρ' => .ok .nx ρ' S
  | none => .bad else .bad
theorem rds_parT {ta : TA} {u : TGs} {r : List Bd → En → Option En} {fa : SA} {n : Nat} {is : List Nat} (hz : n ≤ 1000) (ha : RdA K so ta fa) (hg : RdGs K so u r is) : RdS K so (tAsg (tTup ta) (gTup K n u)) (gParN n r fa) := fun H0 A0 S σ ρ tv tb H A D hl nb M h => by
  refine ha H0 A0 S σ ρ tv tb H A _ hl M ?_
  refine (R.post_bind.mp h).imp fun bs ρ1 S1 h vs H1 A1 hl1 hn M1 => ?_
  split at h
  · rename_i hb
    refine ⟨lim1000 (by omega), fun p hp => ⟨p, vs, rfl, SqT.of upd_same, by omega, ?_⟩⟩
    cases e : r bs ρ1 with
    | none => rw [e] at h; exact h.elim
    | some ρ' =>
      rw [e] at h
      exact hg H0 A0 S1 σ ρ1 ρ' tv tb _ A1 vs bs D.nx hl1 hn (M1.new hp) e fun σ' H' A' hl' _ M' => h σ' H' A' hl' M'
  · exact h.elim
theorem rds_par2 {ta : TA} {fa : SA} {i j : Nat} (ha : RdA K so ta fa) : RdS K so (tPar i j ta) (gPar (sCons (sName i) (sCons (sName j) sNil)) fa) := fun H0 A0 S σ ρ tv tb H A D hl nb M h => by
  refine ha H0 A0 S σ ρ tv tb H A _ hl M ?_
  refine (R.post_bind.mp h).imp fun bs ρ1 S1 h vs H1 A1 hl1 hn M1 => ?_
  cases e : (sCons (sName i) (sCons (sName j) sNil)) bs ρ1 with
  | none => rw [e] at h; exact h.elim
  | some ρ' =>
    rw [e] at h
    obtain ⟨v, r1, rfl, w, r2, rfl, rfl, q⟩ := (rdg_cons (rdg_name i) (rdg_cons (rdg_name j) rdg_nil)) H0 A0 S1 σ ρ1 ρ' tv tb H1 A1 vs bs D.nx hl1 hn M1 e fun σ' H' A' hl' _ M' => h σ' H' A' hl' M'
    exact ⟨v, w, rfl, q⟩
theorem rds_par3 {ta : TA} {fa : SA} {i j l : Nat} (ha : RdA K so ta fa) : RdS K so (tPar3 i j l ta) (gPar (sCons (sName i) (sCons (sName j) (sCons (sName l) sNil))) fa) := fun H0 A0 S σ ρ tv tb H A D hl nb M h => by
  refine ha H0 A0 S σ ρ tv tb H A _ hl M ?_
  refine (R.post_bind.mp h).imp fun bs ρ1 S1 h vs H1 A1 hl1 hn M1 => ?_
  cases e : (sCons (sName i) (sCons (sName j) (sCons (sName l) sNil))) bs ρ1 with
  | none => rw [e] at h; exact h.elim
  | some ρ' =>
    rw [e] at h
    obtain ⟨v, r1, rfl, w, r2, rfl, u, r3, rfl, rfl, q⟩ := (rdg_cons (rdg_name i) (rdg_cons (rdg_name j) (rdg_cons (rdg_name l) rdg_nil))) H0 A0 S1 σ ρ1 ρ' tv tb H1 A1 vs bs D.nx hl1 hn M1 e fun σ' H' A' hl' _ M' => h σ' H' A' hl' M'
    exact ⟨v, w, u, rfl, q⟩
/-! ### -x, x * y -/
def negB (b : Bd) : Option Bd := match toD b with
  | some (.int i) => some (.imm (.int (-i)))
  | _ => none
theorem uns_neg : UnS K so (rU fun i => .int (-i)) negB := fun H0 A0 S σ ρ H A x bx b Q M e q => by
  unfold negB at e
  split at e
  · rename_i i ei
    cases e
    exact ⟨i, (M.last.dp ei).intI, q _ H A (M.flat fun H A => .int _)⟩
  · cases e
def rMulA : R2 := fun x y H Q => rRep x y H Q ∨ rI CMul (fun i j => .int (i * j)) x y H Q
theorem op_mulA {X : Cx} : OpR X (binaryOp .Mult) rMulA := op_rep.or op_mul
theorem ops_mul : OpS K so rMulA mulB := fun H0 A0 S σ ρ H A x y bx by_ b Q M e q => by
  have o1 := M.init.last
  have o2 := M.last
  unfold mulB at e
  split at e
  · rename_i xs k e1 e2
    split at e
    · rename_i hz
      cases e
      obtain ⟨a1, v1, rfl, g1, h1⟩ := o1.lstI e1
      refine .inl ⟨a1, k, v1, rfl, (o2.dp e2).intI, g1, by omega, by omega, ?_⟩
      refine ⟨by rw [h1.length]; exact lim2 hz.2.2, fun p hp => q _ _ A (M.newL hp (h1.rep _))⟩
    · cases e
  · split at e
    · rename_i i j e1 e2
      split at e
      · rename_i hz
        cases e
        exact .inr ⟨i, j, (o1.dp e1).intI, (o2.dp e2).intI, hz, q _ H A (M.flat fun H A => .int _)⟩
      · cases e
    · cases e
/-! ### x += y -/
def gAug (i : Nat) (o : Bd → Bd → Option Bd) (fe : SE) : SS := fun ρ S => match ρ[i]? with
  | some (some (.imm d)) => (fe ρ S).bind fun b ρ S => match ρ[i]?, o (.imm d) b with
    | some (some (.imm _)), some (.imm e) => .ok .nx (ρ.set i (some (.imm e))) S
    | _, _ => .bad
  | _ => .bad
def pip (r : R2) (X : Cx) (op : Operator) (h : OpR X (inplaceOp op) r) : PIp X op r := h
end
section
variable {X : Cx} {so : SO} {pos p : Pos} {e a b o k : Expr} {te ta tb tk : TE} {fe fa fb fk : SE}
/-! ### expressions -/
theorem de_var (i : Nat) {x : Str} (hN : X.N[i]? = some x := by rfl) (hv : Vis X.env.scope x := by first | exact Or.inl rfl | exact Or.inr (Or.inl rfl) | exact Or.inr (Or.inr rfl)) (hd : (x == ("__debug__" : Str)) = false := by decide)
    (hcd : (x == ("__classdict__" : Str)) = false := by decide) : DE X so (.Name x pos) (tVar i) (fVar i) := ⟨pv i hN hv hd hcd, rd_var i⟩
theorem de_frz (i : Nat) {x : Str} (hN : X.N[i]? = some x := by rfl) (hv : Vis X.env.scope x := by first | exact Or.inl rfl | exact Or.inr (Or.inl rfl) | exact Or.inr (Or.inr rfl)) (hd : (x == ("__debug__" : Str)) = false := by decide)
    (hcd : (x == ("__classdict__" : Str)) = false := by decide) : DE X so (.Name x pos) (tVar i) (fFrz i) := ⟨pv i hN hv hd hcd, rd_frz i⟩
theorem de_mov (i : Nat) {x : Str} (hN : X.N[i]? = some x := by rfl) (hv : Vis X.env.scope x := by first | exact Or.inl rfl | exact Or.inr (Or.inl rfl) | exact Or.inr (Or.inr rfl)) (hd : (x == ("__debug__" : Str)) = false := by decide)
    (hcd : (x == ("__classdict__" : Str)) = false := by decide) : DE X so (.Name x pos) (tVar i) (fMov i) := ⟨pv i hN hv hd hcd, rd_mov i⟩
theorem de_int {i j} : DE X so (.Constant (.int i) j pos) (tC (.int i)) (fC (.int i)) := ⟨pe_int, rd_c fun _ _ => .int _⟩
theorem de_bl {c j} : DE X so (.Constant (.bool c) j pos) (tC (.bl c)) (fC (.bool c)) := ⟨pe_bl, rd_c fun _ _ => .bl _⟩
theorem de_non {j} : DE X so (.Constant .none j pos) (tC .non) (fC .none) := ⟨pe_non, rd_c fun _ _ => .non⟩
theorem de_str {x j} : DE X so (.Constant (.str x) j pos) (tC (.str x)) (fC (.str x)) := ⟨pe_str, rd_c fun _ _ => .str _⟩
/-- a module's text, its number -/
theorem de_gstr {x s : Str} {t : Tok} (hm : X.mg x = some (.str s t)) (hg : Gl X x := by rfl) (hd : (x == ("__debug__" : Str)) = false := by decide) : DE X so (.Name x pos) (tC (.str s)) (fC (.str s)) := ⟨pe_glob hg hm ⟨t, rfl⟩ hd, rd_c fun _ _ => .str _⟩
theorem de_gint {x : Str} {i : Int} {t : Tok} (hm : X.mg x = some (.int i t)) (hg : Gl X x := by rfl) (hd : (x == ("__debug__" : Str)) = false := by decide) : DE X so (.Name x pos) (tC (.int i)) (fC (.int i)) := ⟨pe_glob hg hm ⟨t, rfl⟩ hd, rd_c fun _ _ => .int _⟩
theorem de_gw {x : Str} {a : Addr} {d : PyData} (hm : X.mg x = some (.ref a)) (hw : Dp X.K (fun _ => none) (.ref a) d) (hg : Gl X x := by rfl) (hd : (x == ("__debug__" : Str)) = false := by decide) : DE X so (.Name x pos) (tC (.ref a)) (fW d) := ⟨pe_glob hg hm rfl hd, rd_w hw⟩
theorem de_add (ha : DE X so a ta fa) (hb : DE X so b tb fb) : DE X so (.BinOp a .Add b pos) (tOp (rAddA X.K) ta tb) (fOp addB fa fb) := ⟨pe_op op_addA ha.pe hb.pe, rd_op ops_add ha.rd hb.rd⟩
theorem de_sub (ha : DE X so a ta fa) (hb : DE X so b tb fb) : DE X so (.BinOp a .Sub b pos) (tOp (rI0 fun i j => .int (i - j)) ta tb) (fOp subB fa fb) := ⟨pe_op op_sub ha.pe hb.pe, rd_op ops_sub ha.rd hb.rd⟩
theorem de_mul (ha : DE X so a ta fa) (hb : DE X so b tb fb) : DE X so (.BinOp a .Mult b pos) (tOp rMulA ta tb) (fOp mulB fa fb) := ⟨pe_op op_mulA ha.pe hb.pe, rd_op ops_mul ha.rd hb.rd⟩
theorem de_fdiv (ha : DE X so a ta fa) (hb : DE X so b tb fb) : DE X so (.BinOp a .FloorDiv b pos) (tOp (rI CDivN fun i j => .int (i.fdiv j)) ta tb) (fOp fdivB fa fb) := ⟨pe_op op_fdivN ha.pe hb.pe, rd_op ops_fdiv ha.rd hb.rd⟩
theorem de_mod (ha : DE X so a ta fa) (hb : DE X so b tb fb) : DE X so (.BinOp a .Mod b pos) (tOp (rI (fun _ j => j ≠ 0) fun i j => .int (i.fmod j)) ta tb) (fOp modB fa fb) := ⟨pe_op op_modN ha.pe hb.pe, rd_op ops_mod ha.rd hb.rd⟩
theorem de_neg (ha : DE X so a ta fa) : DE X so (.UnaryOp .USub a pos) (tUn (rU fun i => .int (-i)) ta) (fUn negB fa) := ⟨pe_un un_neg ha.pe, rd_un (r := rU fun i => .int (-i)) uns_neg ha.rd⟩
theorem de_lt (ha : DE X so a ta fa) (hb : DE X so b tb fb) : DE X so (.Compare a [.Lt] [b] pos) (tOp (rI0 fun i j => .bl (decide (i < j))) ta tb) (fOp ltB fa fb) := ⟨pe_cmpR op_lt ha.pe hb.pe (nomark _), rd_op ops_lt ha.rd hb.rd⟩
theorem de_le (ha : DE X so a ta fa) (hb : DE X so b tb fb) : DE X so (.Compare a [.LtE] [b] pos) (tOp (rI0 fun i j => .bl (decide (i ≤ j))) ta tb) (fOp leB fa fb) := ⟨pe_cmpR op_le ha.pe hb.pe (nomark _), rd_op ops_le ha.rd hb.rd⟩
theorem de_gt (ha : DE X so a ta fa) (hb : DE X so b tb fb) : DE X so (.Compare a [.Gt] [b] pos) (tOp (rI0 fun i j => .bl (decide (j < i))) ta tb) (fOp gtB fa fb) := ⟨pe_cmpR op_gt ha.pe hb.pe (nomark _), rd_op ops_gt ha.rd hb.rd⟩
theorem de_ge (ha : DE X so a ta fa) (hb : DE X so b tb fb) : DE X so (.Compare a [.GtE] [b] pos) (tOp (rI0 fun i j => .bl (decide (j ≤ i))) ta tb) (fOp geB fa fb) := ⟨pe_cmpR op_ge ha.pe hb.pe (nomark _), rd_op ops_ge ha.rd hb.rd⟩
theorem de_eq {n : Nat} (hr : Rm n X.A) (ha : DE X so a ta fa) (hb : DE X so b tb fb) : DE X so (.Compare a [.Eq] [b] pos) (tOp (rEqA X.K) ta tb) (fOp (eqB false) fa fb) := ⟨pe_cmpR (op_eqA hr.room.units) ha.pe hb.pe (nomark _), rd_op ops_eq ha.rd hb.rd⟩
theorem de_ne {n : Nat} (hr : Rm n X.A) (ha : DE X so a ta fa) (hb : DE X so b tb fb) : DE X so (.Compare a [.NotEq] [b] pos) (tOp (rNeA X.K) ta tb) (fOp (eqB true) fa fb) := ⟨pe_cmpR (op_neA hr.room.units) ha.pe hb.pe (nomark _), rd_op ops_ne ha.rd hb.rd⟩
theorem de_is (ha : DE X so a ta fa) (hb : DE X so b tb fb) : DE X so (.Compare a [.Is] [b] pos) (tOp rIsA ta tb) (fOp (isB false) fa fb) := ⟨pe_cmpR op_isA ha.pe hb.pe (nomark _), rd_op ops_is ha.rd hb.rd⟩
theorem de_isn (ha : DE X so a ta fa) (hb : DE X so b tb fb) : DE X so (.Compare a [.IsNot] [b] pos) (tOp rIsnA ta tb) (fOp (isB true) fa fb) := ⟨pe_cmpR op_isnA ha.pe hb.pe (nomark _), rd_op ops_isn ha.rd hb.rd⟩
theorem u65 {n : Nat} (hr : Rm n X.A) : X.A.units + 65 < cLine := by have := hr.room.un; omega
theorem de_in {n : Nat} (hr : Rm n X.A) (ha : DE X so a ta fa) (hb : DE X so b tb fb) (hm : behindInMarks .In b = false := by rfl) : DE X so (.Compare a [.In] [b] pos) (tOp (rInA X.K) ta tb) (fOp (inB false) fa fb) := ⟨pe_cmpR (op_inA (u65 hr)) ha.pe hb.pe hm, rd_op ops_in ha.rd hb.rd⟩
theorem de_nin {n : Nat} (hr : Rm n X.A) (ha : DE X so a ta fa) (hb : DE X so b tb fb) (hm : behindInMarks .NotIn b = false := by rfl) : DE X so (.Compare a [.NotIn] [b] pos) (tOp (rNinA X.K) ta tb) (fOp (inB true) fa fb) := ⟨pe_cmpR (op_ninA (u65 hr)) ha.pe hb.pe hm, rd_op ops_nin ha.rd hb.rd⟩
theorem de_din {n i : Nat} {x : Str} (hr : Rm n X.A) (hk : DE X so a ta fa) (hN : X.N[i]? = some x := by rfl) (hv : Vis X.env.scope x := by first | exact Or.inl rfl | exact Or.inr (Or.inl rfl) | exact Or.inr (Or.inr rfl)) (hd : (x == ("__debug__" : Str)) = false := by decide)
    (hcd : (x == ("__classdict__" : Str)) = false := by decide) (h1 : behindInMarks .In (.Name x p) = false := by rfl) : DE X so (.Compare a [.In] [.Name x p] pos) (tDIn ta (tVar i)) (fDin false i fa) := ⟨pe_cmp (pc_din hr.hu hk.pe (pv i hN hv hd hcd)) h1, rd_din hk.rd⟩
theorem de_dnin {n i : Nat} {x : Str} (hr : Rm n X.A) (hk : DE X so a ta fa) (hN : X.N[i]? = some x := by rfl) (hv : Vis X.env.scope x := by first | exact Or.inl rfl | exact Or.inr (Or.inl rfl) | exact Or.inr (Or.inr rfl)) (hd : (x == ("__debug__" : Str)) = false := by decide)
    (hcd : (x == ("__classdict__" : Str)) = false := by decide) (h1 : behindInMarks .NotIn (.Name x p) = false := by rfl) : DE X so (.Compare a [.NotIn] [.Name x p] pos) (tDNotIn ta (tVar i)) (fDin true i fa) := ⟨pe_cmp (pc_dnotin hr.hu hk.pe (pv i hN hv hd hcd)) h1, rd_dnotin hk.rd⟩
theorem de_dget {n i : Nat} {x : Str} (hr : Rm n X.A) (hk : DE X so a ta fa) (hs : NoSl a := by intro _ _; rfl) (hN : X.N[i]? = some x := by rfl) (hv : Vis X.env.scope x := by first | exact Or.inl rfl | exact Or.inr (Or.inl rfl) | exact Or.inr (Or.inr rfl)) (hd : (x == ("__debug__" : Str)) = false := by decide)
    (hcd : (x == ("__classdict__" : Str)) = false := by decide) : DE X so (.Subscript (.Name x p) a pos) (tDGet (tVar i) ta) (fDget i fa) := ⟨pe_dget hr.hu (pv i hN hv hd hcd) hk.pe hs, rd_dget hk.rd⟩
theorem de_newK : DE X so (.Dict [] [] pos) tDNewK fNewK := ⟨pe_dnewK, rd_newK⟩
theorem de_newT : DE X so (.Dict [] [] pos) tDNewT fNewT := ⟨pe_dnewT, rd_newT⟩
theorem de_ix (ha : DE X so a ta fa) (hb : DE X so b tb fb) (hs : PlainIx b := by intro _ _; rfl) : DE X so (.Subscript a b pos) (tOp (rIx X.K) ta tb) (fOp ixB fa fb) := ⟨pe_ix ix_seq ha.pe hb.pe hs, rd_op ops_ix ha.rd hb.rd⟩
structure DO (X : Cx) (so : SO) (e : Option Expr) (t : TO) (f : SO2) : Prop where
  po : PO X e t
  rd : RdO X.K so t f
theorem do_none : DO X so none tNoPart oNone := ⟨po_none, rdo_none⟩
theorem do_some (h : DE X so e te fe) : DO X so (some e) (tPart te) (oSome fe) := ⟨po_some h.pe, rdo_some h.rd⟩
theorem de_sl {lo hi : Option Expr} {tl th : TO} {fl fh : SO2} {p2 : Pos} (ha : DE X so a ta fa) (h1 : DO X so lo tl fl) (h2 : DO X so hi th fh) : DE X so (.Subscript a (.Slice lo hi none p2) pos) (tSl (rSlAll X.K) ta tl th) (fSl fa fl fh) :=
  ⟨pe_slice sl_all ha.pe h1.po h2.po, rd_sl ha.rd h1.rd h2.rd⟩
theorem da_nil : DAr X so [] tNil aNil := ⟨pa_nil, rda_nil⟩
theorem da_cons {es : List Expr} {t : TA} {fr : SA} (ha : DE X so e te fe) (hr : DAr X so es t fr) (hs : starEach (e :: es) X.env = (false, eval e X.env) :: starEach es X.env := by rfl) : DAr X so (e :: es) (tCons te t) (aCons fe fr) := ⟨pa_cons ha.pe hr.pa hs, rda_cons ha.rd hr.rd⟩
theorem de_tup {es : List Expr} {x1} {t : TA} {f : SA} (h : DAr X so es t f) : DE X so (.Tuple es x1 pos) (tTup t) (fAr tupB f) := ⟨pe_tup h.pa, rd_tup h.rd⟩
theorem de_lst {es : List Expr} {t : TA} {f : SA} (h : DAr X so es t f) : DE X so (.List es pos) (tLst t) (fAr lstB f) := ⟨pe_lst h.pa, rd_lst h.rd⟩
/-! ### calls -/
section
variable {n : Nat} {f : Addr} {fd : FuncData} {ps : List Str} {F : FD} {x : Str} {es : List Expr} {t : TA} {fs : SA}
theorem de_call (G : FnD X.prog X.w X.K X.mg X.base n f fd ps F) (hr : Rm n X.A) (hm : X.mg x = some (.ref f)) (hk : PySem.W.keepIn X.K (.ref f) = true) (hb : Binds X.K fd ps []) (ha : DAr X so (e :: es) t fs) (hg : Gl X x := by rfl) (hdb : (x == ("__debug__" : Str)) = false := by decide)
    (he : starEach (e :: es) X.env = (false, eval e X.env) :: starEach es X.env := by rfl) (hpl : (backTo pos (starEach es X.env)).any (·.1) = false := by rfl) : DE X so (.Call (.Name x p) (e :: es) [] pos) (fun σ H Q => t σ H fun vs H1 => spD X.K so F vs H1 Q E0) (fCall F fs) :=
  ⟨pe_callG (G so) hr hg hm hk hb ha.pa hdb he hpl, rd_call ha.rd⟩
theorem de_call0 (G : FnD X.prog X.w X.K X.mg X.base n f fd ps F) (hr : Rm n X.A) (hm : X.mg x = some (.ref f)) (hk : PySem.W.keepIn X.K (.ref f) = true) (hb : Binds X.K fd ps []) (hg : Gl X x := by rfl) (hdb : (x == ("__debug__" : Str)) = false := by decide) :
    DE X so (.Call (.Name x p) [] [] pos) (fun σ H Q => tNil σ H fun vs H1 => spD X.K so F vs H1 Q E0) (fCall F aNil) := ⟨pe_callG0 (G so) hr hg hm hk hb hdb, rd_call rda_nil⟩
variable {id T : String} {r : List V → Hp → VK → Prop} {o : List Bd → Option Bd}
theorem de_callB (hc : CallR X (.builtin id) r) (hs : CaS X.K so r o) (hm : X.mg x = none) (hv : bootBuiltins x = some (.builtin id)) (ha : DAr X so (e :: es) t fs) (hg : Gl X x := by rfl) (hn : x ≠ "__name__" := by decide) (hdb : (x == ("__debug__" : Str)) = false := by decide)
    (he : starEach (e :: es) X.env = (false, eval e X.env) :: starEach es X.env := by rfl) (hpl : (backTo pos (starEach es X.env)).any (·.1) = false := by rfl) : DE X so (.Call (.Name x p) (e :: es) [] pos) (tCB r t) (fAr o fs) :=
  ⟨pe_callB hc hg hm hv ha.pa hn hdb he hpl, rd_ca hs ha.rd⟩
theorem de_callTy (hc : CallR X (.type T) r) (hs : CaS X.K so r o) (hm : X.mg x = none) (hv : bootBuiltins x = some (.type T)) (ha : DAr X so (e :: es) t fs) (hg : Gl X x := by rfl) (hn : x ≠ "__name__" := by decide) (hdb : (x == ("__debug__" : Str)) = false := by decide)
    (he : starEach (e :: es) X.env = (false, eval e X.env) :: starEach es X.env := by rfl) (hpl : (backTo pos (starEach es X.env)).any (·.1) = false := by rfl) : DE X so (.Call (.Name x p) (e :: es) [] pos) (tCB r t) (fAr o fs) :=
  ⟨pe_callTy hc hg hm hv ha.pa hn hdb he hpl, rd_ca hs ha.rd⟩
end
theorem de_isi {T : Str} {n : String} {p2 : Pos} (hm : X.mg "isinstance" = none) (hmT : X.mg T = none) (hvT : bootBuiltins T = some (.type n)) (ha : DE X so e te fe) (hg : Gl X "isinstance" := by rfl) (hgT : Gl X T := by rfl) (hnT : T ≠ "__name__" := by decide) (hdT : (T == ("__debug__" : Str)) = false := by decide)
    (hs1 : starEach [e, .Name T p2] X.env = (false, eval e X.env) :: starEach [.Name T p2] X.env := by rfl) (hs2 : starEach [.Name T p2] X.env = (false, eval (.Name T p2) X.env) :: starEach [] X.env := by rfl) (hpl : (backTo pos (starEach [.Name T p2] X.env)).any (·.1) = false := by rfl) :
    DE X so (.Call (.Name "isinstance" p) [e, .Name T p2] [] pos) (tCB (rIsi X.K) (tCons te (tCons (tC (.ty n)) tNil))) (fUn (isiB n) fe) :=
  ⟨pe_callB call_isi hg hm (by decide +kernel) (pa_cons ha.pe (pa_cons (pe_bltn hgT hmT hvT rfl hnT hdT) pa_nil hs2) hs1) (by decide) (by decide) hs1 hpl, rd_un (r := fun x H Q => rIsi X.K [x, .ty n] H Q) uns_isi ha.rd⟩
/-! ### tests -/
theorem dt_val (h : DE X so e te fe) (he : ∀ whole, isTrue e X.env whole = (do let v ← whole; standAt e.pos; holding [v] (truthy v)) := by intro _; rfl) : DT X so e (tB te) (fTest fe) := ⟨pt_val h.pe he, rdt_val h.rd⟩
section
variable {t u : TT} {f g : SB} {rest : List Expr}
theorem dw_and1 (h : DT X so a t f) : DW X so (.BoolOp .And [a] pos) t f := ⟨pw_and1 h.pt, h.rd⟩
theorem dw_or1 (h : DT X so a t f) : DW X so (.BoolOp .Or [a] pos) t f := ⟨pw_or1 h.pt, h.rd⟩
theorem dw_and (h : DT X so a t f) (hr : DW X so (.BoolOp .And (b :: rest) pos) u g) : DW X so (.BoolOp .And (a :: b :: rest) pos) (tAnd t u) (bAnd f g) := ⟨pw_and h.pt hr.pw, rdt_and h.rd hr.rd⟩
theorem dw_or (h : DT X so a t f) (hr : DW X so (.BoolOp .Or (b :: rest) pos) u g) : DW X so (.BoolOp .Or (a :: b :: rest) pos) (tOr t u) (bOr f g) := ⟨pw_or h.pt hr.pw, rdt_or h.rd hr.rd⟩
theorem DW.dt (h : DW X so e t f) : DT X so e t f := ⟨h.pw.pt, h.rd⟩
theorem dt_not (h : DT X so a t f) : DT X so (.UnaryOp .Not a pos) (tNot t) (bNot f) := ⟨pt_not h.pt, rdt_not h.rd⟩
theorem de_if {c : Expr} {h1 : TE} (hc : DT X so c t f) (ha : DE X so a ta fa) (hb : DE X so b tb fb) : DE X so (.IfExp c a b pos) (tIf t ta tb) (fIf f fa fb) := ⟨pe_ifExp hc.pt ha.pe hb.pe, rd_if hc.rd ha.rd hb.rd⟩
theorem de_one {op} (h : DE X so a ta fa) : DE X so (.BoolOp op [a] pos) ta fa := ⟨pe_one h.pe, h.rd⟩
theorem de_and (ha : DE X so a ta fa) (hb : DE X so (.BoolOp .And (b :: rest) pos) tb fb) : DE X so (.BoolOp .And (a :: b :: rest) pos) (tAndV ta tb) (fAnd fa fb) := ⟨pe_and ha.pe hb.pe, rd_and ha.rd hb.rd⟩
theorem de_or (ha : DE X so a ta fa) (hb : DE X so (.BoolOp .Or (b :: rest) pos) tb fb) : DE X so (.BoolOp .Or (a :: b :: rest) pos) (tOrV ta tb) (fOr fa fb) := ⟨pe_or ha.pe hb.pe, rd_or ha.rd hb.rd⟩
theorem de_not (ha : DE X so a ta fa) : DE X so (.UnaryOp .Not a pos) (tNotV ta) (fNot fa) := ⟨pe_not ha.pe, rd_not ha.rd⟩
end
/-! ### targets, what is walked -/
structure DG (X : Cx) (so : SO) (tg : Expr) (g : TG) (s : Bd → En → Option En) (is : List Nat) : Prop where
  pg : PG X tg g
  rd : RdG X.K so g s is
structure DGs (X : Cx) (so : SO) (ts : List Expr) (g : TGs) (s : List Bd → En → Option En) (is : List Nat) : Prop where
  pgs : PGs X ts g
  rd : RdGs X.K so g s is
theorem dg_name (i : Nat) {x : Str} (hN : X.N.Nodup) (hi : X.N[i]? = some x := by rfl) (hx : Loc X.env.scope x := by first | exact Or.inl rfl | exact Or.inr rfl) (hf : X.fn x = true ∨ X.env.scope.names.lookup x = some .local := by first | exact .inl rfl | exact .inr rfl | assumption) : DG X so (.Name x pos) (gName i) (sName i) [i] :=
  ⟨pg_name hN hi hx hf, rdg_name i⟩
theorem dgs_nil : DGs X so [] gNil sNil [] := ⟨pgs_nil, rdg_nil⟩
theorem dgs_cons {es : List Expr} {t : TG} {u : TGs} {s : Bd → En → Option En} {r : List Bd → En → Option En} {i1 i2 : List Nat} (h1 : DG X so e t s i1) (h2 : DGs X so es u r i2) (hs : (assignEach (e :: es) X.env).map (·.2) = assign e X.env :: (assignEach es X.env).map (·.2) := by rfl) : DGs X so (e :: es) (gCons t u) (sCons s r) (i1 ++ i2) := ⟨pgs_cons h1.pg h2.pgs hs, rdg_cons h1.rd h2.rd⟩
theorem dg_tup {es : List Expr} {k n : Nat} {u : TGs} {r : List Bd → En → Option En} {is : List Nat} (hc : X.calm = true) (h : DGs X so es u r is) (hn : (assignEach es X.env).length = n := by rfl) (hst : (assignEach es X.env).findIdx? (·.1) = none := by rfl) : DG X so (.Tuple es k pos) (gTup X.K n u) (sTup n r) is :=
  ⟨pg_tup hc h.pgs hn hst, rdg_tup h.rd⟩
theorem dg_unl {es : List Expr} {k n : Nat} {u : TGs} {r : List Bd → En → Option En} {is : List Nat} (hc : X.calm = true) (h : DGs X so es u r is) (hn : (assignEach es X.env).length = n := by rfl) (hst : (assignEach es X.env).findIdx? (·.1) = none := by rfl) : DG X so (.Tuple es k pos) (gUnl X.K n u) (sUnl n r) is :=
  ⟨pg_unl hc h.pgs hn hst, rdg_unl h.rd⟩
structure DI (X : Cx) (so : SO) (tg iter : Expr) (w : TI) (f : SI) : Prop where
  pi : PI X tg iter w
  rd : RdI X.K so w f
theorem di_seq {tg : Expr} (h : DE X so e te fe) : DI X so tg e (iSeq X.K te) (fiSeq fe) := ⟨pi_seq h.pe, rdi_seq h.rd⟩
theorem di_rng1 {tg : Expr} {ta : TA} {fs : SA} (hm : X.mg "range" = none) (ha : DAr X so [a] ta fs) (hg : Gl X "range" := by rfl) (hs : starEach [a] X.env = [(false, eval a X.env)] := by rfl) : DI X so tg (.Call (.Name "range" p) [a] [] pos) (iRng1 ta) (fiAr rng1I fs) := ⟨pi_range1 hg hm ha.pa hs, rdi_rng1 ha.rd⟩
theorem di_rng2 {tg : Expr} {ta : TA} {fs : SA} (hm : X.mg "range" = none) (ha : DAr X so [a, b] ta fs) (hg : Gl X "range" := by rfl) (hs : starEach [a, b] X.env = [(false, eval a X.env), (false, eval b X.env)] := by rfl) (hs2 : starEach [b] X.env = [(false, eval b X.env)] := by rfl) :
    DI X so tg (.Call (.Name "range" p) [a, b] [] pos) (iRng2 ta) (fiAr rng2I fs) := ⟨pi_range2 hg hm ha.pa hs hs2, rdi_rng2 ha.rd⟩
theorem di_enum {tpos : Pos} {elts : List Expr} {kk : Nat} {ta : TA} {fs : SA} (hm : X.mg "enumerate" = none) (ha : DAr X so [e] ta fs) (hg : Gl X "enumerate" := by rfl) (hs : starEach [e] X.env = [(false, eval e X.env)] := by rfl) :
    DI X so (.Tuple elts kk tpos) (.Call (.Name "enumerate" p) [e] [] pos) (iEnum X.K ta) (fiAr enumI fs) := ⟨pi_enum hg hm ha.pa hs, rdi_enum ha.rd⟩
structure DTs (X : Cx) (so : SO) (ifs : List Expr) (t : TT) (f : SB) : Prop where
  pts : PTs X ifs t
  rd : RdT X.K so t f
theorem dts_nil : DTs X so [] tYes bYes := ⟨pts_nil, rdt_yes⟩
theorem dts_one {t : TT} {f : SB} (h : DT X so e t f) : DTs X so [e] t f := ⟨pts_one h.pt, h.rd⟩
/-- [elt for target in iter if ..]; vs: the places of the own names -/
theorem de_lc (N : List Str) (sc : Scope) {elt tg iter : Expr} {ifs : List Expr} {scope : Scope} {own : List (Str × Nat)} {w : TI} {g : TG} {tt : TT} {s : Bd → En → Option En} {is : List Nat} {fi : SI} {c : SB} (hc : X.calm = true) (hN : X.N.Nodup) (hi : DI X so tg iter w fi) (ok : blkC N sc scope own = true)
    (hg : ∀ (s' : Shared) (H : Hp) (C : Addr) (cl : List (Str × Addr)) (fp : List Addr), DG (X.blk s' H scope (compEnvC scope cl C X.env) fp) so tg g s is) (hs : ∀ i ∈ is, i ∈ own.map (·.2))
    (ht : ∀ (s' : Shared) (H : Hp) (C : Addr) (cl : List (Str × Addr)) (fp : List Addr), DTs (X.blk s' H scope (compEnvC scope cl C X.env) fp) so ifs tt c)
    (he : ∀ (s' : Shared) (H : Hp) (C : Addr) (cl : List (Str × Addr)) (fp : List Addr), DE (X.blk s' H scope (compEnvC scope cl C X.env) fp) so elt te fe) (hf : ∀ x, foldedSetIterable iter X.env x = pure x := by intro _; rfl) (hNe : X.N = N := by rfl) (hse : X.env.scope = sc := by rfl) :
    DE X so (.ListComp elt [⟨tg, iter, ifs, 0⟩] scope pos) (tLc w g tt te (own.map (·.2))) (fLc (own.map (·.2)) s fi c fe) :=
  ⟨pe_lc hc hN hi.pi (blkOk_by (by rw [hNe, hse]; exact ok)) (fun s' H C cl fp => (hg s' H C cl fp).pg) (fun s' H C cl fp => (ht s' H C cl fp).pts) (fun s' H C cl fp => (he s' H C cl fp).pe) hf,
    rd_lc hi.rd (hg {} (fun _ => none) 0 [] []).rd hs (ht {} (fun _ => none) 0 [] []).rd (he {} (fun _ => none) 0 [] []).rd⟩
/-! ### statements -/
theorem dss_nil : DSs X so [] tNext gNext := ⟨pss_nil, rds_next⟩
theorem dss_cons {st : Stmt} {rest : List Stmt} {t u : TS} {g1 g2 : SS} (h1 : DS X so st t g1) (h2 : DSs X so rest u g2) : DSs X so (st :: rest) (tSeq t u) (gSeq g1 g2) := ⟨pss_cons h1.ps h2.pss, rds_seq h1.rd h2.rd⟩
theorem dss_one {st : Stmt} {t : TS} {g : SS} (h : DS X so st t g) : DSs X so [st] t g := ⟨pss_one h.ps, h.rd⟩
theorem ds_pass : DS X so (.Pass pos) tNext gNext := ⟨ps_pass, rds_next⟩
theorem ds_break : DS X so (.Break pos) tBreak gBrk := ⟨ps_break, rds_brk⟩
theorem ds_continue : DS X so (.Continue pos) tCont gCnt := ⟨ps_continue, rds_cnt⟩
theorem ds_never {st : Stmt} : DS X so st tNever gNever := ⟨ps_never, rds_never⟩
theorem ds_set (i : Nat) {x : Str} {px : Pos} (hN : X.N.Nodup) (h : DE X so e te fe) (hi : X.N[i]? = some x := by rfl) (hx : Loc X.env.scope x := by first | exact Or.inl rfl | exact Or.inr rfl) (hs : swapsWith e (some (.Name x px)) pos.line X.env = pure false := by rfl)
    (hf : X.fn x = true ∨ X.env.scope.names.lookup x = some .local := by first | exact .inl rfl | exact .inr rfl | assumption) : DS X so (.Assign [.Name x px] e pos) (tAsg te (gName i)) (gAsg (sName i) fe) := ⟨ps_set hN hi hx h.pe hs hf, rds_asg h.rd (rdg_name i)⟩
/-- name = [..] on one line -/
theorem ds_setLc (N : List Str) (sc : Scope) (i : Nat) {y : Str} {py : Pos} {elt tg iter : Expr} {ifs : List Expr} {scope : Scope} {own : List (Str × Nat)} {spos : Pos} {w : TI} {g : TG} {tt : TT} {s : Bd → En → Option En} {is : List Nat} {fi : SI} {c : SB} (hc : X.calm = true) (hN : X.N.Nodup) (hi : DI X so tg iter w fi) (ok : blkC N sc scope own = true)
    (hg : ∀ (s' : Shared) (H : Hp) (C : Addr) (cl : List (Str × Addr)) (fp : List Addr), DG (X.blk s' H scope (compEnvC scope cl C X.env) fp) so tg g s is) (hs : ∀ i ∈ is, i ∈ own.map (·.2))
    (ht : ∀ (s' : Shared) (H : Hp) (C : Addr) (cl : List (Str × Addr)) (fp : List Addr), DTs (X.blk s' H scope (compEnvC scope cl C X.env) fp) so ifs tt c)
    (he : ∀ (s' : Shared) (H : Hp) (C : Addr) (cl : List (Str × Addr)) (fp : List Addr), DE (X.blk s' H scope (compEnvC scope cl C X.env) fp) so elt te fe)
    (hy : X.N[i]? = some y := by rfl) (hyl : X.env.scope.names.lookup y = some .local := by rfl) (hsw : swapsWith (.ListComp elt [⟨tg, iter, ifs, 0⟩] scope pos) (some (.Name y py)) spos.line X.env = pure true := by exact sw_true rfl rfl rfl (by decide +kernel)) (hf : ∀ x, foldedSetIterable iter X.env x = pure x := by intro _; rfl) (hNe : X.N = N := by rfl) (hse : X.env.scope = sc := by rfl) :
    DS X so (.Assign [.Name y py] (.ListComp elt [⟨tg, iter, ifs, 0⟩] scope pos) spos) (tAsg (tLc w g tt te (own.map (·.2))) (gName i)) (gAsg (sName i) (fLc (own.map (·.2)) s fi c fe)) :=
  ⟨ps_setLc hc hN hy hyl hsw hi.pi (blkOk_by (by rw [hNe, hse]; exact ok)) (fun s' H C cl fp => (hg s' H C cl fp).pg) (fun s' H C cl fp => (ht s' H C cl fp).pts) (fun s' H C cl fp => (he s' H C cl fp).pe) hf,
    rds_asg (rd_lc hi.rd (hg {} (fun _ => none) 0 [] []).rd hs (ht {} (fun _ => none) 0 [] []).rd (he {} (fun _ => none) 0 [] []).rd) (rdg_name i)⟩
/-- any other target -/
theorem ds_asg {tg : Expr} {g : TG} {s : Bd → En → Option En} {is : List Nat} (h : DE X so e te fe) (hg : DG X so tg g s is) (hs : swapsWithSole [tg] e pos.line X.env = pure false := by rfl) (hw : swappedStores [tg] e X.env = pure none := by rfl) (h1 : (assignEach [tg] X.env).map (·.2) = [assign tg X.env] := by rfl) : DS X so (.Assign [tg] e pos) (tAsg te g) (gAsg s fe) :=
  ⟨ps_asg h.pe hg.pg hs hw h1, rds_asg h.rd hg.rd⟩
/-- a, b, .. = x, y, .. by a tuple -/
theorem ds_parT {es ts : List Expr} {x1 k n : Nat} {p1 p2 : Pos} {ta : TA} {fa : SA} {u : TGs} {r : List Bd → En → Option En} {is : List Nat} (hc : X.calm = true) (hz : n ≤ 1000) (h : DAr X so es ta fa) (hg : DGs X so ts u r is)
    (hn : (assignEach ts X.env).length = n := by rfl) (hst : (assignEach ts X.env).findIdx? (·.1) = none := by rfl) (hs : swapsWithSole [.Tuple ts k p1] (.Tuple es x1 p2) pos.line X.env = pure false := by rfl) (hw : swappedStores [.Tuple ts k p1] (.Tuple es x1 p2) X.env = pure none := by rfl) :
    DS X so (.Assign [.Tuple ts k p1] (.Tuple es x1 p2) pos) (tAsg (tTup ta) (gTup X.K n u)) (gParN n r fa) := ⟨ps_asg (pe_tup h.pa) (pg_tup hc hg.pgs hn hst) hs hw, rds_parT hz h.rd hg.rd⟩
theorem ds_par2 (i j : Nat) {x y : Str} {px py pt pt2 : Pos} {kt k2} {ta : TA} {fa : SA} (hc : X.calm = true) (hN : X.N.Nodup) (h : DAr X so [a, b] ta fa) (hi : X.N[i]? = some x := by rfl) (hj : X.N[j]? = some y := by rfl) (hij : i ≠ j := by decide)
    (hx : X.env.scope.names.lookup x = some .local := by rfl) (hy : X.env.scope.names.lookup y = some .local := by rfl) (hw : swappedStores [.Tuple [.Name x px, .Name y py] kt pt] (.Tuple [a, b] k2 pt2) X.env = pure (some [x, y]) := by rfl)
    (hs : swapsWithSole [.Tuple [.Name x px, .Name y py] kt pt] (.Tuple [a, b] k2 pt2) pos.line X.env = pure false := by rfl) : DS X so (.Assign [.Tuple [.Name x px, .Name y py] kt pt] (.Tuple [a, b] k2 pt2) pos) (tPar i j ta) (gPar (sCons (sName i) (sCons (sName j) sNil)) fa) :=
  ⟨ps_par hc hN hi hj hij hx hy h.pa hw hs, rds_par2 h.rd⟩
theorem ds_par3 (i j l : Nat) {x y z : Str} {c : Expr} {px py pz pt pt2 : Pos} {kt k2} {ta : TA} {fa : SA} (hc : X.calm = true) (hN : X.N.Nodup) (h : DAr X so [a, b, c] ta fa) (hi : X.N[i]? = some x := by rfl) (hj : X.N[j]? = some y := by rfl) (hl : X.N[l]? = some z := by rfl) (hij : i ≠ j := by decide) (hil : i ≠ l := by decide) (hjl : j ≠ l := by decide)
    (hx : X.env.scope.names.lookup x = some .local := by rfl) (hy : X.env.scope.names.lookup y = some .local := by rfl) (hz : X.env.scope.names.lookup z = some .local := by rfl) (hw : swappedStores [.Tuple [.Name x px, .Name y py, .Name z pz] kt pt] (.Tuple [a, b, c] k2 pt2) X.env = pure (some [x, y, z]) := by rfl)
    (hs : swapsWithSole [.Tuple [.Name x px, .Name y py, .Name z pz] kt pt] (.Tuple [a, b, c] k2 pt2) pos.line X.env = pure false := by rfl) : DS X so (.Assign [.Tuple [.Name x px, .Name y py, .Name z pz] kt pt] (.Tuple [a, b, c] k2 pt2) pos) (tPar3 i j l ta) (gPar (sCons (sName i) (sCons (sName j) (sCons (sName l) sNil))) fa) :=
  ⟨ps_par3 hc hN hi hj hl hij hil hjl hx hy hz h.pa hw hs, rds_par3 h.rd⟩
theorem ds_ret (h : DE X so e te fe) : DS X so (.Return (some e) pos) (tRet te) (gRet fe) := ⟨ps_ret h.pe, rds_ret h.rd⟩
theorem ds_retN : DS X so (.Return none pos) tRetN gRetN := ⟨ps_retN, rds_retN⟩
theorem ds_expr (h : DE X so e te fe) (hs : swapsWith e none pos.line X.env = pure false := by rfl) : DS X so (.Expr e pos) (tDrop te) (gDrop fe) := ⟨ps_expr h.pe hs, rds_expr h.rd⟩
theorem ds_if {c : Expr} {s1 s2 : List Stmt} {tc : TT} {t u : TS} {f : SB} {g1 g2 : SS} (hc : DT X so c tc f) (h1 : DSs X so s1 t g1) (h2 : DSs X so s2 u g2) : DS X so (.If c s1 s2 pos) (tIfS tc t u) (gIf f g1 g2) := ⟨ps_if hc.pt h1.pss h2.pss, rds_if hc.rd h1.rd h2.rd⟩
theorem ds_for {tg iter : Expr} {body : List Stmt} {w : TI} {g : TG} {t : TS} {s : Bd → En → Option En} {is : List Nat} {fi : SI} {gb : SS} (hp : PassesOwn (model X.prog X.w) X.A X.env X.xe) (hc : X.calm = true) (hi : DI X so tg iter w fi) (hg : DG X so tg g s is) (hb : DSs X so body t gb)
    (hs : ∀ x, foldedSetIterable iter X.env x = pure x := by intro _; rfl) : DS X so (.For tg iter body [] pos) (tFor w g t) (gFor s fi gb) := ⟨ps_for hp hc hi.pi hg.pg hb.pss hs, rds_for hi.rd hg.rd hb.rd⟩
theorem ds_while {c : Expr} {body : List Stmt} {tc : TT} {t : TS} {f : SB} {g : SS} (hp : PassesOwn (model X.prog X.w) X.A X.env X.xe) (hc : DT X so c tc f) (hb : DSs X so body t g) : DS X so (.While c body [] pos) (tWhile tc t) (gWhile f g) := ⟨ps_while hp hc.pt hb.pss, rds_while hc.rd hb.rd⟩
theorem ds_setI (i : Nat) {x : Str} {px pp : Pos} (h : DE X so e te fe) (hk : DE X so k tk fk) (hN : X.N[i]? = some x := by rfl) (hv : Vis X.env.scope x := by first | exact Or.inl rfl | exact Or.inr (Or.inl rfl) | exact Or.inr (Or.inr rfl)) (hd : (x == ("__debug__" : Str)) = false := by decide)
    (hcd : (x == ("__classdict__" : Str)) = false := by decide) (ha : ∀ v, assign (.Subscript (.Name x px) k pp) X.env v = (do
      let ov ← holding [v] (eval (.Name x px) X.env)
      let iv ← holding [v, ov] (eval k X.env)
      standAt pp
      holding [v, ov, iv] (setItem ov iv v)
      release [v, ov, iv] []) := by intro _; rfl) (hs : swapsWithSole [.Subscript (.Name x px) k pp] e pos.line X.env = pure false := by rfl) (hw : swappedStores [.Subscript (.Name x px) k pp] e X.env = pure none := by rfl) :
    DS X so (.Assign [.Subscript (.Name x px) k pp] e pos) (tAsg te (gSub (tVar i) tk rSetL)) (gSetI i fe fk) := ⟨ps_asg h.pe (pg_sub (pv i hN hv hd hcd) hk.pe set_list ha) hs hw, rds_setI h.rd hk.rd⟩
theorem ds_dput {n : Nat} (i : Nat) {x : Str} {px pp : Pos} (hr : Rm n X.A) (h : DE X so e te fe) (hk : DE X so k tk fk) (hN : X.N[i]? = some x := by rfl) (hv : Vis X.env.scope x := by first | exact Or.inl rfl | exact Or.inr (Or.inl rfl) | exact Or.inr (Or.inr rfl)) (hd : (x == ("__debug__" : Str)) = false := by decide)
    (hcd : (x == ("__classdict__" : Str)) = false := by decide) (hs : swapsWith e (some (.Subscript (.Name x px) k pp)) pos.line X.env = pure false := by rfl) : DS X so (.Assign [.Subscript (.Name x px) k pp] e pos) (sDPut (tVar i) tk te) (gDput i fk fe) := ⟨ps_dput hr.hu (pv i hN hv hd hcd) hk.pe h.pe hs, rds_dput hk.rd h.rd⟩
theorem ds_append (i : Nat) {x : Str} {px pa : Pos} {p2 : Pos} (h : DE X so e te fe) (hN : X.N[i]? = some x := by rfl) (hv : Vis X.env.scope x := by first | exact Or.inl rfl | exact Or.inr (Or.inl rfl) | exact Or.inr (Or.inr rfl)) (hd : (x == ("__debug__" : Str)) = false := by decide)
    (hcd : (x == ("__classdict__" : Str)) = false := by decide) (hp : PE X (.Call (.Attribute (.Name x px) "append" pa) [e] [] p2) (tBM X.K "list" rAppend (tVar i) (tCons te tNil))) (hs : swapsWith (.Call (.Attribute (.Name x px) "append" pa) [e] [] p2) none pos.line X.env = pure false := by rfl) :
    DS X so (.Expr (.Call (.Attribute (.Name x px) "append" pa) [e] [] p2) pos) (tDrop (tBM X.K "list" rAppend (tVar i) (tCons te tNil))) (gAppend i fe) := ⟨ps_expr hp hs, rds_append h.rd⟩
end
end DL
set_option maxRecDepth 100000
set_option maxHeartbeats 2000000
/-! DJ: more rules: list(range(..)), methods. -/
namespace DL
open PySem PySem.Spec PyProof.Rows L2
section
variable {K : PySem.W.Frag} {so : SO} {H0 H H' : Hp} {A0 A A' : Addr → Prop} {S S' : Src} {σ σ' tv : Sl} {ρ ρ' tb : En} {v x y : V} {b c : Bd}
def rgOk (i j : Int) : Bool := decide (-(2 ^ 62) ≤ i ∧ i < 2 ^ 62 ∧ -(2 ^ 62) ≤ j ∧ j < 2 ^ 62 ∧ (j - i).toNat ≤ 1000000)
theorem DenL.rg {lo : Int} {n : Nat} : DenL K H A ((List.range n).map fun i => V.int (lo + (i : Nat))) (rangeD lo n) := by
  unfold rangeD
  induction (List.range n) with
  | nil => exact .nil
  | cons i r ih => exact .cons (.int _) ih
def lr1B (b : Bd) : Option Bd := match toD b with
  | some (.int n) => if rgOk 0 n = true then some (.lst (rangeD 0 (n - 0).toNat)) else none
  | _ => none
def lr2B (a b : Bd) : Option Bd := match toD a, toD b with
  | some (.int i), some (.int j) => if rgOk i j = true then some (.lst (rangeD i (j - i).toNat)) else none
  | _, _ => none
theorem uns_lr1 : UnS K so (fun x H Q => ∃ n, x = .int n ∧ (RgOk 0 n ∧ ∀ q, H q = none → Q (.ref q) (upd H q (.lst (rgV 0 n))))) lr1B := fun H0 A0 S σ ρ H A x bx b Q M e q => by
  unfold lr1B at e
  split at e
  · rename_i n en
    split at e
    · rename_i hz
      cases e
      simp only [rgOk, decide_eq_true_eq] at hz
      exact ⟨n, (M.last.dp en).intI, ⟨hz.1, hz.2.1, hz.2.2.1, hz.2.2.2.1, by omega⟩, fun p hp => q _ _ A (M.newL hp .rg)⟩
    · cases e
  · cases e
theorem ops_lr2 : OpS K so (fun x y H Q => ∃ i j, x = .int i ∧ y = .int j ∧ (RgOk i j ∧ ∀ q, H q = none → Q (.ref q) (upd H q (.lst (rgV i j))))) lr2B := fun H0 A0 S σ ρ H A x y bx by_ b Q M e q => by
  unfold lr2B at e
  split at e
  · rename_i i j ei ej
    split at e
    · rename_i hz
      cases e
      simp only [rgOk, decide_eq_true_eq] at hz
      exact ⟨i, j, (M.init.last.dp ei).intI, (M.last.dp ej).intI, ⟨hz.1, hz.2.1, hz.2.2.1, hz.2.2.2.1, by omega⟩, fun p hp => q _ _ A (M.newL hp .rg)⟩
    · cases e
  · cases e
end
section
variable {X : Cx} {so : SO} {pos p p2 pos2 : Pos} {e a b c : Expr} {te ta tb tc : TE} {fe fa fb : SE}
theorem de_lr1 (hc : X.calm = true) (hm : X.mg "list" = none) (hm2 : X.mg "range" = none) (ha : DE X so a ta fa) (hg : Gl X "list" := by rfl) (hg2 : Gl X "range" := by rfl)
    (n1 : starEach [.Call (.Name "range" p2) [a] [] pos2] X.env = (false, eval (.Call (.Name "range" p2) [a] [] pos2) X.env) :: starEach [] X.env := by rfl) (n2 : starEach [a] X.env = (false, eval a X.env) :: starEach [] X.env := by rfl) :
    DE X so (.Call (.Name "list" p) [.Call (.Name "range" p2) [a] [] pos2] [] pos) (tLstRg (tRg1 ta)) (fUn lr1B fa) := ⟨pe_listRg hc hg hm (prg_1 hg2 hm2 ha.pe n2) n1, rd_un (r := fun x H Q => ∃ n, x = .int n ∧ (RgOk 0 n ∧ ∀ q, H q = none → Q (.ref q) (upd H q (.lst (rgV 0 n))))) uns_lr1 ha.rd⟩
theorem de_lr2 (hc : X.calm = true) (hm : X.mg "list" = none) (hm2 : X.mg "range" = none) (ha : DE X so a ta fa) (hb : DE X so b tb fb) (hg : Gl X "list" := by rfl) (hg2 : Gl X "range" := by rfl)
    (n1 : starEach [.Call (.Name "range" p2) [a, b] [] pos2] X.env = (false, eval (.Call (.Name "range" p2) [a, b] [] pos2) X.env) :: starEach [] X.env := by rfl) (n2 : starEach [a, b] X.env = (false, eval a X.env) :: starEach [b] X.env := by rfl)
    (n3 : starEach [b] X.env = (false, eval b X.env) :: starEach [] X.env := by rfl) (n4 : (backTo pos2 (starEach [b] X.env)).any (·.1) = false := by rfl) :
    DE X so (.Call (.Name "list" p) [.Call (.Name "range" p2) [a, b] [] pos2] [] pos) (tLstRg (tRg2 ta tb)) (fOp lr2B fa fb) :=
  ⟨pe_listRg hc hg hm (prg_2 hg2 hm2 ha.pe hb.pe n2 n3 n4) n1, rd_op (r := fun x y H Q => ∃ i j, x = .int i ∧ y = .int j ∧ (RgOk i j ∧ ∀ q, H q = none → Q (.ref q) (upd H q (.lst (rgV i j))))) ops_lr2 ha.rd hb.rd⟩
/-! ### list(range(a, b, c)), for .. in range(a, b, c) -/
def rgCV (i c : Int) (n : Nat) : List V := (List.range n).map fun m => V.int (i + (m : Nat) * c)
def tLstR3 (ta : TA) : TE := fun σ H Q => ta σ H fun vs H1 => ∃ (i j c : Int) (n : Nat), vs = [.int i, .int j, .int c] ∧ (RgC i j c n ∧ n ≤ 2 ^ 24) ∧ ∀ q, H1 q = none → Q (.ref q) (upd H1 q (.lst (rgCV i c n)))
theorem pe_listR3 {ta : TA} (hc : X.calm = true) (hg : Gl X "list") (hm : X.mg "list" = none) (hg2 : Gl X "range") (hm2 : X.mg "range" = none) (ha : PA X [a, b, c] ta)
    (n1 : starEach [.Call (.Name "range" p2) [a, b, c] [] pos2] X.env = (false, eval (.Call (.Name "range" p2) [a, b, c] [] pos2) X.env) :: starEach [] X.env) (n2 : starEach [a, b, c] X.env = (false, eval a X.env) :: starEach [b, c] X.env) (n3 : (backTo pos2 (starEach [b, c] X.env)).any (·.1) = false) :
    PE X (.Call (.Name "list" p) [.Call (.Name "range" p2) [a, b, c] [] pos2] [] pos) (tLstR3 ta) := by
  constructor
  intro pins s σ H Q I h
  apply Call_ (ld_blt I hg hm boot_list (PyProof.Rows.callWith_type1 (args_cons ?_ n1) n1))
  apply Call_ (ld_blt I hg2 hm2 boot_range (PyProof.Rows.callWith_type1 (thn (ha.run pos2 pins s σ H _ I h) ?_) n2 n3))
  rintro us s1 ⟨vs, H1, I1, r1, i, j, k, n, rfl, ⟨⟨c0, c1, c2, c3⟩, c4⟩, q⟩
  match us, r1 with
  | [u1, u2, u3], .cons q1 (.cons q2 (.cons q3 .nil)) =>
  obtain ⟨t1, rfl⟩ := q1
  obtain ⟨t2, rfl⟩ := q2
  obtain ⟨t3, rfl⟩ := q3
  apply call_range_3 c0 ?_ (.inl (PyProof.noPylong_small c1))
  apply args_nil
  have I2 : Inv X pins σ H1 { s1 with heap := s1.heap.push { cls := .type "range", data := .fields #[.int i t1, .int j t2, .int k t3] } } := I1.kept (t' := s1.toks) fun b o e => Heap.get?_push_of_some _ e
  refine call_list_range (n := n) (I2.ok.hd hc) (IsRange.new ..) c2 c3 c4 fun h' tk acc c' hk e' hi => ?_
  have hlen : acc.toList.length = n := by rw [Array.length_toList]; exact hi.1
  have hv : Vals (rgCV i k n) acc.toList := by
    unfold rgCV
    rw [← hlen]
    refine vals_of_get acc.toList _ fun m u hm => ?_
    obtain ⟨t, rfl⟩ := hi.2 m u (by rw [← hm, Array.getElem?_toList])
    exact ⟨t, rfl⟩
  refine ⟨.ref (s1.heap.push { cls := .type "range", data := .fields #[.int i t1, .int j t2, .int k t3] }).objs.size, upd H1 _ (.lst (rgCV i k n)), I2.laid hk (Nat.le_refl _) (show ObjOk X.prog X.w _ _ _ (.lst (rgCV i k n)) from ⟨?_, acc.toList, c', hv, ?_⟩), rfl, q _ (I2.hok.fresh (Nat.le_refl _))⟩
  · rw [hv.length, hlen, sizeLine_eq]; omega
  · rw [Array.toArray_toList]; exact e'
end
section
variable {K : PySem.W.Frag} {so : SO} {H0 H H' : Hp} {A0 A A' : Addr → Prop} {S S' : Src} {σ σ' tv : Sl} {ρ ρ' tb : En} {v x y : V} {b c : Bd}
theorem DenL.rgC {lo c : Int} {n : Nat} : DenL K H A (rgCV lo c n) (rangeCD lo c n) := by
  unfold rangeCD rgCV
  induction (List.range n) with
  | nil => exact .nil
  | cons i r ih => exact .cons (.int _) ih
/-- how many turns -/
def rg3 (i j c : Int) : Option Nat := if c ≠ 0 ∧ c.natAbs < 1073741824 ∧ Builtin.Range.small i j c = true ∧ Builtin.Range.rangeSize i j c = (Builtin.Range.rangeSize i j c).toNat ∧ (Builtin.Range.rangeSize i j c).toNat ≤ 1000000 then some (Builtin.Range.rangeSize i j c).toNat else none
def ints3 (bs : List Bd) : Option (Int × Int × Int) := match bs with
  | [a, b, c] => match toD a, toD b, toD c with
    | some (.int i), some (.int j), some (.int k) => some (i, j, k)
    | _, _, _ => none
  | _ => none
def lr3B (bs : List Bd) : Option Bd := (ints3 bs).bind fun p => (rg3 p.1 p.2.1 p.2.2).map fun n => .lst (rangeCD p.1 p.2.2 n)
def rng3I (bs : List Bd) : Option (Bool × List PyData) := (ints3 bs).bind fun p => (rg3 p.1 p.2.1 p.2.2).map fun n => (true, rangeCD p.1 p.2.2 n)
theorem ints3_at {vs : List V} {bs : List Bd} {p : Int × Int × Int} (M : Mt K so H0 A0 S (σ ++ vs.map some) (ρ ++ bs.map some) H A) (hl : σ.length = ρ.length) (e : ints3 bs = some p) : vs = [.int p.1, .int p.2.1, .int p.2.2] := by
  unfold ints3 at e
  split at e
  · rename_i a b c
    split at e
    · rename_i i j k e1 e2 e3
      cases e
      have hn := M.len
      simp [hl] at hn
      match vs, hn with
      | [x, y, z], _ =>
      have M' : Mt K so H0 A0 S (σ ++ [some x] ++ [some y] ++ [some z]) (ρ ++ [some a] ++ [some b] ++ [some c]) H A := by simpa using M
      rw [(M'.init.init.last.dp e1).intI, (M'.init.last.dp e2).intI, (M'.last.dp e3).intI]
    · cases e
  · cases e
theorem rg3_ok {i j c : Int} {n : Nat} (h : rg3 i j c = some n) : RgC i j c n ∧ n ≤ 2 ^ 24 := by
  unfold rg3 at h
  split at h
  · rename_i hz
    cases h
    exact ⟨⟨hz.1, hz.2.1, hz.2.2.1, hz.2.2.2.1⟩, by have := hz.2.2.2.2; omega⟩
  · cases h
theorem cas_lr3 : CaS K so (fun vs H Q => ∃ (i j c : Int) (n : Nat), vs = [.int i, .int j, .int c] ∧ (RgC i j c n ∧ n ≤ 2 ^ 24) ∧ ∀ q, H q = none → Q (.ref q) (upd H q (.lst (rgCV i c n)))) lr3B := fun H0 A0 S σ ρ H A vs bs b Q hl hn M e q => by
  unfold lr3B at e
  cases ep : ints3 bs with
  | none => rw [ep] at e; cases e
  | some p =>
  rw [ep, Option.bind_some] at e
  cases er : rg3 p.1 p.2.1 p.2.2 with
  | none => rw [er] at e; cases e
  | some n =>
  rw [er] at e
  cases e
  exact ⟨_, _, _, n, ints3_at M hl ep, rg3_ok er, fun r hr => q _ _ A (M.newL hr .rgC)⟩
theorem rdi_rng3 {ta : TA} {fa : SA} (ha : RdA K so ta fa) : RdI K so (iRng3 ta) (fiAr rng3I fa) := fun H0 A0 S σ ρ tv tb H A Q hl M h => by
  refine ha H0 A0 S σ ρ tv tb H A _ hl M ?_
  refine (R.post_bind.mp h).imp fun bs ρ1 S1 h vs H1 A1 hl1 hn M1 => ?_
  obtain ⟨r, e, h⟩ := R.post_of.mp h
  have hlt : (σ ++ tv).length = (ρ1 ++ tb).length := by have := M1.len; simp at this ⊢; omega
  unfold rng3I at e
  cases ep : ints3 bs with
  | none => rw [ep] at e; cases e
  | some p =>
  rw [ep, Option.bind_some] at e
  cases er : rg3 p.1 p.2.1 p.2.2 with
  | none => rw [er] at e; cases e
  | some n =>
  rw [er] at e
  cases e
  refine ⟨_, _, _, n, ints3_at M1 hlt ep, (rg3_ok er).1, h _ [] [] H1 A1 hl1 wk_rangeC (fun z c hc => nomatch hc) ?_⟩
  have := M1.sub hlt
  simpa using this
end
section
variable {X : Cx} {so : SO} {pos p p2 pos2 : Pos} {e a b c : Expr} {te ta tb tc : TE} {fe fa fb : SE}
theorem de_lr3 {t : TA} {fs : SA} (hc : X.calm = true) (hm : X.mg "list" = none) (hm2 : X.mg "range" = none) (ha : DAr X so [a, b, c] t fs) (hg : Gl X "list" := by rfl) (hg2 : Gl X "range" := by rfl)
    (n1 : starEach [.Call (.Name "range" p2) [a, b, c] [] pos2] X.env = (false, eval (.Call (.Name "range" p2) [a, b, c] [] pos2) X.env) :: starEach [] X.env := by rfl) (n2 : starEach [a, b, c] X.env = (false, eval a X.env) :: starEach [b, c] X.env := by rfl) (n3 : (backTo pos2 (starEach [b, c] X.env)).any (·.1) = false := by rfl) :
    DE X so (.Call (.Name "list" p) [.Call (.Name "range" p2) [a, b, c] [] pos2] [] pos) (tLstR3 t) (fAr lr3B fs) :=
  ⟨pe_listR3 hc hg hm hg2 hm2 ha.pa n1 n2 n3, rd_ca (r := fun vs H Q => ∃ (i j c : Int) (n : Nat), vs = [.int i, .int j, .int c] ∧ (RgC i j c n ∧ n ≤ 2 ^ 24) ∧ ∀ q, H q = none → Q (.ref q) (upd H q (.lst (rgCV i c n)))) cas_lr3 ha.rd⟩
theorem di_rng3 {tg : Expr} {ta : TA} {fs : SA} (hm : X.mg "range" = none) (ha : DAr X so [a, b, c] ta fs) (hg : Gl X "range" := by rfl) (hs : starEach [a, b, c] X.env = (false, eval a X.env) :: starEach [b, c] X.env := by rfl) (hpl : (backTo pos (starEach [b, c] X.env)).any (·.1) = false := by rfl) :
    DI X so tg (.Call (.Name "range" p) [a, b, c] [] pos) (iRng3 ta) (fiAr rng3I fs) := ⟨pi_range3 hg hm ha.pa hs hpl, rdi_rng3 ha.rd⟩
/-! ### methods of a list's value: xs.index(x) -/
end
section
variable {K : PySem.W.Frag} {so : SO} {H0 H H' : Hp} {A0 A A' : Addr → Prop} {S S' : Src} {σ σ' tv : Sl} {ρ ρ' tb : En} {v x y : V} {b c : Bd}
/-- a method of a built-in type, by values -/
def MeS (K : PySem.W.Frag) (so : SO) (T : String) (r : V → List V → Hp → VK → Prop) (o : Bd → List Bd → Option Bd) : Prop := (∀ (H0 H : Hp) (A : Addr → Prop) (x : V) (bx : Bd) (bs : List Bd) (b : Bd), OOk K so H0 H A x bx → o bx bs = some b → tyV K T x H) ∧
  ∀ (H0 : Hp) (A0 : Addr → Prop) (S : Src) (σ : Sl) (ρ : En) (H : Hp) (A : Addr → Prop) (x : V) (bx : Bd) (vs : List V) (bs : List Bd) (b : Bd) (Q : VK), σ.length = ρ.length → vs.length = bs.length →
  Mt K so H0 A0 S (σ ++ [some x] ++ vs.map some) (ρ ++ [some bx] ++ bs.map some) H A → o bx bs = some b →
  (∀ v H' A', Mt K so H0 A0 S (σ ++ [some x] ++ vs.map some ++ [some v]) (ρ ++ [some bx] ++ bs.map some ++ [some b]) H' A' → Q v H') → r x vs H Q
def fMe (o : Bd → List Bd → Option Bd) (fx : SE) (fa : SA) : SE := fun ρ S => (fx ρ S).bind fun x ρ S => (fa ρ S).bind fun bs ρ S => R.of (o x bs) ρ S
theorem rd_me {T : String} {r : V → List V → Hp → VK → Prop} {o : Bd → List Bd → Option Bd} {te : TE} {ta : TA} {fx : SE} {fa : SA} (ho : MeS K so T r o) (hx : RdE K so te fx) (ha : RdA K so ta fa) : RdE K so (tBM K T r te ta) (fMe o fx fa) := fun H0 A0 S σ ρ tv tb H A Q hl M h => by
  refine hx H0 A0 S σ ρ tv tb H A _ hl M ?_
  refine (R.post_bind.mp h).imp fun bx ρ1 S1 h v1 H1 A1 hl1 M1 => ?_
  have h2 := R.post_bind.mp h
  obtain ⟨bs, ρ2, S2, ea, h3⟩ := h2.get
  obtain ⟨b, eo, h4⟩ := R.post_of.mp h3
  refine ⟨ho.1 H0 H1 A1 v1 bx bs b M1.last eo, ha H0 A0 S1 σ ρ1 (tv ++ [some v1]) (tb ++ [some bx]) H1 A1 _ hl1 (by simpa only [List.append_assoc] using M1) ?_⟩
  rw [ea]
  intro vs H2 A2 hl2 hn M2
  have hlt : (σ ++ tv).length = (ρ2 ++ tb).length := by have := M2.len; simp at this ⊢; omega
  refine ho.2 H0 A0 S2 (σ ++ tv) (ρ2 ++ tb) H2 A2 v1 bx vs bs b Q hlt hn (by simpa only [List.append_assoc] using M2) eo fun v H' A' M' => h4 v H' A' hl2 ?_
  have M3 : Mt K so H0 A0 S2 (σ ++ tv ++ ([some v1] ++ vs.map some) ++ [some v]) (ρ2 ++ tb ++ ([some bx] ++ bs.map some) ++ [some b]) H' A' := by simpa only [List.append_assoc] using M'
  exact M3.cut hlt (by simp [hn])
/-- the first place of what is equal -/
def indexL : List PyData → PyData → Nat → Option Nat
  | [], _, _ => none
  | z :: zs, d, n => if PyData.eqv z d = true then some n else indexL zs d (n + 1)
def indexB (a : Bd) (bs : List Bd) : Option Bd := match bs with
  | [b] => (toL a).bind fun ds => (toD b).bind fun d => if (flatD d && ds.all flatD) = true then (indexL ds d 0).map fun j => .imm (.int (j : Nat)) else none
  | _ => none
theorem indexL_at {d : PyData} : ∀ {ds : List PyData} {n j : Nat}, indexL ds d n = some j → ∃ z, n ≤ j ∧ ds[j - n]? = some z ∧ PyData.eqv z d = true ∧ ∀ (m : Nat) (z' : PyData), m < j - n → ds[m]? = some z' → PyData.eqv z' d = false
  | [], n, j, h => by cases h
  | z :: zs, n, j, h => by
    unfold indexL at h
    split at h
    · rename_i hz
      cases h
      exact ⟨z, Nat.le_refl _, by rw [Nat.sub_self]; rfl, hz, fun m z' hm => by omega⟩
    · rename_i hz
      obtain ⟨z', h1, h2, h3, h4⟩ := indexL_at h
      refine ⟨z', by omega, ?_, h3, fun m z2 hm e => ?_⟩
      · rw [show j - n = (j - (n + 1)) + 1 by omega]; simpa using h2
      · cases m with
        | zero => simp at e; subst e; simpa using hz
        | succ m => exact h4 m z2 (by omega) (by simpa using e)
theorem mes_index : MeS K so "list" (rIndex K) indexB := by
  refine ⟨fun H0 H A x bx bs b o e => ?_, fun H0 A0 S σ ρ H A x bx vs bs b Q hl hn M e q => ?_⟩
  · unfold indexB at e
    split at e
    · cases el : toL bx with
      | none => rw [el] at e; cases e
      | some ds =>
        obtain ⟨a, vs, rfl, g1, _⟩ := o.lstI el
        exact .inl ⟨rfl, _, SqL.of g1⟩
    · cases e
  · unfold indexB at e
    split at e
    · rename_i b0
      cases el : toL bx with
      | none => rw [el] at e; cases e
      | some ds =>
      rw [el, Option.bind_some] at e
      cases ed : toD b0 with
      | none => rw [ed] at e; cases e
      | some d =>
      rw [ed, Option.bind_some] at e
      split at e
      · rename_i hf
        simp only [Bool.and_eq_true] at hf
        cases ej : indexL ds d 0 with
        | none => rw [ej] at e; cases e
        | some j =>
        rw [ej] at e
        cases e
        obtain ⟨y, rfl, M2⟩ := M.at1 (by simp [hl])
        obtain ⟨a, ws, rfl, g1, g2⟩ := M2.init.last.lstI el
        have dy := M2.last.dp ed
        obtain ⟨z, _, h2, h3, h4⟩ := indexL_at ej
        obtain ⟨w, e1, e2⟩ := g2.get (i := j) (by simpa using h2)
        refine ⟨a, ws, y, j, w, rfl, rfl, SqL.of g1, dy.flat hf.1, dpAll_allF g2.dp hf.2, e1, ?_, fun m z' hm e' => ?_, q _ H A (M.flat fun H A => .int _)⟩
        · rw [e2.dp.eqVD dy (List.all_eq_true.mp hf.2 z (List.mem_of_getElem? h2)) hf.1]; exact h3
        · have hm2 : m < ds.length := by have := getlt h2; omega
          obtain ⟨w2, e3, e4⟩ := g2.get (i := m) (d := ds[m]) (List.getElem?_eq_getElem hm2)
          rw [e'] at e3
          cases e3
          rw [e4.dp.eqVD dy (List.all_eq_true.mp hf.2 _ (List.getElem_mem hm2)) hf.1]
          exact h4 m ds[m] (by simpa using hm) (List.getElem?_eq_getElem hm2)
      · cases e
    · cases e
end
section
variable {X : Cx} {so : SO} {p p2 cpos apos : Pos} {e o : Expr} {es : List Expr} {to : TE} {t : TA} {fo : SE} {fs : SA}
theorem de_bm {T id : String} {name : Str} {r : V → List V → Hp → VK → Prop} {ob : Bd → List Bd → Option Bd} (pa : PlainAttrs T) (slot : Slot T name id) (hty : typeOf (.builtin id) = pure (.type "method_descriptor")) (hm : MtR X id r) (hs : MeS X.K so T r ob) (ho : DE X so o to fo) (ha : DAr X so (e :: es) t fs)
    (hbase : attributeBase o name X.env (eval o X.env) = eval o X.env := by rfl)
    (hfew : ((backTo cpos (starEach (e :: es) X.env)).all (fun x => !x.1) && (backToKw cpos (keywordEach [] X.env)).all (fun x => x.1.isSome)
      && decide ((e :: es).length + ([] : List Keyword).length + (if ([] : List Keyword).isEmpty then 0 else 1) < 30)) = true := by rfl)
    (hline : (apos.endLine == cpos.line) = true := by rfl) (hst : starEach (e :: es) X.env = (false, eval e X.env) :: starEach es X.env := by rfl) (hplain : (backTo cpos (starEach es X.env)).any (·.1) = false := by rfl) :
    DE X so (.Call (.Attribute o name apos) (e :: es) [] cpos) (tBM X.K T r to t) (fMe ob fo fs) := ⟨pe_bm pa slot hty hm ho.pe ha.pa hbase hfew hline hst hplain, rd_me hs ho.rd ha.rd⟩
end
end DL
set_option maxRecDepth 100000
set_option maxHeartbeats 2000000
/-! DK: the law's own def by data; an own list lent to a def that changes it. -/
namespace DL
open PySem PySem.Spec PyProof.Rows L2
theorem pss_ex {X : Cx} {st : List Stmt} {T : SO → TS} (h : ∀ so, PSs X st (T so)) : PSs X st (fun D σ H => ∃ so, T so D σ H) := ⟨fun pins s σ H D I ⟨so, q⟩ => (h so).run pins s σ H D I q⟩
def spLaw (K : PySem.W.Frag) : Sp := fun vs H Q _ => ∃ (a : Addr) (ns : List Int), vs = [.ref a] ∧ ns.length ≤ 63 ∧ SqL K H a (ns.map V.int) ∧ ∀ H', Q (.bl true) H'
theorem spLaw_in (K : PySem.W.Frag) (H : Hp) (a : Addr) (ns : List Int) (hl : ns.length ≤ 63) (_ : Only H) (hS : SqL K H a (ns.map V.int)) : spLaw K [.ref a] H (fun v _ => v = .bl true) E0 := ⟨a, ns, rfl, hl, hS, fun _ => rfl⟩
section
variable {P : Program} {w : World} {K : PySem.W.Frag} {mg : Str → Option Value} {base : Heap}
/-- what the first statement, source = _law_source(script), promises -/
def MakesSrc (K : PySem.W.Frag) (te : TE) : Prop := ∀ (σ : Sl) (H : Hp) (Q : VK) (a : Addr) (ns : List Int), σ[0]? = some (some (.ref a)) → SqL K H a (ns.map V.int) → ns.length ≤ 63 → (∀ H' p c S, Same H H' → SrcOk (some (p, c)) S H' → Q (.ref p) H') → te σ H Q
theorem mt_law {p c : Addr} {S : Src} {H : Hp} {a : Addr} {m : Nat} (h : SrcOk (some (p, c)) S H) : Mt K (some (p, c)) H (fun _ => False) S (some (.ref a) :: some (.ref p) :: List.replicate m none) (none :: some .src :: List.replicate m none) H (fun _ => False) where
  len := by simp
  keep := fun b x e _ => e
  a0 := fun _ h => h
  an := fun _ h => h.elim
  fz := fun _ h => h.elim
  ns := fun _ h => h.elim
  so0 := fun b hb => by
    rcases hb with rfl | rfl
    · exact ⟨_, h.1⟩
    · exact ⟨_, h.2⟩
  src := h
  bd := fun i b e => by
    match i, e with
    | 0, e => simp at e
    | 1, e => simp at e; subst e; exact ⟨_, rfl, p, c, rfl, rfl⟩
    | i + 2, e =>
      simp only [List.getElem?_cons_succ] at e
      have := List.mem_of_getElem? e
      rw [List.mem_replicate] at this
      cases this.2
  sep := fun i j b b' v ne e1 e2 o1 o2 => by
    match i, e1 with
    | 0, e => simp at e
    | 1, e => simp at e; subst e; cases o1
    | i + 2, e =>
      simp only [List.getElem?_cons_succ] at e
      have := List.mem_of_getElem? e
      rw [List.mem_replicate] at this
      cases this.2
theorem law_d {st : Stmt} {f : Addr} {fd : FuncData} {N : List Str} {m : Nat} {k : Nat} {g : SS} (F : Fun K "law" "law" st f fd) (S : FnScope N ["script"] (defScope st)) (hN : N.length = m + 2)
    (hb : ∀ (cdv : Value) (A : Around) (outer : List PySem.Env) (s : Shared) (H : Hp), Rm k (A.deeper (envOfC "law" (defScope st) s.heap.objs.size f cdv)) →
      ∃ (s1 : Stmt) (rest : List Stmt) (te : TE), defBody st = s1 :: rest ∧ PS (cxOf CX0 P w K mg base N "law" (defScope st) f cdv A outer s H E0).nox s1 (tAsg te (gName 1)) ∧ MakesSrc K te ∧ ∀ so : SO, ∃ t, DSs (cxOf CX0 P w K mg base N "law" (defScope st) f cdv A outer s H E0).nox so rest t g)
    (plain : ∀ S : Src, ∃ ρ S', g (none :: some .src :: List.replicate m none) S = .ok (.rt (.imm (.bool true))) ρ S') : FnG P w K mg base (k + 1) f fd ["script"] (spLaw K) := by
  refine FnG.body F S (fun vs H Q E h => ?_) fun cdv A outer s H vs Q hr h => ?_
  · obtain ⟨a, ns, rfl, _⟩ := h; rfl
  · obtain ⟨a, ns, rfl, hl, hS, q⟩ := h
    obtain ⟨s1, rest, te, e1, h1, hm, h2⟩ := hb cdv A outer s H hr
    refine ⟨tSeq (tAsg te (gName 1)) (fun D σ H => ∃ so, Classical.choose (h2 so) D σ H), e1 ▸ pss_cons h1 (pss_ex fun so => (Classical.choose_spec (h2 so)).pss), ?_⟩
    have es : L2.start N [V.ref a] = some (.ref a) :: none :: List.replicate m none := by
      unfold L2.start
      rw [hN]
      rfl
    rw [es]
    refine hm _ H _ a ns rfl hS hl fun H' p c S' _ ok => ?_
    show ∃ so, _
    refine ⟨some (p, c), ?_⟩
    have rd := (Classical.choose_spec (h2 (some (p, c)))).rd
    obtain ⟨ρ', S2, eg⟩ := plain S'
    refine rd H' (fun _ => False) S' _ (none :: some .src :: List.replicate m none) [] [] H' (fun _ => False) _ (by simp) (fun b hb => nomatch hb) (by rw [List.append_nil, List.append_nil]; exact mt_law ok) ?_
    rw [eg]
    intro σ v H2 A2 l M
    have o : Den K H2 A2 v (.bool true) := by
      have := Mt.last (by rw [List.append_nil, List.append_nil] at M; exact M)
      exact this
    cases o
    exact q H2
end
/-! ### an own list is lent to be changed -/
def rmH (H : Hp) (a : Addr) : Hp := fun b => if b = a then none else H b
section
variable {K : PySem.W.Frag} {so : SO} {H0 H H' H2 : Hp} {A0 A A2 : Addr → Prop} {S S' S2 : Src} {σ σ' tv : Sl} {ρ ρ' tb : En} {v x y : V} {b c : Bd}
theorem rmH_ne {a b : Addr} (h : b ≠ a) : rmH H a b = H b := if_neg h
theorem rmH_same {a : Addr} : rmH H a a = none := if_pos rfl
/-- the callee's own match -/
theorem Mt.lend {a : Addr} {ds : List PyData} (M : Mt K so H0 A0 S σ ρ H A) (o : OOk K so H0 H A (.ref a) (.lst ds)) : Mt K so (rmH H a) A S [some (.ref a)] [some (.lst ds)] H A := by
  obtain ⟨a', vs', e, ha, na, h0, hd⟩ := o
  cases e
  exact {
    len := rfl
    keep := fun b x e n => by
      by_cases q : b = a
      · rw [q, rmH_same] at e; cases e
      · rw [rmH_ne q] at e; exact e
    a0 := fun _ h => h
    an := fun _ h => .inl h
    fz := M.fz
    ns := M.ns
    so0 := fun b hb => by
      have q : b ≠ a := fun e => M.n0 h0 (e ▸ hb)
      rw [rmH_ne q]
      rcases hb.src M.src with ⟨_, z⟩ | ⟨_, z⟩ <;> exact ⟨_, z⟩
    src := M.src
    bd := fun i b e => by
      match i, e with
      | 0, e => simp at e; subst e; exact ⟨_, rfl, a, vs', rfl, ha, na, rmH_same, hd⟩
      | i + 1, e => simp at e
    sep := fun i j b b' v ne e1 e2 o1 o2 => by
      match i, j, e1, e2 with
      | 0, 0, _, _ => exact absurd rfl ne
      | i + 1, _, e, _ => simp at e
      | 0, j + 1, _, e => simp at e }
/-- back from the callee: slot i's list is changed -/
theorem Mt.back {a : Addr} {i : Nat} {ds ds' : List PyData} (M : Mt K so H0 A0 S (σ ++ tv) (ρ ++ tb) H A) (hl : σ.length = ρ.length) (nb : NB tb) (nr : nbE ρ = true) (h : ρ[i]? = some (some (.lst ds))) (hv : σ[i]? = some (some (.ref a)))
    (M2 : Mt K so (rmH H a) A S2 [some (.ref a)] [some (.lst ds')] H2 A2) : Mt K so H0 A0 S2 (σ ++ tv) (ρ.set i (some (.lst ds')) ++ tb) H2 A2 := by
  obtain ⟨v1, e1, a1, vs1, rfl, ha1, na1, h01, hd1⟩ := M.slot hl h
  rw [hv] at e1
  cases e1
  have hna : ¬ Has so a := M.n0 h01
  obtain ⟨v2, e2, a2, vs2, rfl, ha2, na2, _, hd2⟩ := M2.bd 0 _ rfl
  cases e2
  have k0 : ∀ b x, H b = some x → ¬ Has so b → b ≠ a → H2 b = some x := fun b x e n q => M2.keep b x (by rw [rmH_ne q]; exact e) n
  let H3 : Hp := upd H2 a (.lst vs1)
  have srcNe : ∀ b, Has so b → b ≠ a := fun b hb e => hna (e ▸ hb)
  have M3 : Mt K so H0 A0 S2 (σ ++ tv) (ρ ++ tb) H3 A2 := by
    refine M.up (fun b x e n => ?_) (M2.src.keepd fun b hb => upd_ne (srcNe b hb)) M2.a0 (fun b hb => ?_) (fun b hb => ?_) M2.ns
    · by_cases q : b = a
      · subst q
        rw [show H3 b = some (.lst vs1) from upd_same, ← ha1, e]
      · rw [show H3 b = H2 b from upd_ne q]; exact k0 b x e n q
    · have q : b ≠ a := fun e => na2 (e ▸ hb)
      rcases M2.an b hb with z | z
      · exact .inl z
      · rw [rmH_ne q] at z; exact .inr z
    · have q : b ≠ a := fun e => na2 (e ▸ hb)
      rw [show H3 b = H2 b from upd_ne q]
      exact M2.fz b hb
  have hd3 : DenL K H3 A2 vs2 ds' := DenL.mono (fun _ h => h) (fun b xs hb e => by
    have q : b ≠ a := fun e => na2 (e ▸ hb)
    rw [show H3 b = H2 b from upd_ne q]; exact e) (fun b xs e => by
    have q : b ≠ a := fun z => by rw [z, ha2] at e; cases e
    rw [show H3 b = H2 b from upd_ne q]; exact e) hd2
  have M4 := M3.change hl nb nr h hv hd3
  have eH : upd H3 a (.lst vs2) = H2 := by
    funext b
    by_cases q : b = a
    · subst q; rw [upd_same, ha2]
    · rw [upd_ne q]; exact upd_ne q
  rw [eH] at M4
  exact M4
end
section
variable {X : Cx} {so : SO} {pos : Pos} {e : Expr} {te : TE} {fe : SE}
/-- xs.append(e), all in one -/
theorem ds_app (i : Nat) {x : Str} {px pa p2 : Pos} (h : DE X so e te fe) (hN : X.N[i]? = some x := by rfl) (hv : Vis X.env.scope x := by first | exact Or.inl rfl | exact Or.inr (Or.inl rfl) | exact Or.inr (Or.inr rfl)) (hd : (x == ("__debug__" : Str)) = false := by decide)
    (hcd : (x == ("__classdict__" : Str)) = false := by decide) (hbase : attributeBase (.Name x px) "append" X.env (eval (.Name x px) X.env) = eval (.Name x px) X.env := by rfl)
    (hfew : ((backTo p2 (starEach [e] X.env)).all (fun x => !x.1) && (backToKw p2 (keywordEach [] X.env)).all (fun x => x.1.isSome)
      && decide (([e] : List Expr).length + ([] : List Keyword).length + (if ([] : List Keyword).isEmpty then 0 else 1) < 30)) = true := by rfl)
    (hline : (pa.endLine == p2.line) = true := by rfl) (hst : starEach [e] X.env = (false, eval e X.env) :: starEach [] X.env := by rfl) (hplain : (backTo p2 (starEach [] X.env)).any (·.1) = false := by rfl)
    (hs : swapsWith (.Call (.Attribute (.Name x px) "append" pa) [e] [] p2) none pos.line X.env = pure false := by rfl) :
    DS X so (.Expr (.Call (.Attribute (.Name x px) "append" pa) [e] [] p2) pos) (tDrop (tBM X.K "list" rAppend (tVar i) (tCons te tNil))) (gAppend i fe) :=
  ds_append i h hN hv hd hcd (pe_bm PySem.F.plainAttrs_list PySem.F.slot_list_append PySem.F.type_list_append mt_append (pv i hN hv hd hcd) (pa_cons h.pe pa_nil hst) hbase hfew hline hst hplain) hs
/-! ### f(xs, e): the def changes xs -/
def spM (K : PySem.W.Frag) (so : SO) (F : List PyData → PyData → Option (List PyData)) : Sp := fun vs H Q _ => ∃ (a : Addr) (y : V) (ds : List PyData) (d : PyData) (S : Src) (A : Addr → Prop), vs = [.ref a, y] ∧
  Mt K so (rmH H a) A S [some (.ref a), some y] [some (.lst ds), some (.imm d)] H A ∧
  match F ds d with
  | some ds' => ∀ H' A', Mt K so (rmH H a) A S [some (.ref a)] [some (.lst ds')] H' A' → Q .non H'
  | none => False
def FnM (P : Program) (w : World) (K : PySem.W.Frag) (mg : Str → Option Value) (base : Heap) (k : Nat) (f : Addr) (fd : FuncData) (ps : List Str) (F : List PyData → PyData → Option (List PyData)) : Prop := ∀ so : SO, FnG P w K mg base k f fd ps (spM K so F)
def gLend (F : List PyData → PyData → Option (List PyData)) (i : Nat) (fe : SE) : SS := fun ρ S => if isOwn i ρ = true then (fe ρ S).bind fun b ρ S => ownSet i ρ S fun ds => (toF b).bind fun d => F ds d else .bad
theorem rds_lend {K : PySem.W.Frag} {F : List PyData → PyData → Option (List PyData)} {i : Nat} (he : RdE K so te fe) : RdS K so (tDrop (fun σ H Q => (tCons (tVar i) (tCons te tNil)) σ H fun vs H1 => spM K so F vs H1 Q E0)) (gLend F i fe) := fun H0 A0 S σ ρ tv tb H A D hl nb M h => by
  unfold gLend at h
  split at h
  · rename_i ho
    obtain ⟨ds0, e0⟩ := isOwn_at ho
    obtain ⟨a, vs0, e1, ha, _⟩ := M.own hl e0
    refine ⟨.ref a, e1, he H0 A0 S σ ρ tv tb H A _ hl M ?_⟩
    refine (R.post_bind.mp h).imp fun b ρ1 S1 h v1 H1 A1 hl1 M1 => ?_
    obtain ⟨ds, ds', g1, g2, g3, g4⟩ := ownSet_post h
    cases ef : toF b with
    | none => rw [ef] at g2; cases g2
    | some d =>
    rw [ef, Option.bind_some] at g2
    obtain ⟨A2, M2⟩ := M1.frz1 ef
    have dd : Den K H1 A2 v1 d := M2.last
    obtain ⟨v3, e3, o3⟩ := M2.init.slot hl1 g1
    have ea : v3 = .ref a := by rw [e1] at e3; exact (Option.some.inj (Option.some.inj e3)).symm
    subst ea
    refine ⟨a, v1, ds, d, S1, A2, rfl, (M2.lend o3).pushI (b := .imm d) dd rfl, ?_⟩
    rw [g2]
    intro H' A' M'
    exact g4 σ H' A' (by simpa using hl1) (M2.init.back hl1 nb g3 g1 e1 M')
  · exact h.elim
theorem ds_lend {n : Nat} {f : Addr} {fd : FuncData} {p1 p2 : Str} {F : List PyData → PyData → Option (List PyData)} {g : Str} {pg p3 px : Pos} (i : Nat) {x : Str} (G : FnM X.prog X.w X.K X.mg X.base n f fd [p1, p2] F) (hr : Rm n X.A) (hm : X.mg g = some (.ref f)) (hk : PySem.W.keepIn X.K (.ref f) = true) (hb : Binds X.K fd [p1, p2] []) (h : DE X so e te fe)
    (hg : Gl X g := by rfl) (hdb : (g == ("__debug__" : Str)) = false := by decide) (hN : X.N[i]? = some x := by rfl) (hv : Vis X.env.scope x := by first | exact Or.inl rfl | exact Or.inr (Or.inl rfl) | exact Or.inr (Or.inr rfl)) (hd : (x == ("__debug__" : Str)) = false := by decide)
    (hcd : (x == ("__classdict__" : Str)) = false := by decide) (he : starEach [.Name x px, e] X.env = (false, eval (.Name x px) X.env) :: starEach [e] X.env := by rfl) (he2 : starEach [e] X.env = (false, eval e X.env) :: starEach [] X.env := by rfl) (hpl : (backTo p3 (starEach [e] X.env)).any (·.1) = false := by rfl)
    (hs : swapsWith (.Call (.Name g pg) [.Name x px, e] [] p3) none pos.line X.env = pure false := by rfl) :
    DS X so (.Expr (.Call (.Name g pg) [.Name x px, e] [] p3) pos) (tDrop (fun σ H Q => (tCons (tVar i) (tCons te tNil)) σ H fun vs H1 => spM X.K so F vs H1 Q E0)) (gLend F i fe) :=
  ⟨ps_expr (pe_callG (G so) hr hg hm hk hb (pa_cons (pv i hN hv hd hcd) (pa_cons h.pe pa_nil he2) he) hdb he hpl) hs, rds_lend h.rd⟩
end
/-! ### in a comprehension's own frame the terms are the outer ones -/
section
variable {X : Cx} {so : SO}
theorem DE.cast {e : Expr} {te te' : TE} {f : SE} (h : DE X so e te' f) (z : te' = te) : DE X so e te f := z ▸ h
theorem DTs.cast {e : List Expr} {te te' : TT} {f : SB} (h : DTs X so e te' f) (z : te' = te) : DTs X so e te f := z ▸ h
theorem DG.cast {e : Expr} {te te' : TG} {f : Bd → En → Option En} {is : List Nat} (h : DG X so e te' f is) (z : te' = te) : DG X so e te f is := z ▸ h
end
/-! ### compares as tests -/
section
variable {X : Cx} {so : SO} {pos p : Pos} {a b : Expr} {ta tb : TE} {fa fb : SE}
theorem dt_cmp {op : CmpOp} {r : R2} {o : Bd → Bd → Option Bd} (ho : OpR X (compareOp op) r) (hs : OpS X.K so r o) (hm : behindInMarks op b = false) (ha : DE X so a ta fa) (hb : DE X so b tb fb) : DT X so (.Compare a [op] [b] pos) (tTest (tOp r ta tb)) (fTest (fOp o fa fb)) := ⟨pt_cmpR ho ha.pe hb.pe hm, rdt_val (rd_op hs ha.rd hb.rd)⟩
theorem dt_lt (ha : DE X so a ta fa) (hb : DE X so b tb fb) : DT X so (.Compare a [.Lt] [b] pos) (tTest (tOp (rI0 fun i j => .bl (decide (i < j))) ta tb)) (fTest (fOp ltB fa fb)) := dt_cmp op_lt ops_lt (nomark _) ha hb
theorem dt_le (ha : DE X so a ta fa) (hb : DE X so b tb fb) : DT X so (.Compare a [.LtE] [b] pos) (tTest (tOp (rI0 fun i j => .bl (decide (i ≤ j))) ta tb)) (fTest (fOp leB fa fb)) := dt_cmp op_le ops_le (nomark _) ha hb
theorem dt_gt (ha : DE X so a ta fa) (hb : DE X so b tb fb) : DT X so (.Compare a [.Gt] [b] pos) (tTest (tOp (rI0 fun i j => .bl (decide (j < i))) ta tb)) (fTest (fOp gtB fa fb)) := dt_cmp op_gt ops_gt (nomark _) ha hb
theorem dt_ge (ha : DE X so a ta fa) (hb : DE X so b tb fb) : DT X so (.Compare a [.GtE] [b] pos) (tTest (tOp (rI0 fun i j => .bl (decide (j ≤ i))) ta tb)) (fTest (fOp geB fa fb)) := dt_cmp op_ge ops_ge (nomark _) ha hb
theorem dt_eq {n : Nat} (hr : Rm n X.A) (ha : DE X so a ta fa) (hb : DE X so b tb fb) : DT X so (.Compare a [.Eq] [b] pos) (tTest (tOp (rEqA X.K) ta tb)) (fTest (fOp (eqB false) fa fb)) := dt_cmp (op_eqA hr.room.units) ops_eq (nomark _) ha hb
theorem dt_ne {n : Nat} (hr : Rm n X.A) (ha : DE X so a ta fa) (hb : DE X so b tb fb) : DT X so (.Compare a [.NotEq] [b] pos) (tTest (tOp (rNeA X.K) ta tb)) (fTest (fOp (eqB true) fa fb)) := dt_cmp (op_neA hr.room.units) ops_ne (nomark _) ha hb
theorem dt_is (ha : DE X so a ta fa) (hb : DE X so b tb fb) : DT X so (.Compare a [.Is] [b] pos) (tTest (tOp rIsA ta tb)) (fTest (fOp (isB false) fa fb)) := dt_cmp op_isA ops_is (nomark _) ha hb
theorem dt_isn (ha : DE X so a ta fa) (hb : DE X so b tb fb) : DT X so (.Compare a [.IsNot] [b] pos) (tTest (tOp rIsnA ta tb)) (fTest (fOp (isB true) fa fb)) := dt_cmp op_isnA ops_isn (nomark _) ha hb
theorem dt_in {n : Nat} (hr : Rm n X.A) (ha : DE X so a ta fa) (hb : DE X so b tb fb) (hm : behindInMarks .In b = false := by rfl) : DT X so (.Compare a [.In] [b] pos) (tTest (tOp (rInA X.K) ta tb)) (fTest (fOp (inB false) fa fb)) := dt_cmp (op_inA (u65 hr)) ops_in hm ha hb
theorem dt_nin {n : Nat} (hr : Rm n X.A) (ha : DE X so a ta fa) (hb : DE X so b tb fb) (hm : behindInMarks .NotIn b = false := by rfl) : DT X so (.Compare a [.NotIn] [b] pos) (tTest (tOp (rNinA X.K) ta tb)) (fTest (fOp (inB true) fa fb)) := dt_cmp (op_ninA (u65 hr)) ops_nin hm ha hb
theorem dt_din {n i : Nat} {x : Str} (hr : Rm n X.A) (hk : DE X so a ta fa) (hN : X.N[i]? = some x := by rfl) (hv : Vis X.env.scope x := by first | exact Or.inl rfl | exact Or.inr (Or.inl rfl) | exact Or.inr (Or.inr rfl)) (hd : (x == ("__debug__" : Str)) = false := by decide)
    (hcd : (x == ("__classdict__" : Str)) = false := by decide) (h1 : behindInMarks .In (.Name x p) = false := by rfl) : DT X so (.Compare a [.In] [.Name x p] pos) (tB (tDIn ta (tVar i))) (fTest (fDin false i fa)) := ⟨pt_cmp (pc_din hr.hu hk.pe (pv i hN hv hd hcd)) h1, rdt_val (rd_din hk.rd)⟩
theorem dt_dnin {n i : Nat} {x : Str} (hr : Rm n X.A) (hk : DE X so a ta fa) (hN : X.N[i]? = some x := by rfl) (hv : Vis X.env.scope x := by first | exact Or.inl rfl | exact Or.inr (Or.inl rfl) | exact Or.inr (Or.inr rfl)) (hd : (x == ("__debug__" : Str)) = false := by decide)
    (hcd : (x == ("__classdict__" : Str)) = false := by decide) (h1 : behindInMarks .NotIn (.Name x p) = false := by rfl) : DT X so (.Compare a [.NotIn] [.Name x p] pos) (tB (tDNotIn ta (tVar i))) (fTest (fDin true i fa)) := ⟨pt_cmp (pc_dnotin hr.hu hk.pe (pv i hN hv hd hcd)) h1, rdt_val (rd_dnotin hk.rd)⟩
end
end DL
set_option maxRecDepth 100000
set_option maxHeartbeats 2000000
/-! DM: the readings unfolded by simp. -/
namespace DL
open PySem PySem.Spec PyProof.Rows L2
section
variable {α β : Type} {a : α} {ρ : En} {S : Src} {g1 g2 g : SS} {c d : SB} {f fa fb fx : SE} {fr : SA} {fi : SI} {s : Bd → En → Option En} {r : List Bd → En → Option En} {i n : Nat} {ds : List PyData} {x y z b : Bd} {bs : List Bd}
@[simp] theorem rb_ok {k : α → En → Src → R β} : (R.ok a ρ S).bind k = k a ρ S := rfl
@[simp] theorem rb_bad {k : α → En → Src → R β} : (R.bad : R α).bind k = .bad := rfl
@[simp] theorem ro_some : R.of (some a) ρ S = .ok a ρ S := rfl
@[simp] theorem ro_none : R.of (none : Option α) ρ S = .bad := rfl
@[simp] theorem q_seq : gSeq g1 g2 ρ S = (g1 ρ S).bind fun fl ρ S => match fl with
  | .nx => g2 ρ S
  | fl => .ok fl ρ S := rfl
@[simp] theorem q_if : gIf c g1 g2 ρ S = (c ρ S).bind fun k ρ S => if k = true then g1 ρ S else g2 ρ S := rfl
@[simp] theorem q_asg : gAsg s f ρ S = (f ρ S).bind fun b ρ S => match s b ρ with
  | some ρ' => .ok .nx ρ' S
  | none => .bad := rfl
@[simp] theorem q_par : gPar r fr ρ S = (fr ρ S).bind fun bs ρ S => match r bs ρ with
  | some ρ' => .ok .nx ρ' S
  | none => .bad := rfl
@[simp] theorem q_parN : gParN n r fr ρ S = (fr ρ S).bind fun bs ρ S => if bs.length = n then match r bs ρ with
  | some ρ' => .ok .nx ρ' S
  | none => .bad else .bad := rfl
@[simp] theorem q_ret : gRet f ρ S = (f ρ S).bind fun b ρ S => .ok (.rt b) ρ S := rfl
@[simp] theorem q_retN : gRetN ρ S = .ok (.rt (.imm .none)) ρ S := rfl
@[simp] theorem q_drop : gDrop f ρ S = (f ρ S).bind fun _ ρ S => .ok .nx ρ S := rfl
@[simp] theorem q_next : gNext ρ S = .ok .nx ρ S := rfl
@[simp] theorem q_brk : gBrk ρ S = .ok .bk ρ S := rfl
@[simp] theorem q_cnt : gCnt ρ S = .ok .ct ρ S := rfl
@[simp] theorem q_for : gFor s fi g ρ S = (fi ρ S).bind fun p ρ S => if p.1 = true then forS s g p.2 ρ S else .bad := rfl
@[simp] theorem q_var : fVar i ρ S = match ρ[i]? with
  | some (some (.lst ds)) => .ok (.bor ds) ρ S
  | some (some (.dk _)) => .bad
  | some (some (.dt _)) => .bad
  | some (some b) => .ok b ρ S
  | _ => .bad := rfl
@[simp] theorem q_frz : fFrz i ρ S = match ρ[i]? with
  | some (some (.lst ds)) => .ok (.imm (.list ds)) (ρ.set i (some (.imm (.list ds)))) S
  | some (some (.dk _)) => .bad
  | some (some (.dt _)) => .bad
  | some (some b) => .ok b ρ S
  | _ => .bad := rfl
@[simp] theorem q_mov : fMov i ρ S = match ρ[i]? with
  | some (some b) => .ok b (ρ.set i none) S
  | _ => .bad := rfl
@[simp] theorem q_c {d : PyData} : fC d ρ S = .ok (.imm d) ρ S := rfl
@[simp] theorem q_op {o : Bd → Bd → Option Bd} : fOp o fa fb ρ S = (fa ρ S).bind fun x ρ S => (fb ρ S).bind fun y ρ S => R.of (o x y) ρ S := rfl
@[simp] theorem q_un {o : Bd → Option Bd} : fUn o fa ρ S = (fa ρ S).bind fun x ρ S => R.of (o x) ρ S := rfl
@[simp] theorem q_ar {o : List Bd → Option Bd} : fAr o fr ρ S = (fr ρ S).bind fun bs ρ S => R.of (o bs) ρ S := rfl
@[simp] theorem q_me {o : Bd → List Bd → Option Bd} : fMe o fx fr ρ S = (fx ρ S).bind fun x ρ S => (fr ρ S).bind fun bs ρ S => R.of (o x bs) ρ S := rfl
@[simp] theorem q_ife : fIf c fa fb ρ S = (c ρ S).bind fun k ρ S => if k = true then fa ρ S else fb ρ S := rfl
@[simp] theorem q_and : fAnd fa fb ρ S = (fa ρ S).bind fun b ρ S => match b with
  | .imm (.bool c) => if c = true then fb ρ S else .ok (.imm (.bool false)) ρ S
  | _ => .bad := by unfold fAnd; rfl
@[simp] theorem q_or : fOr fa fb ρ S = (fa ρ S).bind fun b ρ S => match b with
  | .imm (.bool c) => if c = true then .ok (.imm (.bool true)) ρ S else fb ρ S
  | _ => .bad := by unfold fOr; rfl
@[simp] theorem q_test : fTest f ρ S = (f ρ S).bind fun b ρ S => match b with
  | .imm (.bool c) => .ok c ρ S
  | _ => .bad := by unfold fTest; rfl
@[simp] theorem q_band : bAnd c d ρ S = (c ρ S).bind fun k ρ S => if k = true then d ρ S else .ok false ρ S := rfl
@[simp] theorem q_bor : bOr c d ρ S = (c ρ S).bind fun k ρ S => if k = true then .ok true ρ S else d ρ S := rfl
@[simp] theorem q_bnot : bNot c ρ S = (c ρ S).bind fun k ρ S => .ok (!k) ρ S := rfl
@[simp] theorem q_yes : bYes ρ S = .ok true ρ S := rfl
@[simp] theorem q_nil : aNil ρ S = .ok [] ρ S := rfl
@[simp] theorem q_cons : aCons fa fr ρ S = (fa ρ S).bind fun b ρ S => (fr ρ S).bind fun bs ρ S => .ok (b :: bs) ρ S := rfl
@[simp] theorem q_call {F : FD} : fCall F fr ρ S = (fr ρ S).bind fun bs ρ S => match argsB bs with
  | none => .bad
  | some cs => match F cs S with
    | none => .bad
    | some (b, S') => if (b.back && (!(bs.any Bd.lent) || b.plain)) = true then .ok b ρ S' else .bad := rfl
@[simp] theorem q_lc {vs : List Nat} : fLc vs s fi c f ρ S = (fi ρ S).bind fun p ρ S => (lcS vs s c f p.2 [] ρ S).bind fun acc ρ S => .ok (.lst acc) (wE ρ vs) S := rfl
@[simp] theorem q_sl {lo hi : SO2} : fSl fa lo hi ρ S = (fa ρ S).bind fun a ρ S => (lo ρ S).bind fun l ρ S => (hi ρ S).bind fun u ρ S => R.of (slB a l u) ρ S := rfl
@[simp] theorem q_onone : oNone ρ S = .ok none ρ S := rfl
@[simp] theorem q_osome : oSome f ρ S = (f ρ S).bind fun b ρ S => match toD b with
  | some (.int i) => .ok (some i) ρ S
  | _ => .bad := by unfold oSome; rfl
@[simp] theorem q_fiseq : fiSeq f ρ S = (f ρ S).bind fun b ρ S => R.of (seqI b) ρ S := rfl
@[simp] theorem q_fiar {o : List Bd → Option (Bool × List PyData)} : fiAr o fr ρ S = (fr ρ S).bind fun bs ρ S => R.of (o bs) ρ S := rfl
@[simp] theorem q_o1 {h : Bd → Option Bd} : o1 h [x] = h x := rfl
@[simp] theorem q_o2 {h : Bd → Bd → Option Bd} : o2 h [x, y] = h x y := rfl
@[simp] theorem q_sname : sName i b ρ = (stB b).map fun c => ρ.set i (some c) := rfl
@[simp] theorem q_snil : sNil [] ρ = some ρ := rfl
@[simp] theorem q_scons : sCons s r (b :: bs) ρ = (s b ρ).bind fun ρ => r bs ρ := rfl
@[simp] theorem q_stup : sTup n r (.imm (.tuple ds)) ρ = if ds.length = n then r (ds.map Bd.imm) ρ else none := rfl
@[simp] theorem q_forn : forS s g [] ρ S = .ok .nx ρ S := rfl
@[simp] theorem q_seqL : seqI (.lst ds) = some (true, ds) := rfl
@[simp] theorem q_seqB : seqI (.bor ds) = some (false, ds) := rfl
@[simp] theorem q_seqIL : seqI (.imm (.list ds)) = some (true, ds) := rfl
@[simp] theorem q_seqIT : seqI (.imm (.tuple ds)) = some (true, ds) := rfl
@[simp] theorem q_own : b.own = match b with
  | .lst _ => true
  | .dk _ => true
  | .dt _ => true
  | _ => false := by cases b <;> rfl
@[simp] theorem q_isbor : b.isBor = match b with
  | .bor _ => true
  | _ => false := by cases b <;> rfl
@[simp] theorem q_st : stB b = match b with
  | .bor _ => none
  | b => some b := by cases b <;> rfl
@[simp] theorem q_arg : b.arg = match b with
  | .imm d => some (.imm d)
  | .bor ds => some (.imm (.list ds))
  | .lst ds => some (.imm (.list ds))
  | .src => some .src
  | .ref a => some (.ref a)
  | .wr d => some (.wr d)
  | .dk _ => none
  | .dt _ => none := by cases b <;> rfl
@[simp] theorem q_args0 : argsB [] = some [] := rfl
@[simp] theorem q_args1 : argsB (b :: bs) = match b.arg, argsB bs with
    | some c, some cs => some (c :: cs)
    | _, _ => none := rfl
@[simp] theorem q_back : b.back = match b with
  | .dk _ => false
  | .dt _ => false
  | .bor _ => false
  | _ => true := by cases b <;> rfl
@[simp] theorem q_lent : b.lent = match b with
  | .bor _ => true
  | .lst _ => true
  | _ => false := by cases b <;> rfl
@[simp] theorem q_plain : b.plain = match b with
  | .imm d => noL d
  | .lst ds => noLs ds
  | .dk _ => false
  | .dt _ => false
  | .bor _ => false
  | _ => true := by cases b <;> rfl
@[simp] theorem q_toD : toD b = match b with
  | .imm d => some d
  | .bor ds => some (.list ds)
  | .lst ds => some (.list ds)
  | .wr d => some d
  | _ => none := by cases b <;> rfl
@[simp] theorem q_toL : toL b = match b with
  | .imm (.list ds) => some ds
  | .bor ds => some ds
  | .lst ds => some ds
  | _ => none := by unfold toL; rfl
@[simp] theorem q_toF : toF b = match b with
  | .imm d => some d
  | .lst ds => some (.list ds)
  | _ => none := by unfold toF; rfl
@[simp] theorem q_toFs0 : toFs [] = some [] := rfl
@[simp] theorem q_toFs1 : toFs (b :: bs) = match toF b, toFs bs with
  | some d, some ds => some (d :: ds)
  | _, _ => none := rfl
@[simp] theorem q_tupB : tupB bs = match toFs bs with
  | some ds => if ds.length ≤ 1000 then some (.imm (.tuple ds)) else none
  | none => none := by unfold tupB; rfl
@[simp] theorem q_lstB : lstB bs = match toFs bs with
  | some ds => if ds.length ≤ 1000 then some (.lst ds) else none
  | none => none := by unfold lstB; rfl
@[simp] theorem q_lenT : lenB (.imm (.tuple ds)) = some (.imm (.int ds.length)) := rfl
@[simp] theorem q_lenIL : lenB (.imm (.list ds)) = some (.imm (.int ds.length)) := rfl
@[simp] theorem q_lenL : lenB (.lst ds) = some (.imm (.int ds.length)) := rfl
@[simp] theorem q_lenB : lenB (.bor ds) = some (.imm (.int ds.length)) := rfl
@[simp] theorem q_ixT {i : Int} : ixB (.imm (.tuple ds)) (.imm (.int i)) = (atI ds i).map Bd.imm := rfl
@[simp] theorem q_ixIL {i : Int} : ixB (.imm (.list ds)) (.imm (.int i)) = (atI ds i).map Bd.imm := rfl
@[simp] theorem q_ixL {i : Int} : ixB (.lst ds) (.imm (.int i)) = (atI ds i).map Bd.imm := rfl
@[simp] theorem q_ixB {i : Int} : ixB (.bor ds) (.imm (.int i)) = (atI ds i).map Bd.imm := rfl
@[simp] theorem q_sub {i j : Int} : subB (.imm (.int i)) (.imm (.int j)) = some (.imm (.int (i - j))) := rfl
@[simp] theorem q_lt {i j : Int} : ltB (.imm (.int i)) (.imm (.int j)) = some (.imm (.bool (decide (i < j)))) := rfl
@[simp] theorem q_le {i j : Int} : leB (.imm (.int i)) (.imm (.int j)) = some (.imm (.bool (decide (i ≤ j)))) := rfl
@[simp] theorem q_gt {i j : Int} : gtB (.imm (.int i)) (.imm (.int j)) = some (.imm (.bool (decide (j < i)))) := rfl
@[simp] theorem q_ge {i j : Int} : geB (.imm (.int i)) (.imm (.int j)) = some (.imm (.bool (decide (j ≤ i)))) := rfl
@[simp] theorem q_add {i j : Int} : addB (.imm (.int i)) (.imm (.int j)) = some (.imm (.int (i + j))) := rfl
@[simp] theorem q_isn {neg : Bool} {x : Bd} : isB neg x (.imm .none) = some (.imm (.bool (if neg then !isNone x else isNone x))) := by unfold isB; cases neg <;> rfl
@[simp] theorem q_isnone {d : PyData} : isNone (.imm d) = match d with
  | .none => true
  | _ => false := by cases d <;> rfl
@[simp] theorem q_tupOf : tupleB (.lst ds) = some (.imm (.tuple ds)) := rfl
@[simp] theorem q_tupOfB : tupleB (.bor ds) = some (.imm (.tuple ds)) := rfl
@[simp] theorem q_neg {i : Int} : negB (.imm (.int i)) = some (.imm (.int (-i))) := rfl
@[simp] theorem q_int {k : Bool} : intB (.imm (.bool k)) = some (.imm (.int (if k then 1 else 0))) := rfl
@[simp] theorem q_eqS {neg : Bool} {u v : Str} : eqB neg (.imm (.str u)) (.imm (.str v)) = some (.imm (.bool (if neg then !decide (u = v) else decide (u = v)))) := rfl
@[simp] theorem q_eqI {neg : Bool} {u v : Int} : eqB neg (.imm (.int u)) (.imm (.int v)) = some (.imm (.bool (if neg then !decide (u = v) else decide (u = v)))) := rfl
theorem forS_cons {d : PyData} : forS s g (d :: ds) ρ S = match s (.imm d) ρ with
    | none => .bad
    | some ρ1 => match g ρ1 S with
      | .bad => .bad
      | .ok .nx ρ2 S2 => forS s g ds ρ2 S2
      | .ok .ct ρ2 S2 => forS s g ds ρ2 S2
      | .ok .bk ρ2 S2 => .ok .nx ρ2 S2
      | .ok (.rt b) ρ2 S2 => .ok (.rt b) ρ2 S2 := rfl
/-- a for with an invariant, whose body always goes on -/
theorem forS_inv (J : Nat → En → Prop) : ∀ {ds : List PyData} {k : Nat} {ρ : En} {S : Src}, J k ρ →
    (∀ (i : Nat) (d : PyData) (ρ : En) (S : Src), ds[i]? = some d → J (k + i) ρ → ∃ ρ1 ρ2 S2, s (.imm d) ρ = some ρ1 ∧ (g ρ1 S = .ok .nx ρ2 S2 ∨ g ρ1 S = .ok .ct ρ2 S2) ∧ J (k + i + 1) ρ2) → ∃ ρ' S', forS s g ds ρ S = .ok .nx ρ' S' ∧ J (k + ds.length) ρ'
  | [], k, ρ, S, h0, _ => ⟨ρ, S, rfl, h0⟩
  | d :: ds, k, ρ, S, h0, h => by
    obtain ⟨ρ1, ρ2, S2, e1, e2, j⟩ := h 0 d ρ S rfl h0
    obtain ⟨ρ', S', e3, j3⟩ := forS_inv J (ds := ds) (k := k + 1) (ρ := ρ2) (S := S2) j fun i d ρ S e j => by
      have := h (i + 1) d ρ S (by simpa using e) (by rw [show k + (i + 1) = k + 1 + i by omega]; exact j)
      rw [show k + (i + 1) + 1 = k + 1 + i + 1 by omega] at this
      exact this
    refine ⟨ρ', S', ?_, by rw [List.length_cons, show k + (ds.length + 1) = k + 1 + ds.length by omega]; exact j3⟩
    rw [forS_cons, e1]
    rcases e2 with e2 | e2 <;> simp only [e2] <;> exact e3
/-- a comprehension with an invariant -/
theorem lcS_inv {vs : List Nat} {fe : SE} (J : Nat → List PyData → En → Prop) : ∀ {ds acc : List PyData} {k : Nat} {ρ : En} {S : Src}, J k acc ρ →
    (∀ (i : Nat) (d : PyData) (acc : List PyData) (ρ : En) (S : Src), ds[i]? = some d → J (k + i) acc ρ → ∃ ρ1 ρ2 S2 k2, s (.imm d) (wE ρ vs) = some ρ1 ∧ c ρ1 S = .ok k2 ρ2 S2 ∧
      ((k2 = true ∧ ∃ b e ρ3 S3, fe ρ2 S2 = .ok b ρ3 S3 ∧ toF b = some e ∧ nbE ρ3 = true ∧ acc.length < 1000000 ∧ J (k + i + 1) (acc ++ [e]) ρ3) ∨ (k2 = false ∧ J (k + i + 1) acc ρ2))) →
    ∃ acc' ρ' S', lcS vs s c fe ds acc ρ S = .ok acc' ρ' S' ∧ J (k + ds.length) acc' ρ'
  | [], acc, k, ρ, S, h0, _ => ⟨acc, ρ, S, rfl, h0⟩
  | d :: ds, acc, k, ρ, S, h0, h => by
    have go : ∀ (acc2 : List PyData) (ρ2 : En) (S2 : Src), J (k + 1) acc2 ρ2 → ∃ acc' ρ' S', lcS vs s c fe ds acc2 ρ2 S2 = .ok acc' ρ' S' ∧ J (k + (d :: ds).length) acc' ρ' := fun acc2 ρ2 S2 j => by
      obtain ⟨a', ρ', S', e3, j3⟩ := lcS_inv J (ds := ds) (acc := acc2) (k := k + 1) (ρ := ρ2) (S := S2) j fun i d acc ρ S e j => by
        have := h (i + 1) d acc ρ S (by simpa using e) (by rw [show k + (i + 1) = k + 1 + i by omega]; exact j)
        rw [show k + (i + 1) + 1 = k + 1 + i + 1 by omega] at this
        exact this
      exact ⟨a', ρ', S', e3, by rw [List.length_cons, show k + (ds.length + 1) = k + 1 + ds.length by omega]; exact j3⟩
    obtain ⟨ρ1, ρ2, S2, k2, e1, e2, e3⟩ := h 0 d acc ρ S rfl h0
    unfold lcS
    rw [e1]
    simp only
    rw [e2, rb_ok]
    rcases e3 with ⟨rfl, b, e, ρ3, S3, e4, e5, e6, e7, j⟩ | ⟨rfl, j⟩
    · rw [if_pos rfl, e4, rb_ok, e5]
      simp only
      rw [if_pos (by rw [e6, decide_eq_true e7]; rfl)]
      exact go _ _ _ j
    · rw [if_neg (by simp)]
      exact go _ _ _ j
end
end DL
set_option maxRecDepth 100000
set_option maxHeartbeats 2000000
/-! DN: the readings' ends, step by step: what is to be shown of a part. -/
namespace DL
open PySem PySem.Spec PyProof.Rows L2
section
variable {α β : Type} {ρ ρ' : En} {S : Src} {g1 g2 g : SS} {c d : SB} {f fa fb fx : SE} {fr : SA} {fi : SI} {s : Bd → En → Option En} {r : List Bd → En → Option En} {i n : Nat} {ds : List PyData} {x y z b b' : Bd} {bs : List Bd}
  {P : Fl → En → Src → Prop} {Q : Bd → En → Src → Prop} {W : List Bd → En → Src → Prop} {B : Bool → En → Src → Prop} {I : Bool × List PyData → En → Src → Prop} {O : Option Int → En → Src → Prop}
/-- behind a statement -/
def Nx (P : Fl → En → Src → Prop) (N : En → Src → Prop) : Fl → En → Src → Prop := fun fl ρ S => match fl with
  | .nx => N ρ S
  | fl => P fl ρ S
theorem p_seq (h : (g1 ρ S).Post (Nx P fun ρ S => (g2 ρ S).Post P)) : (gSeq g1 g2 ρ S).Post P := by
  unfold gSeq
  rw [R.post_bind]
  refine h.imp fun fl ρ S h => ?_
  cases fl <;> exact h
theorem nx_nx {N : En → Src → Prop} (h : N ρ S) : Nx P N .nx ρ S := h
theorem nx_rt {N : En → Src → Prop} (h : P (.rt b) ρ S) : Nx P N (.rt b) ρ S := h
theorem nx_bk {N : En → Src → Prop} (h : P .bk ρ S) : Nx P N .bk ρ S := h
theorem nx_ct {N : En → Src → Prop} (h : P .ct ρ S) : Nx P N .ct ρ S := h
/-- a test's end -/
def Bh (N M : En → Src → Prop) : Bool → En → Src → Prop := fun k ρ S => if k = true then N ρ S else M ρ S
theorem bh_t {N M : En → Src → Prop} (h : N ρ S) : Bh N M true ρ S := h
theorem bh_f {N M : En → Src → Prop} (h : M ρ S) : Bh N M false ρ S := h
theorem bh_d {N M : En → Src → Prop} {p : Prop} [Decidable p] (h : p → N ρ S) (h' : ¬ p → M ρ S) : Bh N M (decide p) ρ S := by
  by_cases q : p
  · rw [decide_eq_true q]; exact h q
  · rw [decide_eq_false q]; exact h' q
theorem bh_n {N M : En → Src → Prop} {k : Bool} (h : Bh M N k ρ S) : Bh N M (!k) ρ S := by
  cases k <;> exact h
theorem p_if (h : (c ρ S).Post (Bh (fun ρ S => (g1 ρ S).Post P) fun ρ S => (g2 ρ S).Post P)) : (gIf c g1 g2 ρ S).Post P := by
  unfold gIf
  rw [R.post_bind]
  refine h.imp fun k ρ S h => ?_
  cases k <;> exact h
theorem p_asg (h : (f ρ S).Post fun b ρ S => ∃ ρ', s b ρ = some ρ' ∧ P .nx ρ' S) : (gAsg s f ρ S).Post P := by
  unfold gAsg
  rw [R.post_bind]
  refine h.imp fun b ρ S ⟨ρ', e, h⟩ => ?_
  rw [e]
  exact h
theorem p_par (h : (fr ρ S).Post fun b ρ S => ∃ ρ', r b ρ = some ρ' ∧ P .nx ρ' S) : (gPar r fr ρ S).Post P := by
  unfold gPar
  rw [R.post_bind]
  refine h.imp fun b ρ S ⟨ρ', e, h⟩ => ?_
  rw [e]
  exact h
theorem p_parN (h : (fr ρ S).Post fun b ρ S => b.length = n ∧ ∃ ρ', r b ρ = some ρ' ∧ P .nx ρ' S) : (gParN n r fr ρ S).Post P := by
  unfold gParN
  rw [R.post_bind]
  refine h.imp fun b ρ S ⟨e1, ρ', e, h⟩ => ?_
  rw [if_pos e1, e]
  exact h
theorem p_ret (h : (f ρ S).Post fun b ρ S => P (.rt b) ρ S) : (gRet f ρ S).Post P := by
  unfold gRet
  rw [R.post_bind]
  exact h
theorem p_retN (h : P (.rt (.imm .none)) ρ S) : (gRetN ρ S).Post P := h
theorem p_next (h : P .nx ρ S) : (gNext ρ S).Post P := h
theorem p_brk (h : P .bk ρ S) : (gBrk ρ S).Post P := h
theorem p_cnt (h : P .ct ρ S) : (gCnt ρ S).Post P := h
theorem p_drop (h : (f ρ S).Post fun _ ρ S => P .nx ρ S) : (gDrop f ρ S).Post P := by
  unfold gDrop
  rw [R.post_bind]
  exact h
theorem p_append (ho : isOwn i ρ = true) (h : (f ρ S).Post fun b ρ S => ∃ ds d, ρ[i]? = some (some (.lst ds)) ∧ toF b = some d ∧ ds.length < 1000000 ∧ nbE ρ = true ∧ P .nx (ρ.set i (some (.lst (ds ++ [d])))) S) : (gAppend i f ρ S).Post P := by
  unfold gAppend
  rw [if_pos ho, R.post_bind]
  refine h.imp fun b ρ S ⟨ds, d, e1, e2, e3, e4, h⟩ => ?_
  unfold ownSet
  rw [e1]
  simp only [e2, Option.bind_some, if_pos e3, if_pos e4]
  exact h
theorem p_lend {F : List PyData → PyData → Option (List PyData)} (ho : isOwn i ρ = true) (h : (f ρ S).Post fun b ρ S => ∃ ds d ds', ρ[i]? = some (some (.lst ds)) ∧ toF b = some d ∧ F ds d = some ds' ∧ nbE ρ = true ∧ P .nx (ρ.set i (some (.lst ds'))) S) : (gLend F i f ρ S).Post P := by
  unfold gLend
  rw [if_pos ho, R.post_bind]
  refine h.imp fun b ρ S ⟨ds, d, ds', e1, e2, e3, e4, h⟩ => ?_
  unfold ownSet
  rw [e1]
  simp only [e2, Option.bind_some, e3, if_pos e4]
  exact h
theorem p_setI {fk : SE} (h : (f ρ S).Post fun b ρ S => isOwn i ρ = true ∧ (fk ρ S).Post fun k ρ S => ∃ ds d j m, k = .imm (.int j) ∧ ρ[i]? = some (some (.lst ds)) ∧ toF b = some d ∧ ixN ds.length j = some m ∧ nbE ρ = true ∧ P .nx (ρ.set i (some (.lst (ds.set m d)))) S) : (gSetI i f fk ρ S).Post P := by
  unfold gSetI
  rw [R.post_bind]
  refine h.imp fun b ρ S ⟨ho, h⟩ => ?_
  rw [if_pos ho, R.post_bind]
  refine h.imp fun k ρ S ⟨ds, d, j, m, e0, e1, e2, e3, e4, h⟩ => ?_
  subst e0
  unfold ownSet
  simp only [e1, e2, Option.bind_some, e3, Option.map_some, if_pos e4]
  exact h
theorem p_dput {fk : SE} (h : (f ρ S).Post fun v ρ S => isDct i ρ = true ∧ (fk ρ S).Post fun k ρ S => ∃ c, dPut i ρ k v = some c ∧ nbE ρ = true ∧ P .nx (ρ.set i (some c)) S) : (gDput i fk f ρ S).Post P := by
  unfold gDput
  rw [R.post_bind]
  refine h.imp fun b ρ S ⟨ho, h⟩ => ?_
  rw [if_pos ho, R.post_bind]
  refine h.imp fun k ρ S ⟨c, e, e2, h⟩ => ?_
  simp only [e, if_pos e2]
  exact h
theorem p_for (h : (fi ρ S).Post fun p ρ S => p.1 = true ∧ (forS s g p.2 ρ S).Post P) : (gFor s fi g ρ S).Post P := by
  unfold gFor
  rw [R.post_bind]
  refine h.imp fun p ρ S ⟨e, h⟩ => ?_
  rw [if_pos e]
  exact h
/-- a for with an invariant -/
theorem p_forS (J : Nat → En → Prop) (h0 : J 0 ρ) (hs : ∀ (i : Nat) (d : PyData) (ρ : En) (S : Src), ds[i]? = some d → J i ρ → ∃ ρ1, s (.imm d) ρ = some ρ1 ∧ (g ρ1 S).Post fun fl ρ2 _ => (fl = .nx ∨ fl = .ct) ∧ J (i + 1) ρ2)
    (he : ∀ ρ' S', J ds.length ρ' → P .nx ρ' S') : (forS s g ds ρ S).Post P := by
  obtain ⟨ρ', S', e, j⟩ := forS_inv (s := s) (g := g) J (ds := ds) (k := 0) (ρ := ρ) (S := S) h0 fun i d ρ S e j => by
    rw [Nat.zero_add] at j ⊢
    obtain ⟨ρ1, e1, h⟩ := hs i d ρ S e j
    obtain ⟨fl, ρ2, S2, e2, e3, j2⟩ := h.get
    refine ⟨ρ1, ρ2, S2, e1, ?_, j2⟩
    rcases e3 with rfl | rfl
    · exact .inl e2
    · exact .inr e2
  rw [e]
  rw [Nat.zero_add] at j
  exact he ρ' S' j
/-- a for that may end by a return -/
theorem p_forR (J : Nat → En → Prop) (h0 : J 0 ρ) (hs : ∀ (i : Nat) (d : PyData) (ρ : En) (S : Src), ds[i]? = some d → J i ρ → ∃ ρ1, s (.imm d) ρ = some ρ1 ∧ (g ρ1 S).Post fun fl ρ2 S2 => match fl with
      | .nx => J (i + 1) ρ2
      | .ct => J (i + 1) ρ2
      | .bk => P .nx ρ2 S2
      | .rt b => P (.rt b) ρ2 S2)
    (he : ∀ ρ' S', J ds.length ρ' → P .nx ρ' S') : (forS s g ds ρ S).Post P := by
  suffices go : ∀ (l : List PyData) (k : Nat) (ρ : En) (S : Src), (∀ i, l[i]? = ds[k + i]?) → k + l.length = ds.length → J k ρ → (forS s g l ρ S).Post P from go ds 0 ρ S (fun i => by rw [Nat.zero_add]) (by omega) h0
  intro l
  induction l with
  | nil => intro k ρ S _ hk j; exact he ρ S (by rw [← hk]; exact j)
  | cons d l ih =>
    intro k ρ S hl hk j
    obtain ⟨ρ1, e1, h⟩ := hs k d ρ S (by have := hl 0; simpa using this.symm) j
    obtain ⟨fl, ρ2, S2, e2, e3⟩ := h.get
    rw [forS_cons, e1]
    simp only [e2]
    have next : J (k + 1) ρ2 → (forS s g l ρ2 S2).Post P := fun j => ih (k + 1) ρ2 S2 (fun i => by have := hl (i + 1); rw [show k + 1 + i = k + (i + 1) by omega, ← this]; rfl) (by rw [List.length_cons] at hk; omega) j
    cases fl with
    | nx => exact next e3
    | ct => exact next e3
    | bk => exact e3
    | rt b => exact e3
/-- a while with an invariant and a measure -/
theorem p_while (J : En → Prop) (m : Nat → En → Prop) {k : Nat} (hk : k < FU) (h0 : m k ρ) (hs : ∀ (k : Nat) (ρ : En) (S : Src), m k ρ → (c ρ S).Post fun t ρ1 S1 => if t = true then (g ρ1 S1).Post (fun fl ρ2 S2 => match fl with
      | .nx => ∃ j, j < k ∧ m j ρ2
      | .ct => ∃ j, j < k ∧ m j ρ2
      | .bk => P .nx ρ2 S2
      | .rt b => P (.rt b) ρ2 S2) else P .nx ρ1 S1) : (gWhile c g ρ S).Post P := by
  suffices go : ∀ (n k : Nat) (ρ : En) (S : Src), k < n → m k ρ → (whS c g n ρ S).Post P from go FU k ρ S hk h0
  intro n
  induction n with
  | zero => intro k ρ S h; omega
  | succ n ih =>
    intro k ρ S hn hm
    unfold whS
    rw [R.post_bind]
    refine (hs k ρ S hm).imp fun t ρ1 S1 h => ?_
    cases t with
    | false => exact h
    | true =>
      obtain ⟨fl, ρ2, S2, e2, e3⟩ := R.Post.get h
      simp only [if_true, e2]
      cases fl with
      | nx => obtain ⟨j, hj, hm2⟩ := e3; exact ih j ρ2 S2 (by omega) hm2
      | ct => obtain ⟨j, hj, hm2⟩ := e3; exact ih j ρ2 S2 (by omega) hm2
      | bk => exact e3
      | rt b => exact e3
/-! ### expressions -/
def vB : Bd → Option Bd
  | .lst ds => some (.bor ds)
  | .dk _ => none
  | .dt _ => none
  | b => some b
theorem p_var (e : ρ[i]? = some (some b)) (e2 : vB b = some b') (h : Q b' ρ S) : (fVar i ρ S).Post Q := by
  unfold fVar
  rw [e]
  cases b <;> first | (cases e2; done) | (cases e2; exact h)
def fzB (i : Nat) (ρ : En) : Bd → Option (Bd × En)
  | .lst ds => some (.imm (.list ds), ρ.set i (some (.imm (.list ds))))
  | .dk _ => none
  | .dt _ => none
  | b => some (b, ρ)
theorem p_frz {p : Bd × En} (e : ρ[i]? = some (some b)) (e2 : fzB i ρ b = some p) (h : Q p.1 p.2 S) : (fFrz i ρ S).Post Q := by
  unfold fFrz
  rw [e]
  cases b <;> first | (cases e2; done) | (cases e2; exact h)
theorem p_mov (e : ρ[i]? = some (some b)) (h : Q b (ρ.set i none) S) : (fMov i ρ S).Post Q := by
  unfold fMov
  rw [e]
  exact h
theorem p_c {d : PyData} (h : Q (.imm d) ρ S) : (fC d ρ S).Post Q := h
theorem p_op {o : Bd → Bd → Option Bd} (h : (fa ρ S).Post fun x ρ S => (fb ρ S).Post fun y ρ S => ∃ b, o x y = some b ∧ Q b ρ S) : (fOp o fa fb ρ S).Post Q := by
  unfold fOp
  rw [R.post_bind]
  refine h.imp fun x ρ S h => ?_
  rw [R.post_bind]
  exact h.imp fun y ρ S h => R.post_of.mpr h
theorem p_un {o : Bd → Option Bd} (h : (fa ρ S).Post fun x ρ S => ∃ b, o x = some b ∧ Q b ρ S) : (fUn o fa ρ S).Post Q := by
  unfold fUn
  rw [R.post_bind]
  exact h.imp fun x ρ S h => R.post_of.mpr h
theorem p_ar {o : List Bd → Option Bd} (h : (fr ρ S).Post fun bs ρ S => ∃ b, o bs = some b ∧ Q b ρ S) : (fAr o fr ρ S).Post Q := by
  unfold fAr
  rw [R.post_bind]
  exact h.imp fun x ρ S h => R.post_of.mpr h
theorem p_me {o : Bd → List Bd → Option Bd} (h : (fx ρ S).Post fun x ρ S => (fr ρ S).Post fun bs ρ S => ∃ b, o x bs = some b ∧ Q b ρ S) : (fMe o fx fr ρ S).Post Q := by
  unfold fMe
  rw [R.post_bind]
  refine h.imp fun x ρ S h => ?_
  rw [R.post_bind]
  exact h.imp fun y ρ S h => R.post_of.mpr h
theorem p_ife (h : (c ρ S).Post (Bh (fun ρ S => (fa ρ S).Post Q) fun ρ S => (fb ρ S).Post Q)) : (fIf c fa fb ρ S).Post Q := by
  unfold fIf
  rw [R.post_bind]
  refine h.imp fun k ρ S h => ?_
  cases k <;> exact h
theorem p_or (h : (fa ρ S).Post fun b ρ S => ∃ k, b = .imm (.bool k) ∧ Bh (fun ρ S => Q (.imm (.bool true)) ρ S) (fun ρ S => (fb ρ S).Post Q) k ρ S) : (fOr fa fb ρ S).Post Q := by
  unfold fOr
  rw [R.post_bind]
  refine h.imp fun b ρ S ⟨k, e, h⟩ => ?_
  subst e
  cases k <;> exact h
theorem p_and (h : (fa ρ S).Post fun b ρ S => ∃ k, b = .imm (.bool k) ∧ Bh (fun ρ S => (fb ρ S).Post Q) (fun ρ S => Q (.imm (.bool false)) ρ S) k ρ S) : (fAnd fa fb ρ S).Post Q := by
  unfold fAnd
  rw [R.post_bind]
  refine h.imp fun b ρ S ⟨k, e, h⟩ => ?_
  subst e
  cases k <;> exact h
theorem p_not (h : (fa ρ S).Post fun b ρ S => ∃ k, b = .imm (.bool k) ∧ Q (.imm (.bool !k)) ρ S) : (fNot fa ρ S).Post Q := by
  unfold fNot
  rw [R.post_bind]
  refine h.imp fun b ρ S ⟨k, e, h⟩ => ?_
  subst e
  exact h
theorem p_nil (h : W [] ρ S) : (aNil ρ S).Post W := h
theorem p_cons (h : (fa ρ S).Post fun b ρ S => (fr ρ S).Post fun bs ρ S => W (b :: bs) ρ S) : (aCons fa fr ρ S).Post W := by
  unfold aCons
  rw [R.post_bind]
  refine h.imp fun x ρ S h => ?_
  rw [R.post_bind]
  exact h
/-- a call's end -/
structure CallP (F : FD) (bs : List Bd) (S : Src) (Q : Bd → Src → Prop) : Prop where
  ex : ∃ cs b S', argsB bs = some cs ∧ F cs S = some (b, S') ∧ (b.back && (!(bs.any Bd.lent) || b.plain)) = true ∧ Q b S'
theorem p_call {F : FD} (h : (fr ρ S).Post fun bs ρ S => CallP F bs S fun b S => Q b ρ S) : (fCall F fr ρ S).Post Q := by
  unfold fCall
  rw [R.post_bind]
  refine h.imp fun bs ρ S ⟨cs, b, S', e1, e2, e3, h⟩ => ?_
  rw [e1]
  simp only [e2]
  rw [if_pos e3]
  exact h
theorem callP {F : FD} {cs : List Bd} {Q : Bd → Src → Prop} {S' : Src} (e1 : argsB bs = some cs) (e2 : F cs S = some (b, S')) (e3 : (b.back && (!(bs.any Bd.lent) || b.plain)) = true) (h : Q b S') : CallP F bs S Q := ⟨_, _, _, e1, e2, e3, h⟩
theorem p_lc {vs : List Nat} (h : (fi ρ S).Post fun p ρ S => (lcS vs s c f p.2 [] ρ S).Post fun acc ρ S => Q (.lst acc) (wE ρ vs) S) : (fLc vs s fi c f ρ S).Post Q := by
  unfold fLc
  rw [R.post_bind]
  refine h.imp fun x ρ S h => ?_
  rw [R.post_bind]
  exact h
/-- a comprehension with an invariant -/
theorem p_lcS {vs : List Nat} {acc : List PyData} {G : List PyData → En → Src → Prop} (J : Nat → List PyData → En → Prop) (h0 : J 0 acc ρ)
    (hs : ∀ (i : Nat) (d : PyData) (acc : List PyData) (ρ : En) (S : Src), ds[i]? = some d → J i acc ρ → ∃ ρ1, s (.imm d) (wE ρ vs) = some ρ1 ∧ (c ρ1 S).Post (Bh (fun ρ S => (f ρ S).Post fun b ρ3 _ => ∃ e, toF b = some e ∧ nbE ρ3 = true ∧ acc.length < 1000000 ∧ J (i + 1) (acc ++ [e]) ρ3) fun ρ2 _ => J (i + 1) acc ρ2))
    (he : ∀ acc' ρ' S', J ds.length acc' ρ' → G acc' ρ' S') : (lcS vs s c f ds acc ρ S).Post G := by
  obtain ⟨a', ρ', S', e, j⟩ := lcS_inv (s := s) (c := c) (fe := f) (vs := vs) J (ds := ds) (acc := acc) (k := 0) (ρ := ρ) (S := S) h0 fun i d acc ρ S e j => by
    rw [Nat.zero_add] at j ⊢
    obtain ⟨ρ1, e1, h⟩ := hs i d acc ρ S e j
    obtain ⟨k, ρ2, S2, e2, h2⟩ := h.get
    refine ⟨ρ1, ρ2, S2, k, e1, e2, ?_⟩
    cases k with
    | true =>
      obtain ⟨b, ρ3, S3, e3, e, e4, e5, e6, j⟩ := R.Post.get h2
      exact .inl ⟨rfl, b, e, ρ3, S3, e3, e4, e5, e6, j⟩
    | false => exact .inr ⟨rfl, h2⟩
  rw [e]
  rw [Nat.zero_add] at j
  exact he a' ρ' S' j
theorem p_sl {lo hi : SO2} (h : (fa ρ S).Post fun a ρ S => (lo ρ S).Post fun l ρ S => (hi ρ S).Post fun u ρ S => ∃ b, slB a l u = some b ∧ Q b ρ S) : (fSl fa lo hi ρ S).Post Q := by
  unfold fSl
  rw [R.post_bind]
  refine h.imp fun x ρ S h => ?_
  rw [R.post_bind]
  refine h.imp fun x ρ S h => ?_
  rw [R.post_bind]
  exact h.imp fun y ρ S h => R.post_of.mpr h
theorem p_on (h : O none ρ S) : (oNone ρ S).Post O := h
theorem p_os (h : (f ρ S).Post fun b ρ S => ∃ i, toD b = some (.int i) ∧ O (some i) ρ S) : (oSome f ρ S).Post O := by
  unfold oSome
  rw [R.post_bind]
  refine h.imp fun b ρ S ⟨i, e, h⟩ => ?_
  rw [e]
  exact h
theorem p_fis (h : (f ρ S).Post fun b ρ S => ∃ p, seqI b = some p ∧ I p ρ S) : (fiSeq f ρ S).Post I := by
  unfold fiSeq
  rw [R.post_bind]
  exact h.imp fun y ρ S h => R.post_of.mpr h
theorem p_fia {o : List Bd → Option (Bool × List PyData)} (h : (fr ρ S).Post fun bs ρ S => ∃ p, o bs = some p ∧ I p ρ S) : (fiAr o fr ρ S).Post I := by
  unfold fiAr
  rw [R.post_bind]
  exact h.imp fun y ρ S h => R.post_of.mpr h
structure RgP (i j : Int) (N : Prop) : Prop where
  ok : -1000000 ≤ i ∧ i ≤ 1000000 ∧ -1000000 ≤ j ∧ j ≤ 1000000
  nx : N
theorem p_rng1 (h : (fr ρ S).Post fun bs ρ S => ∃ j, bs = [.imm (.int j)] ∧ RgP 0 j (I (true, rangeD 0 j.toNat) ρ S)) : (fiAr rng1I fr ρ S).Post I := by
  refine p_fia (h.imp fun bs ρ S h => ?_)
  obtain ⟨j, rfl, ⟨hj, h⟩⟩ := h
  refine ⟨_, ?_, h⟩
  show (if rOk 0 j = true then some (true, rangeD 0 j.toNat) else none) = _
  rw [if_pos (by unfold rOk; rw [decide_eq_true_eq]; omega)]
theorem p_rng2 (h : (fr ρ S).Post fun bs ρ S => ∃ i j, bs = [.imm (.int i), .imm (.int j)] ∧ RgP i j (I (true, rangeD i (j - i).toNat) ρ S)) : (fiAr rng2I fr ρ S).Post I := by
  refine p_fia (h.imp fun bs ρ S h => ?_)
  obtain ⟨i, j, rfl, ⟨hj, h⟩⟩ := h
  refine ⟨_, ?_, h⟩
  show (if rOk i j = true then some (true, rangeD i (j - i).toNat) else none) = _
  rw [if_pos (by unfold rOk; rw [decide_eq_true_eq]; omega)]
theorem p_din {neg : Bool} {fk : SE} (h : (fk ρ S).Post fun k ρ S => ∃ o, dGet i ρ k = some o ∧ Q (.imm (.bool (if neg then !o.isSome else o.isSome))) ρ S) : (fDin neg i fk ρ S).Post Q := by
  unfold fDin
  rw [R.post_bind]
  refine h.imp fun k ρ S ⟨o, e, h⟩ => ?_
  rw [e]
  exact h
theorem p_newT (h : Q (.dt []) ρ S) : (fNewT ρ S).Post Q := h
theorem p_newK (h : Q (.dk []) ρ S) : (fNewK ρ S).Post Q := h
/-! ### tests -/
theorem p_test (h : (f ρ S).Post fun b ρ S => ∃ k, b = .imm (.bool k) ∧ B k ρ S) : (fTest f ρ S).Post B := by
  unfold fTest
  rw [R.post_bind]
  refine h.imp fun b ρ S ⟨k, e, h⟩ => ?_
  subst e
  exact h
theorem p_band (h : (c ρ S).Post (Bh (fun ρ S => (d ρ S).Post B) fun ρ S => B false ρ S)) : (bAnd c d ρ S).Post B := by
  unfold bAnd
  rw [R.post_bind]
  refine h.imp fun k ρ S h => ?_
  cases k <;> exact h
theorem p_bor (h : (c ρ S).Post (Bh (fun ρ S => B true ρ S) fun ρ S => (d ρ S).Post B)) : (bOr c d ρ S).Post B := by
  unfold bOr
  rw [R.post_bind]
  refine h.imp fun k ρ S h => ?_
  cases k <;> exact h
theorem p_bnot (h : (c ρ S).Post fun k ρ S => B (!k) ρ S) : (bNot c ρ S).Post B := by
  unfold bNot
  rw [R.post_bind]
  exact h
theorem p_yes (h : B true ρ S) : (bYes ρ S).Post B := h
/-! ### the same, for the stepping -/
def slotV (i : Nat) (ρ : En) : Option Bd := match ρ[i]? with
  | some (some b) => vB b
  | _ => none
theorem p_varE (h : ∃ b, slotV i ρ = some b ∧ Q b ρ S) : (fVar i ρ S).Post Q := by
  obtain ⟨b', e, h⟩ := h
  unfold slotV at e
  split at e
  · rename_i b e1
    exact p_var e1 e h
  · cases e
def slotF (i : Nat) (ρ : En) : Option (Bd × En) := match ρ[i]? with
  | some (some b) => fzB i ρ b
  | _ => none
theorem p_frzE (h : ∃ p, slotF i ρ = some p ∧ Q p.1 p.2 S) : (fFrz i ρ S).Post Q := by
  obtain ⟨p, e, h⟩ := h
  unfold slotF at e
  split at e
  · rename_i b e1
    exact p_frz e1 e h
  · cases e
theorem p_movE (h : ∃ b, ρ[i]? = some (some b) ∧ Q b (ρ.set i none) S) : (fMov i ρ S).Post Q := by
  obtain ⟨b, e, h⟩ := h
  exact p_mov e h
theorem p_appE (h : isOwn i ρ = true ∧ (f ρ S).Post fun b ρ S => ∃ ds d, ρ[i]? = some (some (.lst ds)) ∧ toF b = some d ∧ ds.length < 1000000 ∧ nbE ρ = true ∧ P .nx (ρ.set i (some (.lst (ds ++ [d])))) S) : (gAppend i f ρ S).Post P := p_append h.1 h.2
theorem p_lenE {F : List PyData → PyData → Option (List PyData)} (h : isOwn i ρ = true ∧ (f ρ S).Post fun b ρ S => ∃ ds d ds', ρ[i]? = some (some (.lst ds)) ∧ toF b = some d ∧ F ds d = some ds' ∧ nbE ρ = true ∧ P .nx (ρ.set i (some (.lst ds'))) S) : (gLend F i f ρ S).Post P := p_lend h.1 h.2
theorem if_id (h : (fIf c fa fb ρ S).Post Q) : (fIf c fa fb ρ S).Post Q := h
theorem op_id {o : Bd → Bd → Option Bd} (h : (fOp o fa fb ρ S).Post Q) : (fOp o fa fb ρ S).Post Q := h
theorem ex_id {γ : Sort _} {p : γ → Prop} (h : ∃ x, p x) : ∃ x, p x := h
theorem and_id {p q : Prop} (h : p ∧ q) : p ∧ q := h
theorem app_id (h : (gAppend i f ρ S).Post P) : (gAppend i f ρ S).Post P := h
theorem bh_id {N M : En → Src → Prop} {k : Bool} (h : Bh N M k ρ S) : Bh N M k ρ S := h
def rbB : Bool → Option Bool
  | true => some true
  | false => some false
theorem bh_r {N M : En → Src → Prop} {k : Bool} (h : ∃ k', rbB k = some k' ∧ Bh N M k' ρ S) : Bh N M k ρ S := by
  obtain ⟨k', e, h⟩ := h
  have : k = k' := by cases k <;> cases e <;> rfl
  exact this ▸ h
theorem bh_nt {N M : En → Src → Prop} (h : N ρ S) : Bh N M (!false) ρ S := h
theorem bh_nf {N M : En → Src → Prop} (h : M ρ S) : Bh N M (!true) ρ S := h
/-! ### a def by its reading -/
theorem run_of {m n : Nat} {bs : List Bd} {b : Bd → Prop} (hl : bs.length = m) (ho : (bs.all fun b => !b.own && !b.isBor) = true) (h : (g (bs.map some ++ List.replicate (n - m) none) S).Post fun fl ρ' S' => match fl with
    | .rt r => b r
    | .nx => b (.imm .none)
    | _ => False) : ∃ r S', runB m n g bs S = some (r, S') ∧ b r := by
  obtain ⟨fl, ρ', S', e, h⟩ := h.get
  unfold runB
  rw [if_pos (by rw [hl, ho]; simp), e]
  cases fl with
  | rt r => exact ⟨r, S', rfl, h⟩
  | nx => exact ⟨_, S', rfl, h⟩
  | bk => exact h.elim
  | ct => exact h.elim
end
end DL
set_option maxRecDepth 100000
set_option maxHeartbeats 400000
/-! DO: data that repr can show, that == can compare. -/
namespace DL
open PySem PySem.Spec PyProof.Rows L2
theorem canLayAll_of : ∀ {ds : List PyData}, (∀ d ∈ ds, PyData.canLay0 d = true) → PyData.canLayAll0 ds = true
  | [], _ => rfl
  | d :: r, h => by
    simp only [PyData.canLayAll0, Bool.and_eq_true]
    exact ⟨h d List.mem_cons_self, canLayAll_of fun x hx => h x (List.mem_cons_of_mem _ hx)⟩
theorem depthAll_of {n : Nat} : ∀ {ds : List PyData}, (∀ d ∈ ds, PyData.depth d ≤ n) → PyData.depthAll ds ≤ n
  | [], _ => Nat.zero_le _
  | d :: r, h => by
    simp only [PyData.depthAll]
    exact Nat.max_le.mpr ⟨h d List.mem_cons_self, depthAll_of fun x hx => h x (List.mem_cons_of_mem _ hx)⟩
theorem showableAll_of : ∀ {ds : List PyData}, (∀ d ∈ ds, PyData.showable d = true) → PyData.showableAll ds = true
  | [], _ => rfl
  | d :: r, h => by
    simp only [PyData.showableAll, Bool.and_eq_true]
    exact ⟨h d List.mem_cons_self, showableAll_of fun x hx => h x (List.mem_cons_of_mem _ hx)⟩
theorem noDictAll_of : ∀ {ds : List PyData}, (∀ d ∈ ds, PyData.hasDict d = false) → PyData.hasDictAll ds = false
  | [], _ => rfl
  | d :: r, h => by
    simp only [PyData.hasDictAll, Bool.or_eq_false_iff]
    exact ⟨h d List.mem_cons_self, noDictAll_of fun x hx => h x (List.mem_cons_of_mem _ hx)⟩
theorem shownAll_map : ∀ {ds : List PyData}, PyData.shownAll ds = ds.map PyData.shown
  | [] => rfl
  | d :: r => by simp only [PyData.shownAll, List.map_cons, shownAll_map]
/-- can be compared: depth at most k -/
structure Cmp (k : Nat) (d : PyData) : Prop where
  lay : PyData.canLay0 d = true
  dep : PyData.depth d ≤ k
theorem Cmp.shaped {k : Nat} {d : PyData} (h : Cmp k d) (hk : k ≤ 64) : SeqAt.shaped d = true := by
  unfold SeqAt.shaped
  rw [h.lay, decide_eq_true (Nat.le_trans h.dep hk)]
  rfl
theorem cmp_str {k : Nat} {x : Str} (h : PyData.strOk x = true) : Cmp k (.str x) := ⟨by simpa only [PyData.canLay0] using h, by simp only [PyData.depth]; omega⟩
theorem cmp_int {k : Nat} {i : Int} : Cmp k (.int i) := ⟨by simp only [PyData.canLay0], by simp only [PyData.depth]; omega⟩
theorem cmp_none {k : Nat} : Cmp k .none := ⟨by simp only [PyData.canLay0], by simp only [PyData.depth]; omega⟩
theorem cmp_bool {k : Nat} {b : Bool} : Cmp k (.bool b) := ⟨by simp only [PyData.canLay0], by simp only [PyData.depth]; omega⟩
theorem cmp_tup {k : Nat} {ds : List PyData} (h : ∀ d ∈ ds, Cmp k d) : Cmp (k + 1) (.tuple ds) := ⟨by simp only [PyData.canLay0]; exact canLayAll_of fun d hd => (h d hd).lay, by simp only [PyData.depth]; have := depthAll_of fun d hd => (h d hd).dep; omega⟩
theorem cmp_lst {k : Nat} {ds : List PyData} (h : ∀ d ∈ ds, Cmp k d) : Cmp (k + 1) (.list ds) := ⟨by simp only [PyData.canLay0]; exact canLayAll_of fun d hd => (h d hd).lay, by simp only [PyData.depth]; have := depthAll_of fun d hd => (h d hd).dep; omega⟩
/-- can be shown: depth at most k, at most n signs -/
structure Shw (k n : Nat) (d : PyData) : Prop where
  shw : PyData.showable d = true
  noD : PyData.hasDict d = false
  dep : PyData.depth d ≤ k
  len : (PyData.shown d).length ≤ n
theorem Shw.ok {k n : Nat} {d : PyData} (h : Shw k n d) (hk : k ≤ 60) (hn : n ≤ 2 ^ 24) : reprOk d = true := by
  unfold reprOk
  rw [h.shw, h.noD, decide_eq_true (Nat.le_trans h.dep hk), decide_eq_true (show (PyData.shown d).length ≤ sizeLine by rw [sizeLine_eq]; have := h.len; omega)]
  rfl
theorem Shw.mono {k n k' n' : Nat} {d : PyData} (h : Shw k n d) (hk : k ≤ k') (hn : n ≤ n') : Shw k' n' d := ⟨h.shw, h.noD, Nat.le_trans h.dep hk, Nat.le_trans h.len hn⟩
theorem textFrom_le {n : Nat} : ∀ (ts : List Str) (k : Nat) (acc : Str), (∀ t ∈ ts, t.length ≤ n) → (textFrom k acc ts).length ≤ acc.length + (n + 2) * ts.length
  | [], k, acc, _ => by simp only [textFrom, List.length_nil, Nat.mul_zero, Nat.add_zero, Nat.le_refl]
  | t :: r, k, acc, h => by
    have h1 := textFrom_le r (k + 1) (acc ++ (if k > 0 then ", " else "" : String) ++ t) fun t ht => h t (List.mem_cons_of_mem _ ht)
    have e : (acc ++ (if k > 0 then ", " else "" : String) ++ t).length = acc.length + (if k > 0 then 2 else 0) + t.length := by
      rw [strLen_append, strLen_append]
      split <;> rfl
    have h2 := h t List.mem_cons_self
    have h3 : (if k > 0 then 2 else 0) ≤ 2 := by split <;> omega
    have e2 : (n + 2) * (t :: r).length = (n + 2) * r.length + (n + 2) := by rw [List.length_cons, Nat.mul_add, Nat.mul_one]
    show (textFrom (k + 1) _ r).length ≤ _
    rw [e2]
    omega
theorem join_le {n : Nat} : ∀ (ts : List Str), (∀ t ∈ ts, t.length ≤ n) → (Str.join ", " ts).length ≤ (n + 2) * ts.length
  | [], _ => Nat.zero_le _
  | [x], h => by
    have := h x List.mem_cons_self
    show x.length ≤ _
    simp
    omega
  | x :: y :: r, h => by
    have ih := join_le (y :: r) fun t ht => h t (List.mem_cons_of_mem _ ht)
    have h2 := h x List.mem_cons_self
    show (x ++ ", " ++ Str.join ", " (y :: r)).length ≤ _
    rw [strLen_append, strLen_append, show ((", " : String) : Str).length = 2 from rfl]
    have e2 : (n + 2) * (x :: y :: r).length = (n + 2) * (y :: r).length + (n + 2) := by rw [List.length_cons, Nat.mul_add, Nat.mul_one]
    rw [e2]
    omega
theorem shw_tup {k n : Nat} {ds : List PyData} (h : ∀ d ∈ ds, Shw k n d) : Shw (k + 1) ((n + 2) * ds.length + 3) (.tuple ds) := ⟨by simp only [PyData.showable]; exact showableAll_of fun d hd => (h d hd).shw, by simp only [PyData.hasDict]; exact noDictAll_of fun d hd => (h d hd).noD,
  by simp only [PyData.depth]; have := depthAll_of fun d hd => (h d hd).dep; omega, by
    simp only [PyData.shown, tupleText, shownAll_map]
    have h1 := join_le (n := n) (ds.map PyData.shown) fun t ht => by obtain ⟨d, hd, rfl⟩ := List.mem_map.mp ht; exact (h d hd).len
    rw [List.length_map] at h1
    rw [strLen_append, strLen_append]
    have h2 : (("(" : Str)).length = 1 := rfl
    have h3 : (((if ((ds.map PyData.shown).length == 1) = true then ",)" else ")" : String)) : Str).length ≤ 2 := by split <;> decide +kernel
    omega⟩
theorem shw_lst {k n : Nat} {ds : List PyData} (h : ∀ d ∈ ds, Shw k n d) : Shw (k + 1) ((n + 2) * ds.length + 3) (.list ds) := ⟨by simp only [PyData.showable]; exact showableAll_of fun d hd => (h d hd).shw, by simp only [PyData.hasDict]; exact noDictAll_of fun d hd => (h d hd).noD,
  by simp only [PyData.depth]; have := depthAll_of fun d hd => (h d hd).dep; omega, by
    simp only [PyData.shown, listText, shownAll_map]
    have h1 := textFrom_le (n := n) (ds.map PyData.shown) 0 "[" fun t ht => by obtain ⟨d, hd, rfl⟩ := List.mem_map.mp ht; exact (h d hd).len
    rw [List.length_map] at h1
    rw [strLen_append]
    have h2 : (("[" : Str)).length = 1 := rfl
    have h3 : (("]" : Str)).length = 1 := rfl
    omega⟩
theorem shw_none {k : Nat} : Shw k 5 .none := ⟨rfl, rfl, by simp only [PyData.depth]; omega, by decide +kernel⟩
theorem shw_bool {k : Nat} {b : Bool} : Shw k 5 (.bool b) := ⟨rfl, rfl, by simp only [PyData.depth]; omega, by cases b <;> decide +kernel⟩
theorem shw_str {k n : Nat} {x : Str} (h : (reprText x).length ≤ n) : Shw k n (.str x) := ⟨rfl, rfl, by simp only [PyData.depth]; omega, by simpa only [PyData.shown] using h⟩
theorem shownInt_small : ∀ i : Fin 100, (PyData.shown (.int ((i.val : Nat) : Int))).length ≤ 5 := by decide +kernel
theorem showInt_small : ∀ i : Fin 100, PyData.showable (.int ((i.val : Nat) : Int)) = true := by decide +kernel
theorem shw_int {k : Nat} {i : Int} (h : 0 ≤ i) (h2 : i < 100) : Shw k 5 (.int i) := by
  obtain ⟨j, rfl⟩ := Int.eq_ofNat_of_zero_le h
  have hj : j < 100 := by omega
  exact ⟨showInt_small ⟨j, hj⟩, rfl, by simp only [PyData.depth]; omega, shownInt_small ⟨j, hj⟩⟩
/-- repr of what can be shown -/
theorem repr_ok {k n : Nat} {d : PyData} (h : Shw k n d) (hk : k ≤ 60) (hn : n ≤ 2 ^ 24) : reprB (.imm d) = some (.imm (.str d.shown)) := by
  unfold reprB
  simp only [q_toD]
  rw [if_pos (h.ok hk hn)]
theorem repr_okL {k n : Nat} {ds : List PyData} (h : Shw k n (.list ds)) (hk : k ≤ 60) (hn : n ≤ 2 ^ 24) : reprB (.lst ds) = some (.imm (.str (PyData.list ds).shown)) := by
  unfold reprB
  simp only [q_toD]
  rw [if_pos (h.ok hk hn)]
end DL
set_option maxRecDepth 100000
set_option maxHeartbeats 2000000
/-! DP: loops by invariants that tell the source, too. -/
namespace DL
open PySem PySem.Spec PyProof.Rows L2
section
variable {ρ : En} {S : Src} {g : SS} {c : SB} {f : SE} {s : Bd → En → Option En} {ds : List PyData} {P : Fl → En → Src → Prop}
theorem p_lcSS {vs : List Nat} {acc : List PyData} {G : List PyData → En → Src → Prop} (J : Nat → List PyData → En → Src → Prop) (h0 : J 0 acc ρ S)
    (hs : ∀ (i : Nat) (d : PyData) (acc : List PyData) (ρ : En) (S : Src), ds[i]? = some d → J i acc ρ S → ∃ ρ1, s (.imm d) (wE ρ vs) = some ρ1 ∧ (c ρ1 S).Post (Bh (fun ρ S => (f ρ S).Post fun b ρ3 S3 => ∃ e, toF b = some e ∧ nbE ρ3 = true ∧ acc.length < 1000000 ∧ J (i + 1) (acc ++ [e]) ρ3 S3) fun ρ2 S2 => J (i + 1) acc ρ2 S2))
    (he : ∀ acc' ρ' S', J ds.length acc' ρ' S' → G acc' ρ' S') : (lcS vs s c f ds acc ρ S).Post G := by
  suffices go : ∀ (l : List PyData) (k : Nat) (acc : List PyData) (ρ : En) (S : Src), (∀ i, l[i]? = ds[k + i]?) → k + l.length = ds.length → J k acc ρ S → (lcS vs s c f l acc ρ S).Post G from go ds 0 acc ρ S (fun i => by rw [Nat.zero_add]) (by omega) h0
  intro l
  induction l with
  | nil => intro k acc ρ S _ hk j; exact he acc ρ S (by rw [← hk]; exact j)
  | cons d l ih =>
    intro k acc ρ S hl hk j
    obtain ⟨ρ1, e1, h⟩ := hs k d acc ρ S (by have := hl 0; simpa using this.symm) j
    obtain ⟨t, ρ2, S2, e2, h2⟩ := h.get
    have hl' : ∀ i, l[i]? = ds[k + 1 + i]? := fun i => by have := hl (i + 1); rw [show k + 1 + i = k + (i + 1) by omega, ← this]; rfl
    have hk' : k + 1 + l.length = ds.length := by rw [List.length_cons] at hk; omega
    unfold lcS
    rw [e1]
    simp only
    rw [e2, rb_ok]
    cases t with
    | true =>
      obtain ⟨b, ρ3, S3, e3, e, e4, e5, e6, j3⟩ := R.Post.get h2
      rw [if_pos rfl, e3, rb_ok, e4]
      simp only
      rw [if_pos (by rw [e5, decide_eq_true e6]; rfl)]
      exact ih (k + 1) _ ρ3 S3 hl' hk' j3
    | false =>
      rw [if_neg (by simp)]
      exact ih (k + 1) _ ρ2 S2 hl' hk' h2
theorem p_forRS (J : Nat → En → Src → Prop) (h0 : J 0 ρ S) (hs : ∀ (i : Nat) (d : PyData) (ρ : En) (S : Src), ds[i]? = some d → J i ρ S → ∃ ρ1, s (.imm d) ρ = some ρ1 ∧ (g ρ1 S).Post fun fl ρ2 S2 => match fl with
      | .nx => J (i + 1) ρ2 S2
      | .ct => J (i + 1) ρ2 S2
      | .bk => P .nx ρ2 S2
      | .rt b => P (.rt b) ρ2 S2)
    (he : ∀ ρ' S', J ds.length ρ' S' → P .nx ρ' S') : (forS s g ds ρ S).Post P := by
  suffices go : ∀ (l : List PyData) (k : Nat) (ρ : En) (S : Src), (∀ i, l[i]? = ds[k + i]?) → k + l.length = ds.length → J k ρ S → (forS s g l ρ S).Post P from go ds 0 ρ S (fun i => by rw [Nat.zero_add]) (by omega) h0
  intro l
  induction l with
  | nil => intro k ρ S _ hk j; exact he ρ S (by rw [← hk]; exact j)
  | cons d l ih =>
    intro k ρ S hl hk j
    obtain ⟨ρ1, e1, h⟩ := hs k d ρ S (by have := hl 0; simpa using this.symm) j
    obtain ⟨fl, ρ2, S2, e2, e3⟩ := h.get
    rw [forS_cons, e1]
    simp only [e2]
    have next : J (k + 1) ρ2 S2 → (forS s g l ρ2 S2).Post P := fun j => ih (k + 1) ρ2 S2 (fun i => by have := hl (i + 1); rw [show k + 1 + i = k + (i + 1) by omega, ← this]; rfl) (by rw [List.length_cons] at hk; omega) j
    cases fl with
    | nx => exact next e3
    | ct => exact next e3
    | bk => exact e3
    | rt b => exact e3
theorem p_whileS (m : Nat → En → Src → Prop) {k : Nat} (hk : k < FU) (h0 : m k ρ S) (hs : ∀ (k : Nat) (ρ : En) (S : Src), m k ρ S → (c ρ S).Post fun t ρ1 S1 => if t = true then (g ρ1 S1).Post (fun fl ρ2 S2 => match fl with
      | .nx => ∃ j, j < k ∧ m j ρ2 S2
      | .ct => ∃ j, j < k ∧ m j ρ2 S2
      | .bk => P .nx ρ2 S2
      | .rt b => P (.rt b) ρ2 S2) else P .nx ρ1 S1) : (gWhile c g ρ S).Post P := by
  suffices go : ∀ (n k : Nat) (ρ : En) (S : Src), k < n → m k ρ S → (whS c g n ρ S).Post P from go FU k ρ S hk h0
  intro n
  induction n with
  | zero => intro k ρ S h; omega
  | succ n ih =>
    intro k ρ S hn hm
    unfold whS
    rw [R.post_bind]
    refine (hs k ρ S hm).imp fun t ρ1 S1 h => ?_
    cases t with
    | false => exact h
    | true =>
      obtain ⟨fl, ρ2, S2, e2, e3⟩ := R.Post.get h
      simp only [if_true, e2]
      cases fl with
      | nx => obtain ⟨j, hj, hm2⟩ := e3; exact ih j ρ2 S2 (by omega) hm2
      | ct => obtain ⟨j, hj, hm2⟩ := e3; exact ih j ρ2 S2 (by omega) hm2
      | bk => exact e3
      | rt b => exact e3
/-- a def by its reading, the source told -/
theorem run_ofS {m n : Nat} {bs : List Bd} {b : Bd → Src → Prop} (hl : bs.length = m) (ho : (bs.all fun b => !b.own && !b.isBor) = true) (h : (g (bs.map some ++ List.replicate (n - m) none) S).Post fun fl ρ' S' => match fl with
    | .rt r => b r S'
    | .nx => b (.imm .none) S'
    | _ => False) : ∃ r S', runB m n g bs S = some (r, S') ∧ b r S' := by
  obtain ⟨fl, ρ', S', e, h⟩ := h.get
  unfold runB
  rw [if_pos (by rw [hl, ho]; simp), e]
  cases fl with
  | rt r => exact ⟨r, S', rfl, h⟩
  | nx => exact ⟨_, S', rfl, h⟩
  | bk => exact h.elim
  | ct => exact h.elim
end
end DL
set_option maxRecDepth 100000
set_option maxHeartbeats 4000000
namespace Lw
open PySem PySem.Spec PyProof.Rows L2 DL
def topS (i : Nat) : Stmt := PySem.Challenge.pw_camefrom_k15_pieces_by_own_blocks.main.body.getD i (.Pass ⟨0, 0, 0, 0⟩)
abbrev s__law_source : Stmt := topS 13
abbrev N__law_source : List Str := ["script", "mixed", "cell"]
theorem sc__law_source : FnScope N__law_source ["script"] (defScope s__law_source) := ⟨rfl, rfl, rfl, by decide +kernel, rfl, by decide +kernel, by decide +kernel⟩
abbrev s__law_pick : Stmt := topS 14
abbrev N__law_pick : List Str := ["source", "many", "left", "mixed"]
theorem sc__law_pick : FnScope N__law_pick ["source", "many"] (defScope s__law_pick) := ⟨rfl, rfl, rfl, by decide +kernel, rfl, by decide +kernel, by decide +kernel⟩
abbrev s__law_of : Stmt := topS 15
abbrev N__law_of : List Str := ["source", "some"]
theorem sc__law_of : FnScope N__law_of ["source", "some"] (defScope s__law_of) := ⟨rfl, rfl, rfl, by decide +kernel, rfl, by decide +kernel, by decide +kernel⟩
abbrev s__law_sheet : Stmt := topS 16
abbrev N__law_sheet : List Str := ["source"]
theorem sc__law_sheet : FnScope N__law_sheet ["source"] (defScope s__law_sheet) := ⟨rfl, rfl, rfl, by decide +kernel, rfl, by decide +kernel, by decide +kernel⟩
abbrev s__law_sweeps : Stmt := topS 17
abbrev N__law_sweeps : List Str := ["source", "sheet", "many", "count", "modes", "some", "is_round", "mode", "side", "move", "like", "row", "late", "back", "k", "letter", "step"]
theorem sc__law_sweeps : FnScope N__law_sweeps ["source", "sheet"] (defScope s__law_sweeps) := ⟨rfl, rfl, rfl, by decide +kernel, rfl, by decide +kernel, by decide +kernel⟩
abbrev s__law_sign : Stmt := topS 18
abbrev N__law_sign : List Str := ["sheet", "row", "place"]
theorem sc__law_sign : FnScope N__law_sign ["sheet", "row", "place"] (defScope s__law_sign) := ⟨rfl, rfl, rfl, by decide +kernel, rfl, by decide +kernel, by decide +kernel⟩
abbrev s__law_run : Stmt := topS 19
abbrev N__law_run : List Str := ["sheet", "program", "row", "place", "mode", "found", "met", "places", "written", "move", "late"]
theorem sc__law_run : FnScope N__law_run ["sheet", "program", "row"] (defScope s__law_run) := ⟨rfl, rfl, rfl, by decide +kernel, rfl, by decide +kernel, by decide +kernel⟩
abbrev s__law_turns : Stmt := topS 21
abbrev N__law_turns : List Str := ["writing", "cut", "found", "letter", "where", "side"]
theorem sc__law_turns : FnScope N__law_turns ["writing", "cut"] (defScope s__law_turns) := ⟨rfl, rfl, rfl, by decide +kernel, rfl, by decide +kernel, by decide +kernel⟩
abbrev s_is_piece : Stmt := topS 11
abbrev N_is_piece : List Str := ["value", "letters", "one", "k"]
theorem sc_is_piece : FnScope N_is_piece ["value", "letters"] (defScope s_is_piece) := ⟨rfl, rfl, rfl, by decide +kernel, rfl, by decide +kernel, by decide +kernel⟩
abbrev s_put_sign : Stmt := topS 6
abbrev N_put_sign : List Str := ["found", "sign"]
theorem sc_put_sign : FnScope N_put_sign ["found", "sign"] (defScope s_put_sign) := ⟨rfl, rfl, rfl, by decide +kernel, rfl, by decide +kernel, by decide +kernel⟩
abbrev s_piece_of : Stmt := topS 7
abbrev N_piece_of : List Str := ["writing", "place", "found", "letter", "where"]
theorem sc_piece_of : FnScope N_piece_of ["writing", "place"] (defScope s_piece_of) := ⟨rfl, rfl, rfl, by decide +kernel, rfl, by decide +kernel, by decide +kernel⟩
abbrev s_blocks_of : Stmt := topS 3
abbrev N_blocks_of : List Str := ["writing", "cut", "sides", "letters", "letter", "place", "side", "k"]
theorem sc_blocks_of : FnScope N_blocks_of ["writing", "cut"] (defScope s_blocks_of) := ⟨rfl, rfl, rfl, by decide +kernel, rfl, by decide +kernel, by decide +kernel⟩
abbrev s__law_blocks : Stmt := topS 22
abbrev N__law_blocks : List Str := ["writing", "cut", "found", "letter", "place", "side"]
theorem sc__law_blocks : FnScope N__law_blocks ["writing", "cut"] (defScope s__law_blocks) := ⟨rfl, rfl, rfl, by decide +kernel, rfl, by decide +kernel, by decide +kernel⟩
abbrev s_turns_of : Stmt := topS 4
abbrev N_turns_of : List Str := ["writing", "cut", "side", "letters"]
theorem sc_turns_of : FnScope N_turns_of ["writing", "cut"] (defScope s_turns_of) := ⟨rfl, rfl, rfl, by decide +kernel, rfl, by decide +kernel, by decide +kernel⟩
abbrev s__law_piece : Stmt := topS 20
abbrev N__law_piece : List Str := ["writing", "place", "found", "letter", "where", "sign"]
theorem sc__law_piece : FnScope N__law_piece ["writing", "place"] (defScope s__law_piece) := ⟨rfl, rfl, rfl, by decide +kernel, rfl, by decide +kernel, by decide +kernel⟩
abbrev s_turns_told : Stmt := topS 8
abbrev N_turns_told : List Str := ["piece", "side", "other", "found", "sign"]
theorem sc_turns_told : FnScope N_turns_told ["piece", "side", "other"] (defScope s_turns_told) := ⟨rfl, rfl, rfl, by decide +kernel, rfl, by decide +kernel, by decide +kernel⟩
abbrev s_turns_behind : Stmt := topS 10
abbrev N_turns_behind : List Str := ["piece"]
theorem sc_turns_behind : FnScope N_turns_behind ["piece"] (defScope s_turns_behind) := ⟨rfl, rfl, rfl, by decide +kernel, rfl, by decide +kernel, by decide +kernel⟩
abbrev s_turns_ahead : Stmt := topS 9
abbrev N_turns_ahead : List Str := ["piece"]
theorem sc_turns_ahead : FnScope N_turns_ahead ["piece"] (defScope s_turns_ahead) := ⟨rfl, rfl, rfl, by decide +kernel, rfl, by decide +kernel, by decide +kernel⟩
abbrev s__law_parts : Stmt := topS 23
abbrev N__law_parts : List Str := ["piece", "own", "found", "sign", "late"]
theorem sc__law_parts : FnScope N__law_parts ["piece", "own"] (defScope s__law_parts) := ⟨rfl, rfl, rfl, by decide +kernel, rfl, by decide +kernel, by decide +kernel⟩
abbrev s_law : Stmt := topS 24
abbrev N_law : List Str := ["script", "source", "sheet", "lap", "program", "many", "row", "writing", "k", "cut", "turns", "one", "other", "letter", "values", "due", "value"]
theorem sc_law : FnScope N_law ["script"] (defScope s_law) := ⟨rfl, rfl, rfl, by decide +kernel, rfl, by decide +kernel, by decide +kernel⟩
structure TD where
  f__law_source : Addr
  d__law_source : FuncData
  f__law_pick : Addr
  d__law_pick : FuncData
  f__law_of : Addr
  d__law_of : FuncData
  f__law_sheet : Addr
  d__law_sheet : FuncData
  f__law_sweeps : Addr
  d__law_sweeps : FuncData
  f__law_sign : Addr
  d__law_sign : FuncData
  f__law_run : Addr
  d__law_run : FuncData
  f__law_turns : Addr
  d__law_turns : FuncData
  f_is_piece : Addr
  d_is_piece : FuncData
  f_put_sign : Addr
  d_put_sign : FuncData
  f_piece_of : Addr
  d_piece_of : FuncData
  f_blocks_of : Addr
  d_blocks_of : FuncData
  f__law_blocks : Addr
  d__law_blocks : FuncData
  f_turns_of : Addr
  d_turns_of : FuncData
  f__law_piece : Addr
  d__law_piece : FuncData
  f_turns_told : Addr
  d_turns_told : FuncData
  f_turns_behind : Addr
  d_turns_behind : FuncData
  f_turns_ahead : Addr
  d_turns_ahead : FuncData
  f__law_parts : Addr
  d__law_parts : FuncData
  f_law : Addr
  d_law : FuncData
structure Tx (K : PySem.W.Frag) (mg : Str → Option Value) (t : TD) : Prop where
  F__law_source : Fun K "_law_source" "_law_source" s__law_source t.f__law_source t.d__law_source
  m__law_source : mg "_law_source" = some (.ref t.f__law_source)
  b__law_source : Binds K t.d__law_source ["script"] []
  F__law_pick : Fun K "_law_pick" "_law_pick" s__law_pick t.f__law_pick t.d__law_pick
  m__law_pick : mg "_law_pick" = some (.ref t.f__law_pick)
  b__law_pick : Binds K t.d__law_pick ["source", "many"] []
  F__law_of : Fun K "_law_of" "_law_of" s__law_of t.f__law_of t.d__law_of
  m__law_of : mg "_law_of" = some (.ref t.f__law_of)
  b__law_of : Binds K t.d__law_of ["source", "some"] []
  F__law_sheet : Fun K "_law_sheet" "_law_sheet" s__law_sheet t.f__law_sheet t.d__law_sheet
  m__law_sheet : mg "_law_sheet" = some (.ref t.f__law_sheet)
  b__law_sheet : Binds K t.d__law_sheet ["source"] []
  F__law_sweeps : Fun K "_law_sweeps" "_law_sweeps" s__law_sweeps t.f__law_sweeps t.d__law_sweeps
  m__law_sweeps : mg "_law_sweeps" = some (.ref t.f__law_sweeps)
  b__law_sweeps : Binds K t.d__law_sweeps ["source", "sheet"] []
  F__law_sign : Fun K "_law_sign" "_law_sign" s__law_sign t.f__law_sign t.d__law_sign
  m__law_sign : mg "_law_sign" = some (.ref t.f__law_sign)
  b__law_sign : Binds K t.d__law_sign ["sheet", "row", "place"] []
  F__law_run : Fun K "_law_run" "_law_run" s__law_run t.f__law_run t.d__law_run
  m__law_run : mg "_law_run" = some (.ref t.f__law_run)
  b__law_run : Binds K t.d__law_run ["sheet", "program", "row"] []
  F__law_turns : Fun K "_law_turns" "_law_turns" s__law_turns t.f__law_turns t.d__law_turns
  m__law_turns : mg "_law_turns" = some (.ref t.f__law_turns)
  b__law_turns : Binds K t.d__law_turns ["writing", "cut"] []
  F_is_piece : Fun K "is_piece" "is_piece" s_is_piece t.f_is_piece t.d_is_piece
  m_is_piece : mg "is_piece" = some (.ref t.f_is_piece)
  b_is_piece : Binds K t.d_is_piece ["value", "letters"] []
  F_put_sign : Fun K "put_sign" "put_sign" s_put_sign t.f_put_sign t.d_put_sign
  m_put_sign : mg "put_sign" = some (.ref t.f_put_sign)
  b_put_sign : Binds K t.d_put_sign ["found", "sign"] []
  F_piece_of : Fun K "piece_of" "piece_of" s_piece_of t.f_piece_of t.d_piece_of
  m_piece_of : mg "piece_of" = some (.ref t.f_piece_of)
  b_piece_of : Binds K t.d_piece_of ["writing", "place"] []
  F_blocks_of : Fun K "blocks_of" "blocks_of" s_blocks_of t.f_blocks_of t.d_blocks_of
  m_blocks_of : mg "blocks_of" = some (.ref t.f_blocks_of)
  b_blocks_of : Binds K t.d_blocks_of ["writing", "cut"] []
  F__law_blocks : Fun K "_law_blocks" "_law_blocks" s__law_blocks t.f__law_blocks t.d__law_blocks
  m__law_blocks : mg "_law_blocks" = some (.ref t.f__law_blocks)
  b__law_blocks : Binds K t.d__law_blocks ["writing", "cut"] []
  F_turns_of : Fun K "turns_of" "turns_of" s_turns_of t.f_turns_of t.d_turns_of
  m_turns_of : mg "turns_of" = some (.ref t.f_turns_of)
  b_turns_of : Binds K t.d_turns_of ["writing", "cut"] []
  F__law_piece : Fun K "_law_piece" "_law_piece" s__law_piece t.f__law_piece t.d__law_piece
  m__law_piece : mg "_law_piece" = some (.ref t.f__law_piece)
  b__law_piece : Binds K t.d__law_piece ["writing", "place"] []
  F_turns_told : Fun K "turns_told" "turns_told" s_turns_told t.f_turns_told t.d_turns_told
  m_turns_told : mg "turns_told" = some (.ref t.f_turns_told)
  b_turns_told : Binds K t.d_turns_told ["piece", "side", "other"] []
  F_turns_behind : Fun K "turns_behind" "turns_behind" s_turns_behind t.f_turns_behind t.d_turns_behind
  m_turns_behind : mg "turns_behind" = some (.ref t.f_turns_behind)
  b_turns_behind : Binds K t.d_turns_behind ["piece"] []
  F_turns_ahead : Fun K "turns_ahead" "turns_ahead" s_turns_ahead t.f_turns_ahead t.d_turns_ahead
  m_turns_ahead : mg "turns_ahead" = some (.ref t.f_turns_ahead)
  b_turns_ahead : Binds K t.d_turns_ahead ["piece"] []
  F__law_parts : Fun K "_law_parts" "_law_parts" s__law_parts t.f__law_parts t.d__law_parts
  m__law_parts : mg "_law_parts" = some (.ref t.f__law_parts)
  b__law_parts : Binds K t.d__law_parts ["piece", "own"] []
  F_law : Fun K "law" "law" s_law t.f_law t.d_law
  m_law : mg "law" = some (.ref t.f_law)
  b_law : Binds K t.d_law ["script"] []
  z_abs : mg "abs" = none
  z_all : mg "all" = none
  z_enumerate : mg "enumerate" = none
  z_int : mg "int" = none
  z_isinstance : mg "isinstance" = none
  z_len : mg "len" = none
  z_list : mg "list" = none
  z_max : mg "max" = none
  z_range : mg "range" = none
  z_repr : mg "repr" = none
  z_str : mg "str" = none
  z_tuple : mg "tuple" = none
  c_LEFT : ∃ tk, mg "LEFT" = some (.str "L" tk)
  c_RIGHT : ∃ tk, mg "RIGHT" = some (.str "R" tk)
section
variable {P : Program} {w : World} {K : PySem.W.Frag} {mg : Str → Option Value} {base : Heap} {t : TD}
/-- the source is made anew -/
def spSource (K : PySem.W.Frag) : Sp := fun vs H Q _ => ∃ (a : Addr) (ns : List Int), vs = [.ref a] ∧ SqL K H a (ns.map V.int) ∧ ns.length ≤ 1000 ∧
  ∀ H' p c S, Same H H' → SrcOk (some (p, c)) S H' → Q (.ref p) H'
theorem ok_source {f : Addr} {fd : FuncData} {k : Nat} (F : Fun K "_law_source" "_law_source" s__law_source f fd) (mi : mg "int" = none) (ma : mg "abs" = none) : FnOk P w K mg base CX0 (k + 1) f fd ["script"] (spSource K) := by
  refine F.ok sc__law_source (fun vs H Q E h => ?_) (fun cdv A outer s H vs Q E hr h => ?_)
  · obtain ⟨a, ns, rfl, _⟩ := h
    rfl
  · obtain ⟨a, ns, rfl, hS, hlen, q⟩ := h
    refine ⟨_, pss_cons (ps_set (i := 1) sc__law_source.nd rfl (.inl rfl) pe_int)
      (pss_cons (ps_for PassesOwn.never rfl (pi_list (pv 0)) (pg_name (i := 2) sc__law_source.nd rfl (.inl rfl))
        (pss_one (ps_set (i := 1) sc__law_source.nd rfl (.inl rfl) (pe_op op_modN (pe_callTy call_int1 (by rfl) mi (by decide +kernel) (pa_cons (pe_op op_add (pe_op op_add (pe_op op_mul (pv 1) pe_int) (pe_op op_mul (pv 2) pe_int)) pe_int) pa_nil)) pe_int))))
      (pss_one (ps_ret (pe_disp (pps_cons pe_str (pe_revL (pe_lc (own := [("cell", 2)]) (g := gName 2) (by rfl) sc__law_source.nd (pi_list (pv 0)) (blkOk_by (own := [("cell", 2)]) (N := ["script", "mixed", "cell"]) (sc := defScope s__law_source) (by decide +kernel)) (fun _ _ _ _ _ => pg_name (i := 2) sc__law_source.nd rfl (Or.inl rfl)) (fun _ _ _ _ _ => pts_nil)
          (fun _ _ _ _ _ => pe_callB call_abs (by rfl) ma (by decide +kernel) (pa_cons (pv 2) pa_nil))))
        (pps_cons pe_str pe_int (pps_cons pe_str (pv 1) (pps_cons pe_str pe_int pps_nil)))) (by rfl) (by rfl) (fun z => by cases z) (by decide))))), ?_⟩
    -- mixed = 11, the loop
    refine ⟨.ref a, rfl, a, rfl, ⟨_, hS⟩, fun i m σ H3 => ∃ (z : Int) (y2 : Option V), σ = [some (.ref a), some (.int z), y2] ∧ i + m = ns.length ∧ H3 = H, ⟨ns.length, 11, none, rfl, by omega, rfl⟩, fun i m σ H3 hW => ?_⟩
    obtain ⟨z, y2, rfl, em, rfl⟩ := hW
    by_cases hi : i < ns.length
    · have g : (ns.map V.int)[i]? = some (.int ns[i]) := by
        rw [List.getElem?_map, List.getElem?_eq_getElem hi]
        rfl
      refine .inr ⟨⟨_, _, hS, g⟩, fun σ' H' => ∃ (z : Int) (y2 : Option V), σ' = [some (.ref a), some (.int z), y2] ∧ H' = H3, fun σ' H' hN => ?_, fun v H' hy => ?_⟩
      · obtain ⟨z', y', e1, e2⟩ := hN
        exact ⟨m - 1, by omega, z', y', e1, by omega, e2⟩
      · obtain ⟨rfl, fv⟩ := hy
        have ev : v = .int ns[i] := Option.some.inj ((fv _ hS).symm.trans g)
        subst ev
        refine ⟨.int z, rfl, z, 69069, rfl, rfl, .inr ⟨by decide, by decide⟩, ?_⟩
        refine ⟨.int ns[i], rfl, ns[i], 31, rfl, rfl, .inr ⟨by decide, by decide⟩, ?_⟩
        refine ⟨_, _, rfl, rfl, _, _, rfl, rfl, .inl ⟨_, rfl, ?_⟩⟩
        refine ⟨_, _, rfl, rfl, (show (2147483629 : Int) ≠ 0 by decide), _, _, rfl, rfl⟩
    · refine .inl ⟨⟨_, hS, by rw [List.length_map]; omega⟩, ?_⟩
      -- the dict
      intro p hp
      let absI : Int → Int := fun n => if n < 0 then -n else n
      have sm : Same H3 (upd H3 p (.dK [])) := fun b o e => by rw [upd_ne (ne_of_none e hp)]; exact e
      have hS2 : SqL K (upd H3 p (.dK [])) a (ns.map V.int) := sm.seq hS
      refine ⟨.ref a, rfl, a, rfl, ⟨_, hS2⟩, fun D hD => ?_⟩
      have pD : p ≠ D := fun e => by rw [← e, upd_same] at hD; cases hD
      have hS3 : ∀ l, SqL K (upd (upd H3 p (.dK [])) D (.lst l)) a (ns.map V.int) := fun l => Same.seq (fun b o e => by rw [upd_ne (ne_of_none e hD)]; exact e) hS2
      refine lc_list (xs := ns.map V.int) (fun i H' => H' = upd (upd H3 p (.dK [])) D (.lst ((ns.take i).map fun n => V.int (absI n)))) rfl (fun i H' _ e => by rw [e]; exact hS3 _) (fun i x H' hx e => ?_) (fun H' e => ?_)
      · subst e
        have hi : i < ns.length := by have := (List.getElem?_eq_some_iff.mp hx).1; simpa using this
        have ex : x = .int ns[i] := by
          rw [List.getElem?_map, List.getElem?_eq_getElem hi] at hx
          exact (Option.some.inj hx).symm
        subst ex
        refine ⟨rfl, ?_⟩
        unfold tYes
        simp only [if_true]
        refine ⟨_, rfl, ns[i], rfl, _, upd_same, ?_, ?_⟩
        · rw [List.length_map, List.length_take]
          exact small1000 (by omega)
        · rw [upd_upd, List.take_add_one, List.getElem?_eq_getElem hi, List.map_append]
          rfl
      · subst e
        rw [List.length_map, List.take_length]
        refine ⟨D, _, rfl, .inl (.inl upd_same), fun c hc => ?_⟩
        have cp : p ≠ c := fun e => by
          rw [← e, upd_ne pD, upd_same] at hc; cases hc
        have Dc : D ≠ c := fun e => by rw [← e, upd_same] at hc; cases hc
        refine ⟨_, rfl, ?_⟩
        refine ⟨by rw [upd_ne cp, upd_ne pD]; exact upd_same, [(.inr "cells", .ref c), (.inr "left", .int 1), (.inr "mixed", .int z), (.inr "turn", .int 0)], rfl, (by show 4 ≤ 15; omega), ?_⟩
        refine q _ p c ⟨(ns.map absI).reverse, 1, z, 0⟩ (fun b o e => ?_) ⟨?_, ?_⟩
        · have bp : b ≠ p := ne_of_none e hp
          have bD : b ≠ D := ne_of_none (sm b o e) hD
          have bc : b ≠ c := ne_of_none (show (upd (upd H3 p (.dK [])) D _) b = some o by rw [upd_ne bD, upd_ne bp]; exact e) hc
          rw [upd_ne bp, upd_ne bc, upd_ne bD, upd_ne bp]
          exact e
        · rw [upd_same]
          rfl
        · rw [upd_ne (Ne.symm cp), upd_same]
          simp
theorem d__law_source (T : Tx K mg t) : FnG P w K mg base 1 t.f__law_source t.d__law_source ["script"] (spSource K) := FnG.ofOk (ok_source (k := 0) T.F__law_source T.z_int T.z_abs)
theorem mkSrc : MakesSrc K (fun σ H Q => (tCons (tVar 0) tNil) σ H fun vs H1 => spSource K vs H1 Q E0) := fun σ H Q a ns e hS hl q => ⟨.ref a, e, a, ns, rfl, hS, by omega, q⟩

/-! ### a draw -/
def refill (l : Int) : List Int → Int × List Int
  | [] => (l, [])
  | c :: r => if l < 2 then refill c r else (l, c :: r)
def max1 (many : Int) : Int := if many > 1 then many else 1
/-- the draw: a number, the source behind it -/
def pickS (S : Src) (many : Int) : Int × Src :=
  let p := if many > 1 then refill S.left S.cells.reverse else (S.left, S.cells.reverse)
  if many < 2 ∨ p.1 > 1 then (p.1.fmod (max1 many), ⟨p.2.reverse, p.1.fdiv (max1 many), S.mixed, S.turn⟩)
  else
    let mixed := (S.mixed + (S.turn + 1) * 104729).fmod 998244353
    let mixed := (mixed * mixed + (S.turn + 1) * 17).fmod 2147483647
    ((mixed.fdiv 16).fmod many, ⟨p.2.reverse, p.1, mixed, S.turn + 1⟩)
def F_pick : FD := fun bs S => match bs with
  | [.src, .imm (.int many)] => if -1000000 ≤ many ∧ many ≤ 1000000 then some (.imm (.int (pickS S many).1), (pickS S many).2) else none
  | _ => none
theorem fmod_range {a b : Int} (h : 0 < b) : 0 ≤ a.fmod b ∧ a.fmod b < b := ⟨Int.fmod_nonneg_of_pos _ h, Int.fmod_lt_of_pos _ h⟩
theorem pickS_range {S : Src} {many : Int} (h : 1 ≤ many) : 0 ≤ (pickS S many).1 ∧ (pickS S many).1 < many := by
  unfold pickS
  simp only []
  have h0 : 0 < many := by omega
  have e : max1 many = many := by unfold max1; split <;> omega
  rw [e]
  generalize (if many > 1 then refill S.left S.cells.reverse else (S.left, S.cells.reverse)) = p
  by_cases c : many < 2 ∨ p.1 > 1
  · rw [if_pos c]
    exact fmod_range h0
  · rw [if_neg c]
    exact fmod_range h0
theorem upd_swap4 {H : Hp} {a c : Addr} {o1 o2 o3 o4 : HO} (h : c ≠ a) : upd (upd (upd (upd H c o1) a o2) c o3) a o4 = upd (upd H c o3) a o4 := by
  funext b
  by_cases e1 : b = a
  · rw [e1, upd_same, upd_same]
  · rw [upd_ne e1, upd_ne e1]
    by_cases e2 : b = c
    · rw [e2, upd_same, upd_same]
    · rw [upd_ne e2, upd_ne e2, upd_ne e1, upd_ne e2]
theorem F_pick_some {bs : List Bd} {S : Src} {r : Bd × Src} (h : F_pick bs S = some r) : ∃ many, bs = [.src, .imm (.int many)] ∧ (-1000000 ≤ many ∧ many ≤ 1000000) ∧ r = (.imm (.int (pickS S many).1), (pickS S many).2) := by
  unfold F_pick at h
  split at h
  · rename_i many
    split at h
    · rename_i hm
      exact ⟨many, rfl, hm, (Option.some.inj h).symm⟩
    · cases h
  · cases h
/-- the heap with the source's state -/
def HS (H : Hp) (a c : Addr) (T : Src) : Hp := upd (upd H c (.lst (T.cells.map V.int))) a (.dK (srcKvs T c))
theorem HS_self {H : Hp} {a c : Addr} {S : Src} (h : SrcOk (some (a, c)) S H) : HS H a c S = H := by
  funext b
  unfold HS
  by_cases e1 : b = a
  · rw [e1, upd_same, h.1]
  · rw [upd_ne e1]
    by_cases e2 : b = c
    · rw [e2, upd_same, h.2]
    · rw [upd_ne e2]
theorem HS_put {H : Hp} {a c : Addr} {T T' : Src} (h : T'.cells = T.cells) : upd (HS H a c T) a (.dK (srcKvs T' c)) = HS H a c T' := by
  unfold HS
  rw [upd_upd, h]
theorem HS_mt {so : SO} {H : Hp} {A : Addr → Prop} {S T : Src} {a c : Addr} {σ : Sl} {ρ : En} (M : Mt K so H A S σ ρ H A) (hso : so = some (a, c)) (i : Int) : Mt K so H A T [some (.int i)] [some (.imm (.int i))] (HS H a c T) A := by
  subst hso
  have hs := M.src
  have ac : a ≠ c := fun e => by
    have h1 := hs.1
    rw [e, hs.2] at h1; cases h1
  have off : ∀ b, ¬ Has (some (a, c)) b → HS H a c T b = H b := fun b n => by
    have n1 : b ≠ a := fun e => n (.inl e)
    have n2 : b ≠ c := fun e => n (.inr e)
    unfold HS
    rw [upd_ne n1, upd_ne n2]
  have M0 : Mt K (some (a, c)) H A S [] [] H A := M.re id rfl (fun i b e => by simp at e) fun i j b b' _ e => by simp at e
  have M1 : Mt K (some (a, c)) H A T [] [] (HS H a c T) A := M0.up (fun b x e n => by rw [off b n]; exact e) ⟨upd_same, by unfold HS; rw [upd_ne (Ne.symm ac)]; exact upd_same⟩ (fun _ h => h) (fun _ h => .inl h) (fun b h => by
    obtain ⟨xs, e⟩ := M.fz b h
    exact ⟨xs, by rw [off b (M.ns b h)]; exact e⟩) M.ns
  exact M1.flat (v := .int i) (d := .int i) fun H A => .int i
theorem get_left {T : Src} {c : Addr} : valV (srcKvs T c) (.inr "left") = some (.int T.left) := rfl
theorem get_cells {T : Src} {c : Addr} : valV (srcKvs T c) (.inr "cells") = some (.ref c) := rfl
theorem get_mixed {T : Src} {c : Addr} : valV (srcKvs T c) (.inr "mixed") = some (.int T.mixed) := rfl
theorem get_turn {T : Src} {c : Addr} : valV (srcKvs T c) (.inr "turn") = some (.int T.turn) := rfl
theorem put_left {T : Src} {c : Addr} {x : Int} : putK (srcKvs T c) (.inr "left") (.int x) = srcKvs ⟨T.cells, x, T.mixed, T.turn⟩ c := rfl
theorem put_mixed {T : Src} {c : Addr} {x : Int} : putK (srcKvs T c) (.inr "mixed") (.int x) = srcKvs ⟨T.cells, T.left, x, T.turn⟩ c := rfl
theorem put_turn {T : Src} {c : Addr} {x : Int} : putK (srcKvs T c) (.inr "turn") (.int x) = srcKvs ⟨T.cells, T.left, T.mixed, x⟩ c := rfl
theorem HS_dict {H : Hp} {a c : Addr} {T : Src} : HS H a c T a = some (.dK (srcKvs T c)) := upd_same
theorem HS_get {H : Hp} {a c : Addr} {T : Src} {k : Str} {v : V} (h : valV (srcKvs T c) (.inr k) = some v) : DGet (HS H a c T) a (.str k) (some v) := by
  rw [← h]
  exact DGet.k (k := .inr k) HS_dict
theorem HS_set {H : Hp} {a c : Addr} {T T' : Src} {k : Str} {v : V} (h : putK (srcKvs T c) (.inr k) v = srcKvs T' c) (hc : T'.cells = T.cells) : DPut (HS H a c T) a (.str k) v (HS H a c T') := by
  have := DPut.k (k := .inr k) (v := v) (HS_dict (H := H) (a := a) (c := c) (T := T)) (by show 4 < sizeLine; rw [sizeLine_eq]; decide)
  rw [h, HS_put hc] at this
  exact this
theorem ok_pick {f : Addr} {fd : FuncData} {k : Nat} (F : Fun K "_law_pick" "_law_pick" s__law_pick f fd) (ml : mg "len" = none) (mi : mg "int" = none) (mm : mg "max" = none) : FnD P w K mg base (k + 1) f fd ["source", "many"] F_pick := by
  intro so
  refine FnG.body F sc__law_pick (fun vs H Q E h => ?_) fun cdv A outer s H vs Q hr h => ?_
  · obtain ⟨bs, S, A', M, h⟩ := h
    cases e : F_pick bs S with
    | none => rw [e] at h; exact h.elim
    | some r =>
      obtain ⟨many, rfl, _⟩ := F_pick_some e
      simpa using M.len
  · obtain ⟨bs, S, A', M, h⟩ := h
    have hu := hu_of hr.room
    refine ⟨_, pss_cons (ps_while PassesOwn.never (PW.pt (pw_and (pt_cmpR op_gt (pv 1) pe_int (nomark _)) (pw_and (pt_cmpR op_lt (pe_dget hu (pv 0) pe_str (fun _ _ => rfl)) pe_int (nomark _))
          (pw_and1 (pt_cmpR op_gt (pe_callB call_len_seq (by rfl) ml PySem.boot_len (pa_cons (pe_dget hu (pv 0) pe_str (fun _ _ => rfl)) pa_nil)) pe_int (nomark _))))))
        (pss_one (ps_dput hu (pv 0) pe_str (pe_bm0 PySem.F.plainAttrs_list PySem.F.slot_list_pop PySem.F.type_list_pop mt_pop (pe_dget hu (pv 0) pe_str (fun _ _ => rfl))) rfl)))
      (pss_cons (ps_set (i := 2) sc__law_pick.nd rfl (.inl rfl) (pe_dget hu (pv 0) pe_str (fun _ _ => rfl)))
      (pss_cons (ps_if (PW.pt (pw_or (pt_cmpR op_lt (pv 1) pe_int (nomark _)) (pw_or1 (pt_cmpR op_gt (pv 2) pe_int (nomark _)))))
          (pss_cons (ps_dput hu (pv 0) pe_str (pe_op op_fdivN (pv 2) (pe_callB (call_max2 rfl) (by rfl) mm (by decide +kernel) (pa_cons pe_int (pa_cons (pv 1) pa_nil)))) rfl)
          (pss_one (ps_ret (pe_op op_modN (pe_callTy call_int1 (by rfl) mi (by decide +kernel) (pa_cons (pv 2) pa_nil)) (pe_callB (call_max2 rfl) (by rfl) mm (by decide +kernel) (pa_cons pe_int (pa_cons (pv 1) pa_nil)))))))
          pss_nil)
      (pss_cons (ps_dput hu (pv 0) pe_str (pe_op op_add (pe_dget hu (pv 0) pe_str (fun _ _ => rfl)) pe_int) rfl)
      (pss_cons (ps_set (i := 3) sc__law_pick.nd rfl (.inl rfl) (pe_op op_modN (pe_callTy call_int1 (by rfl) mi (by decide +kernel) (pa_cons (pe_op op_add (pe_dget hu (pv 0) pe_str (fun _ _ => rfl)) (pe_op op_mul (pe_dget hu (pv 0) pe_str (fun _ _ => rfl)) pe_int)) pa_nil)) pe_int))
      (pss_cons (ps_set (i := 3) sc__law_pick.nd rfl (.inl rfl) (pe_op op_modN (pe_callTy call_int1 (by rfl) mi (by decide +kernel) (pa_cons (pe_op op_add (pe_op op_mul (pv 3) (pv 3)) (pe_op op_mul (pe_dget hu (pv 0) pe_str (fun _ _ => rfl)) pe_int)) pa_nil)) pe_int))
      (pss_cons (ps_dput hu (pv 0) pe_str (pv 3) rfl)
      (pss_one (ps_ret (pe_op op_modN (pe_callTy call_int1 (by rfl) mi (by decide +kernel) (pa_cons (pe_op op_fdivN (pv 3) pe_int) pa_nil)) (pv 1)))))))))), ?_⟩
    cases e : F_pick bs S with
    | none => rw [e] at h; exact h.elim
    | some r =>
      obtain ⟨many, rfl, hm, rfl⟩ := F_pick_some e
      rw [e] at h
      simp only at h
      have hl : vs.length = 2 := by simpa using M.len
      obtain ⟨x0, x1, rfl⟩ : ∃ x0 x1, vs = [x0, x1] := by
        match vs, hl with
        | [x0, x1], _ => exact ⟨x0, x1, rfl⟩
      obtain ⟨v0, e0, a, c, rfl, hso⟩ := M.bd 0 .src rfl
      obtain ⟨v1, e1, o1⟩ := M.bd 1 (.imm (.int many)) rfl
      cases e0
      cases e1
      cases o1
      have hs := M.src
      rw [hso] at hs
      have ac : c ≠ a := fun e => by
        have h1 := hs.1
        rw [← e, hs.2] at h1; cases h1
      have hc : ∀ T, HS H a c T c = some (.lst (T.cells.map V.int)) := fun T => by unfold HS; rw [upd_ne ac]; exact upd_same
      · have fin : ∀ H', H' = HS H a c (pickS S many).2 → Q (.int (pickS S many).1) H' := fun H' e => by subst e; exact h _ _ A' (HS_mt M hso _)
        -- the while
        refine ⟨fun m σ' H' => ∃ (l : Int) (r : List Int), σ' = [some (.ref a), some (.int many), none, none] ∧ H' = HS H a c ⟨r.reverse, l, S.mixed, S.turn⟩ ∧ m = r.length ∧
          (if many > 1 then refill l r = refill S.left S.cells.reverse else (l, r) = (S.left, S.cells.reverse)), ⟨S.cells.reverse.length, S.left, S.cells.reverse, rfl, ?_, rfl, ?_⟩, ?_⟩
        · rw [List.reverse_reverse]
          exact (HS_self hs).symm
        · split <;> rfl
        · rintro m σ' H' ⟨l, r, rfl, rfl, rfl, inv⟩
          have hp : ∀ hend : (l, r) = (if many > 1 then refill S.left S.cells.reverse else (S.left, S.cells.reverse)), pickS S many = (if many < 2 ∨ l > 1 then (l.fmod (max1 many), ⟨r.reverse, l.fdiv (max1 many), S.mixed, S.turn⟩)
              else ((((((S.mixed + (S.turn + 1) * 104729).fmod 998244353 * (S.mixed + (S.turn + 1) * 104729).fmod 998244353 + (S.turn + 1) * 17).fmod 2147483647).fdiv 16).fmod many),
                ⟨r.reverse, l, ((S.mixed + (S.turn + 1) * 104729).fmod 998244353 * (S.mixed + (S.turn + 1) * 104729).fmod 998244353 + (S.turn + 1) * 17).fmod 2147483647, S.turn + 1⟩)) := fun hend => by
            unfold pickS
            simp only []
            rw [← hend]
          have next : ∀ z r', l < 2 → r = z :: r' → many > 1 → refill z r' = refill S.left S.cells.reverse := fun z r' h2 e h1 => by
            rw [if_pos h1, e] at inv
            simp only [refill] at inv
            rw [if_pos h2] at inv
            exact inv
          have stop : (¬ (many > 1 ∧ l < 2 ∧ r ≠ [])) → (l, r) = (if many > 1 then refill S.left S.cells.reverse else (S.left, S.cells.reverse)) := fun n => by
            by_cases h1 : many > 1
            · rw [if_pos h1] at inv ⊢
              rw [← inv]
              cases r with
              | nil => rfl
              | cons z r' =>
                have h2 : ¬ l < 2 := fun h2 => n ⟨h1, h2, fun z => nomatch z⟩
                simp only [refill]
                rw [if_neg h2]
            · rw [if_neg h1] at inv ⊢
              exact inv
          refine ⟨.int many, rfl, many, 1, rfl, rfl, _, rfl, ite2 (fun c1 => ?_) (fun c1 => ?_)⟩
          · have c1 : 1 < many := of_decide_eq_true c1
            refine ⟨.ref a, rfl, a, .int l, rfl, HS_get rfl, l, 2, rfl, rfl, _, rfl, ite2 (fun c2 => ?_) (fun c2 => ?_)⟩
            · have c2 : l < 2 := of_decide_eq_true c2
              refine ⟨.ref a, rfl, a, .ref c, rfl, HS_get rfl, c, _, rfl, .inl (.inl (.inl (hc _))), _, 0, rfl, rfl, _, rfl, ?_⟩
              cases r with
              | nil =>
                have c3 : ([] : List Int) = [] := rfl
                refine ite2 (fun z => (by simp at z)) (fun _ => ?_)
                have hend := stop (fun z => z.2.2 rfl)
                have hpk := hp hend
                rw [hpk] at fin
                have hM : (if many > 1 then many else 1) ≠ 0 ∧ (if many > 1 then many else 1).natAbs < 1073741824 := by split <;> omega
                refine ⟨.ref a, rfl, a, .int l, rfl, HS_get rfl, ?_⟩
                by_cases d : many < 2 ∨ l > 1
                · rw [if_pos d] at fin
                  refine ⟨.int many, rfl, many, 2, rfl, rfl, _, rfl, ite2 (fun d1 => iteT ?_) (fun d1 => ⟨.int l, rfl, l, 1, rfl, rfl, _, rfl, ite2 (fun d2 => ?_) (fun d2 => ?_)⟩)⟩
                  · refine ⟨.int l, rfl, .int many, rfl, 1, many, rfl, l, _, rfl, rfl, hM, .ref a, rfl, a, _, rfl, HS_set put_left rfl, ?_⟩
                    exact ⟨.int l, rfl, .inl ⟨l, rfl, .int many, rfl, 1, many, rfl, l, _, rfl, rfl, hM.1, fin _ rfl⟩⟩
                  · refine ⟨.int l, rfl, .int many, rfl, 1, many, rfl, l, _, rfl, rfl, hM, .ref a, rfl, a, _, rfl, HS_set put_left rfl, ?_⟩
                    exact ⟨.int l, rfl, .inl ⟨l, rfl, .int many, rfl, 1, many, rfl, l, _, rfl, rfl, hM.1, fin _ rfl⟩⟩
                  · exact absurd d (fun z => z.elim (fun z => d1 (decide_eq_true z)) fun z => d2 (decide_eq_true z))
                · rw [if_neg d] at fin
                  refine ⟨.int many, rfl, many, 2, rfl, rfl, _, rfl, ite2 (fun d1 => (d (.inl (of_decide_eq_true d1))).elim) (fun d1 => ⟨.int l, rfl, l, 1, rfl, rfl, _, rfl, ite2 (fun d2 => (d (.inr (of_decide_eq_true d2))).elim) (fun d2 => ?_)⟩)⟩
                  refine ⟨.ref a, rfl, a, .int S.turn, rfl, HS_get rfl, S.turn, 1, rfl, rfl, .ref a, rfl, a, _, rfl, HS_set put_turn rfl, ?_⟩
                  refine ⟨.ref a, rfl, a, .int S.mixed, rfl, HS_get rfl, .ref a, rfl, a, .int (S.turn + 1), rfl, HS_get rfl, S.turn + 1, 104729, rfl, rfl, .inr ⟨by decide, by decide⟩, S.mixed, _, rfl, rfl, .inl ⟨_, rfl, _, 998244353, rfl, rfl, (show (998244353 : Int) ≠ 0 by decide), ?_⟩⟩
                  have r1 := fmod_range (a := S.mixed + (S.turn + 1) * 104729) (b := 998244353) (by decide)
                  refine ⟨.int _, rfl, .int _, rfl, _, _, rfl, rfl, .inl ⟨by omega, by omega⟩, .ref a, rfl, a, .int (S.turn + 1), rfl, HS_get rfl, S.turn + 1, 17, rfl, rfl, .inr ⟨by decide, by decide⟩, _, _, rfl, rfl, .inl ⟨_, rfl, _, 2147483647, rfl, rfl, (show (2147483647 : Int) ≠ 0 by decide), ?_⟩⟩
                  refine ⟨.int _, rfl, .ref a, rfl, a, _, rfl, HS_set put_mixed rfl, ?_⟩
                  exact ⟨.int _, rfl, _, 16, rfl, rfl, ⟨by decide, by decide⟩, .inl ⟨_, rfl, .int many, rfl, _, many, rfl, rfl, (show many ≠ 0 by omega), fin _ rfl⟩⟩
              | cons z r' =>
                refine ite2 (fun _ => ?_) (fun q => absurd (decide_eq_true (by simp)) q)
                refine ⟨fun σ' H' => σ' = [some (.ref a), some (.int many), none, none] ∧ H' = HS H a c ⟨r'.reverse, z, S.mixed, S.turn⟩, fun σ' H' ⟨e1, e2⟩ => ⟨r'.length, by simp, z, r', e1, e2, rfl, ?_⟩, ?_⟩
                · rw [if_pos c1]
                  exact next z r' c2 rfl c1
                · refine ⟨.ref a, rfl, a, .ref c, rfl, HS_get rfl, .inl ⟨rfl, _, .inl (.inl (hc _))⟩, c, _, .int z, rfl, rfl, hc _, by simp, .ref a, rfl, a, _, rfl, DPut.k (k := .inr "left") (kvs := srcKvs ⟨(z :: r').reverse, l, S.mixed, S.turn⟩ c) (by rw [upd_ne (Ne.symm ac)]; exact HS_dict) (by show 4 < sizeLine; rw [sizeLine_eq]; decide), rfl, ?_⟩
                  rw [put_left]
                  unfold HS
                  rw [upd_swap4 ac]
                  simp [srcKvs]
            · have hend := stop (fun z => c2 (decide_eq_true z.2.1))
              have hpk := hp hend
              rw [hpk] at fin
              have hM : (if many > 1 then many else 1) ≠ 0 ∧ (if many > 1 then many else 1).natAbs < 1073741824 := by split <;> omega
              refine iteF ?_
              refine ⟨.ref a, rfl, a, .int l, rfl, HS_get rfl, ?_⟩
              by_cases d : many < 2 ∨ l > 1
              · rw [if_pos d] at fin
                refine ⟨.int many, rfl, many, 2, rfl, rfl, _, rfl, ite2 (fun d1 => iteT ?_) (fun d1 => ⟨.int l, rfl, l, 1, rfl, rfl, _, rfl, ite2 (fun d2 => ?_) (fun d2 => ?_)⟩)⟩
                · refine ⟨.int l, rfl, .int many, rfl, 1, many, rfl, l, _, rfl, rfl, hM, .ref a, rfl, a, _, rfl, HS_set put_left rfl, ?_⟩
                  exact ⟨.int l, rfl, .inl ⟨l, rfl, .int many, rfl, 1, many, rfl, l, _, rfl, rfl, hM.1, fin _ rfl⟩⟩
                · refine ⟨.int l, rfl, .int many, rfl, 1, many, rfl, l, _, rfl, rfl, hM, .ref a, rfl, a, _, rfl, HS_set put_left rfl, ?_⟩
                  exact ⟨.int l, rfl, .inl ⟨l, rfl, .int many, rfl, 1, many, rfl, l, _, rfl, rfl, hM.1, fin _ rfl⟩⟩
                · exact absurd d (fun z => z.elim (fun z => d1 (decide_eq_true z)) fun z => d2 (decide_eq_true z))
              · rw [if_neg d] at fin
                refine ⟨.int many, rfl, many, 2, rfl, rfl, _, rfl, ite2 (fun d1 => (d (.inl (of_decide_eq_true d1))).elim) (fun d1 => ⟨.int l, rfl, l, 1, rfl, rfl, _, rfl, ite2 (fun d2 => (d (.inr (of_decide_eq_true d2))).elim) (fun d2 => ?_)⟩)⟩
                refine ⟨.ref a, rfl, a, .int S.turn, rfl, HS_get rfl, S.turn, 1, rfl, rfl, .ref a, rfl, a, _, rfl, HS_set put_turn rfl, ?_⟩
                refine ⟨.ref a, rfl, a, .int S.mixed, rfl, HS_get rfl, .ref a, rfl, a, .int (S.turn + 1), rfl, HS_get rfl, S.turn + 1, 104729, rfl, rfl, .inr ⟨by decide, by decide⟩, S.mixed, _, rfl, rfl, .inl ⟨_, rfl, _, 998244353, rfl, rfl, (show (998244353 : Int) ≠ 0 by decide), ?_⟩⟩
                have r1 := fmod_range (a := S.mixed + (S.turn + 1) * 104729) (b := 998244353) (by decide)
                refine ⟨.int _, rfl, .int _, rfl, _, _, rfl, rfl, .inl ⟨by omega, by omega⟩, .ref a, rfl, a, .int (S.turn + 1), rfl, HS_get rfl, S.turn + 1, 17, rfl, rfl, .inr ⟨by decide, by decide⟩, _, _, rfl, rfl, .inl ⟨_, rfl, _, 2147483647, rfl, rfl, (show (2147483647 : Int) ≠ 0 by decide), ?_⟩⟩
                refine ⟨.int _, rfl, .ref a, rfl, a, _, rfl, HS_set put_mixed rfl, ?_⟩
                exact ⟨.int _, rfl, _, 16, rfl, rfl, ⟨by decide, by decide⟩, .inl ⟨_, rfl, .int many, rfl, _, many, rfl, rfl, (show many ≠ 0 by omega), fin _ rfl⟩⟩
          · have hend := stop (fun z => c1 (decide_eq_true z.1))
            have hpk := hp hend
            rw [hpk] at fin
            have hM : (if many > 1 then many else 1) ≠ 0 ∧ (if many > 1 then many else 1).natAbs < 1073741824 := by split <;> omega
            refine iteF ?_
            refine ⟨.ref a, rfl, a, .int l, rfl, HS_get rfl, ?_⟩
            by_cases d : many < 2 ∨ l > 1
            · rw [if_pos d] at fin
              refine ⟨.int many, rfl, many, 2, rfl, rfl, _, rfl, ite2 (fun d1 => iteT ?_) (fun d1 => ⟨.int l, rfl, l, 1, rfl, rfl, _, rfl, ite2 (fun d2 => ?_) (fun d2 => ?_)⟩)⟩
              · refine ⟨.int l, rfl, .int many, rfl, 1, many, rfl, l, _, rfl, rfl, hM, .ref a, rfl, a, _, rfl, HS_set put_left rfl, ?_⟩
                exact ⟨.int l, rfl, .inl ⟨l, rfl, .int many, rfl, 1, many, rfl, l, _, rfl, rfl, hM.1, fin _ rfl⟩⟩
              · refine ⟨.int l, rfl, .int many, rfl, 1, many, rfl, l, _, rfl, rfl, hM, .ref a, rfl, a, _, rfl, HS_set put_left rfl, ?_⟩
                exact ⟨.int l, rfl, .inl ⟨l, rfl, .int many, rfl, 1, many, rfl, l, _, rfl, rfl, hM.1, fin _ rfl⟩⟩
              · exact absurd d (fun z => z.elim (fun z => d1 (decide_eq_true z)) fun z => d2 (decide_eq_true z))
            · rw [if_neg d] at fin
              refine ⟨.int many, rfl, many, 2, rfl, rfl, _, rfl, ite2 (fun d1 => (d (.inl (of_decide_eq_true d1))).elim) (fun d1 => ⟨.int l, rfl, l, 1, rfl, rfl, _, rfl, ite2 (fun d2 => (d (.inr (of_decide_eq_true d2))).elim) (fun d2 => ?_)⟩)⟩
              refine ⟨.ref a, rfl, a, .int S.turn, rfl, HS_get rfl, S.turn, 1, rfl, rfl, .ref a, rfl, a, _, rfl, HS_set put_turn rfl, ?_⟩
              refine ⟨.ref a, rfl, a, .int S.mixed, rfl, HS_get rfl, .ref a, rfl, a, .int (S.turn + 1), rfl, HS_get rfl, S.turn + 1, 104729, rfl, rfl, .inr ⟨by decide, by decide⟩, S.mixed, _, rfl, rfl, .inl ⟨_, rfl, _, 998244353, rfl, rfl, (show (998244353 : Int) ≠ 0 by decide), ?_⟩⟩
              have r1 := fmod_range (a := S.mixed + (S.turn + 1) * 104729) (b := 998244353) (by decide)
              refine ⟨.int _, rfl, .int _, rfl, _, _, rfl, rfl, .inl ⟨by omega, by omega⟩, .ref a, rfl, a, .int (S.turn + 1), rfl, HS_get rfl, S.turn + 1, 17, rfl, rfl, .inr ⟨by decide, by decide⟩, _, _, rfl, rfl, .inl ⟨_, rfl, _, 2147483647, rfl, rfl, (show (2147483647 : Int) ≠ 0 by decide), ?_⟩⟩
              refine ⟨.int _, rfl, .ref a, rfl, a, _, rfl, HS_set put_mixed rfl, ?_⟩
              exact ⟨.int _, rfl, _, 16, rfl, rfl, ⟨by decide, by decide⟩, .inl ⟨_, rfl, .int many, rfl, _, many, rfl, rfl, (show many ≠ 0 by omega), fin _ rfl⟩⟩
abbrev F__law_pick : FD := F_pick
theorem d__law_pick (T : Tx K mg t) : FnD P w K mg base 1 t.f__law_pick t.d__law_pick ["source", "many"] F__law_pick := ok_pick (k := 0) T.F__law_pick T.z_len T.z_int T.z_max

def g__law_of : SS := (gRet (fOp ixB (fVar 1) (fCall F__law_pick (aCons (fVar 0) (aCons (fAr (o1 lenB) (aCons (fVar 1) aNil)) aNil)))))
def F__law_of : FD := runB 2 2 g__law_of
theorem d__law_of (T : Tx K mg t) : FnD P w K mg base 2 t.f__law_of t.d__law_of ["source", "some"] F__law_of :=
    fn_d T.F__law_of sc__law_of fun so cdv A outer s H hr => ⟨_, (dss_one (ds_ret (de_ix (de_var 1) (de_call (d__law_pick T) (hr.mono (by decide)) T.m__law_pick T.F__law_pick.kp T.b__law_pick (da_cons (de_var 0) (da_cons (de_callB call_lenA cs_len T.z_len PySem.boot_len (da_cons (de_var 1) da_nil)) da_nil))))))⟩

def g__law_sheet : SS := (gRet (fCall F__law_of (aCons (fVar 0) (aCons (fAr lstB (aCons (fAr tupB (aCons (fAr tupB (aCons (fC (.str "a")) (aCons (fC (.str "b")) aNil))) (aCons (fAr tupB (aCons (fC (.str "x")) (aCons (fC (.str "y")) aNil))) aNil))) (aCons (fAr tupB (aCons (fAr tupB (aCons (fC (.str "a")) aNil)) (aCons (fAr tupB (aCons (fC (.str "x")) aNil)) aNil))) (aCons (fAr tupB (aCons (fAr tupB (aCons (fC (.str "a")) (aCons (fC (.str "b")) aNil))) (aCons (fAr tupB (aCons (fC (.str "a")) (aCons (fC (.str "b")) aNil))) aNil))) (aCons (fAr tupB (aCons (fAr tupB (aCons (fC (.str "a")) (aCons (fC (.str "b")) aNil))) (aCons (fAr tupB (aCons (fC (.str "x")) aNil)) aNil))) aNil))))) aNil))))
def F__law_sheet : FD := runB 1 1 g__law_sheet
theorem d__law_sheet (T : Tx K mg t) : FnD P w K mg base 3 t.f__law_sheet t.d__law_sheet ["source"] F__law_sheet :=
    fn_d T.F__law_sheet sc__law_sheet fun so cdv A outer s H hr => ⟨_, (dss_one (ds_ret (de_call (d__law_of T) (hr.mono (by decide)) T.m__law_of T.F__law_of.kp T.b__law_of (da_cons (de_var 0) (da_cons (de_lst (da_cons (de_tup (da_cons (de_tup (da_cons de_str (da_cons de_str da_nil))) (da_cons (de_tup (da_cons de_str (da_cons de_str da_nil))) da_nil))) (da_cons (de_tup (da_cons (de_tup (da_cons de_str da_nil)) (da_cons (de_tup (da_cons de_str da_nil)) da_nil))) (da_cons (de_tup (da_cons (de_tup (da_cons de_str (da_cons de_str da_nil))) (da_cons (de_tup (da_cons de_str (da_cons de_str da_nil))) da_nil))) (da_cons (de_tup (da_cons (de_tup (da_cons de_str (da_cons de_str da_nil))) (da_cons (de_tup (da_cons de_str da_nil)) da_nil))) da_nil))))) da_nil)))))⟩

abbrev l__law_sweeps_1 : SS := (gIf (fTest (fOp (eqB false) (fVar 9) (fVar 13)))
  (gAppend 11 (fAr tupB (aCons (fCall F__law_of (aCons (fVar 0) (aCons (fVar 5) aNil))) (aCons (fFrz 13) (aCons (fFrz 7) aNil)))))
  (gIf (bOr (fTest (fOp (isB false) (fVar 12) (fC .none))) (fTest (fOp (eqB false) (fOp subB (fVar 12) (fOp mulB (fOp fdivB (fVar 12) (fC (.int 2))) (fC (.int 2)))) (fVar 8))))
  (gAppend 11 (fAr tupB (aCons (fCall F__law_of (aCons (fVar 0) (aCons (fVar 5) aNil))) (aCons (fC (.str "halt")) (aCons (fC (.int 0)) aNil)))))
  (gAppend 11 (fAr tupB (aCons (fCall F__law_of (aCons (fVar 0) (aCons (fVar 5) aNil))) (aCons (fFrz 13) (aCons (fFrz 12) aNil)))))))
abbrev l__law_sweeps_2 : SS := (gSeq (gAsg (sName 8) (fOp subB (fVar 7) (fOp mulB (fOp fdivB (fVar 7) (fC (.int 2))) (fC (.int 2)))))
  (gSeq (gAsg (sName 9) (fOp ixB (fAr lstB (aCons (fC (.str "right")) (aCons (fC (.str "left")) aNil))) (fVar 8)))
  (gSeq (gAsg (sName 10) (fAr lr3B (aCons (fIf (fTest (fVar 6)) (fVar 8) (fVar 7)) (aCons (fVar 3) (aCons (fC (.int 2)) aNil)))))
  (gSeq (gAsg (sName 11) (fLc [15] (sName 15) (fiAr rng1I (aCons (fVar 2) aNil)) bYes (fAr tupB (aCons (fCall F__law_of (aCons (fVar 0) (aCons (fVar 5) aNil))) (aCons (fFrz 9) (aCons (fCall F__law_of (aCons (fVar 0) (aCons (fVar 10) aNil))) aNil))))))
  (gSeq (gAsg (sName 12) (fCall F__law_of (aCons (fVar 0) (aCons (fOp addB (fOp lr2B (fOp addB (fVar 7) (fC (.int 1))) (fVar 3)) (fAr lstB (aCons (fC .none) aNil))) aNil))))
  (gSeq (gFor (sName 13) (fiSeq (fAr tupB (aCons (fC (.str "right")) (aCons (fC (.str "left")) aNil))))
  l__law_sweeps_1)
  (gAppend 4 (fAr (o1 tupleB) (aCons (fVar 11) aNil)))))))))
def g__law_sweeps : SS := (gSeq (gPar (sCons (sName 2) (sCons (sName 3) (sCons (sName 4) sNil))) (aCons (fAr (o1 lenB) (aCons (fOp ixB (fVar 1) (fC (.int 0))) aNil)) (aCons (fOp addB (fC (.int 1)) (fCall F__law_pick (aCons (fVar 0) (aCons (fC (.int 5)) aNil)))) (aCons (fAr lstB aNil) aNil))))
  (gSeq (gParN 2 (sCons (sName 5) (sCons (sName 6) sNil)) (aCons (fOp addB (fAr lstB (aCons (fC .none) aNil)) (fAr (o1 listB) (aCons (fOp ixB (fVar 1) (fC (.int 1))) aNil))) (aCons (fOp (eqB false) (fCall F__law_pick (aCons (fVar 0) (aCons (fC (.int 2)) aNil))) (fC (.int 0))) aNil)))
  (gSeq (gFor (sName 7) (fiAr rng1I (aCons (fVar 3) aNil))
  l__law_sweeps_2)
  (gSeq (gIf (fTest (fOp (eqB false) (fCall F__law_pick (aCons (fVar 0) (aCons (fC (.int 5)) aNil))) (fC (.int 0))))
  (gSeq (gPar (sCons (sName 14) (sCons (sName 15) sNil)) (aCons (fCall F__law_pick (aCons (fVar 0) (aCons (fVar 3) aNil))) (aCons (fCall F__law_pick (aCons (fVar 0) (aCons (fVar 2) aNil))) aNil)))
  (gSeq (gAsg (sName 9) (fCall F__law_of (aCons (fVar 0) (aCons (fAr lstB (aCons (fC (.str "left")) (aCons (fC (.str "right")) (aCons (fC (.str "halt")) aNil)))) aNil))))
  (gSeq (gAsg (sName 16) (fAr tupB (aCons (fCall F__law_of (aCons (fVar 0) (aCons (fVar 5) aNil))) (aCons (fFrz 9) (aCons (fIf (fTest (fOp (eqB false) (fVar 9) (fC (.str "halt")))) (fC (.int 0)) (fCall F__law_pick (aCons (fVar 0) (aCons (fVar 3) aNil)))) aNil)))))
  (gSetI 4 (fOp addB (fOp addB (fSl (fOp ixB (fVar 4) (fVar 14)) oNone (oSome (fVar 15))) (fAr tupB (aCons (fFrz 16) aNil))) (fSl (fOp ixB (fVar 4) (fVar 14)) (oSome (fOp addB (fVar 15) (fC (.int 1)))) oNone)) (fVar 14)))))
  gNext)
  (gRet (fAr (o1 tupleB) (aCons (fVar 4) aNil)))))))
def F__law_sweeps : FD := runB 2 17 g__law_sweeps
theorem d__law_sweeps (T : Tx K mg t) : FnD P w K mg base 3 t.f__law_sweeps t.d__law_sweeps ["source", "sheet"] F__law_sweeps :=
    fn_d T.F__law_sweeps sc__law_sweeps fun so cdv A outer s H hr => ⟨_, (dss_cons (ds_par3 2 3 4 rfl sc__law_sweeps.nd (da_cons (de_callB call_lenA cs_len T.z_len PySem.boot_len (da_cons (de_ix (de_var 1) de_int) da_nil)) (da_cons (de_add de_int (de_call (d__law_pick T) (hr.mono (by decide)) T.m__law_pick T.F__law_pick.kp T.b__law_pick (da_cons (de_var 0) (da_cons de_int da_nil)))) (da_cons (de_lst da_nil) da_nil))))
        (dss_cons (ds_parT rfl (by decide) (da_cons (de_add (de_lst (da_cons de_non da_nil)) (de_callTy call_list_of cs_list T.z_list (by decide +kernel) (da_cons (de_ix (de_var 1) de_int) da_nil))) (da_cons (de_eq hr (de_call (d__law_pick T) (hr.mono (by decide)) T.m__law_pick T.F__law_pick.kp T.b__law_pick (da_cons (de_var 0) (da_cons de_int da_nil))) de_int) da_nil)) (dgs_cons (dg_name 5 sc__law_sweeps.nd) (dgs_cons (dg_name 6 sc__law_sweeps.nd) dgs_nil)))
        (dss_cons (ds_for PassesOwn.never rfl (di_rng1 T.z_range (da_cons (de_var 3) da_nil)) (dg_name 7 sc__law_sweeps.nd) (dss_cons (ds_set 8 sc__law_sweeps.nd (de_sub (de_var 7) (de_mul (de_fdiv (de_var 7) de_int) de_int)))
        (dss_cons (ds_set 9 sc__law_sweeps.nd (de_ix (de_lst (da_cons de_str (da_cons de_str da_nil))) (de_var 8)))
        (dss_cons (ds_set 10 sc__law_sweeps.nd (de_lr3 rfl T.z_list T.z_range (da_cons (de_if (h1 := tC .non) (dt_val (de_var 6)) (de_var 8) (de_var 7)) (da_cons (de_var 3) (da_cons de_int da_nil)))))
        (dss_cons (ds_setLc (own := [("letter", 15)]) N__law_sweeps (defScope s__law_sweeps) 11 rfl sc__law_sweeps.nd (di_rng1 T.z_range (da_cons (de_var 2) da_nil)) (by decide +kernel) (fun _ _ _ _ _ => (by refine DG.cast (dg_name 15 sc__law_sweeps.nd) ?_; first | rfl | (dsimp only [Cx.blk, Cx.nox, cxOf] <;> rfl))) (by decide) (fun _ _ _ _ _ => dts_nil) (fun _ _ _ _ _ => (by refine DE.cast (de_tup (da_cons (de_call (d__law_of T) (hr.mono (by decide)) T.m__law_of T.F__law_of.kp T.b__law_of (da_cons (de_var 0) (da_cons (de_var 5) da_nil))) (da_cons (de_frz 9) (da_cons (de_call (d__law_of T) (hr.mono (by decide)) T.m__law_of T.F__law_of.kp T.b__law_of (da_cons (de_var 0) (da_cons (de_var 10) da_nil))) da_nil)))) ?_; first | rfl | (dsimp only [Cx.blk, Cx.nox, cxOf] <;> rfl))))
        (dss_cons (ds_set 12 sc__law_sweeps.nd (de_call (d__law_of T) (hr.mono (by decide)) T.m__law_of T.F__law_of.kp T.b__law_of (da_cons (de_var 0) (da_cons (de_add (de_lr2 rfl T.z_list T.z_range (de_add (de_var 7) de_int) (de_var 3)) (de_lst (da_cons de_non da_nil))) da_nil))))
        (dss_cons (ds_for PassesOwn.never rfl (di_seq (de_tup (da_cons de_str (da_cons de_str da_nil)))) (dg_name 13 sc__law_sweeps.nd) (dss_one (ds_if (dt_eq hr (de_var 9) (de_var 13)) (dss_one (ds_app 11 (de_tup (da_cons (de_call (d__law_of T) (hr.mono (by decide)) T.m__law_of T.F__law_of.kp T.b__law_of (da_cons (de_var 0) (da_cons (de_var 5) da_nil))) (da_cons (de_frz 13) (da_cons (de_frz 7) da_nil)))))) (dss_one (ds_if (DW.dt (dw_or (dt_is (de_var 12) de_non) (dw_or1 (dt_eq hr (de_sub (de_var 12) (de_mul (de_fdiv (de_var 12) de_int) de_int)) (de_var 8))))) (dss_one (ds_app 11 (de_tup (da_cons (de_call (d__law_of T) (hr.mono (by decide)) T.m__law_of T.F__law_of.kp T.b__law_of (da_cons (de_var 0) (da_cons (de_var 5) da_nil))) (da_cons de_str (da_cons de_int da_nil)))))) (dss_one (ds_app 11 (de_tup (da_cons (de_call (d__law_of T) (hr.mono (by decide)) T.m__law_of T.F__law_of.kp T.b__law_of (da_cons (de_var 0) (da_cons (de_var 5) da_nil))) (da_cons (de_frz 13) (da_cons (de_frz 12) da_nil)))))))))))
        (dss_one (ds_app 4 (de_callTy call_tuple_of cs_tuple T.z_tuple (by decide +kernel) (da_cons (de_var 11) da_nil)))))))))))
        (dss_cons (ds_if (dt_eq hr (de_call (d__law_pick T) (hr.mono (by decide)) T.m__law_pick T.F__law_pick.kp T.b__law_pick (da_cons (de_var 0) (da_cons de_int da_nil))) de_int) (dss_cons (ds_par2 14 15 rfl sc__law_sweeps.nd (da_cons (de_call (d__law_pick T) (hr.mono (by decide)) T.m__law_pick T.F__law_pick.kp T.b__law_pick (da_cons (de_var 0) (da_cons (de_var 3) da_nil))) (da_cons (de_call (d__law_pick T) (hr.mono (by decide)) T.m__law_pick T.F__law_pick.kp T.b__law_pick (da_cons (de_var 0) (da_cons (de_var 2) da_nil))) da_nil)))
        (dss_cons (ds_set 9 sc__law_sweeps.nd (de_call (d__law_of T) (hr.mono (by decide)) T.m__law_of T.F__law_of.kp T.b__law_of (da_cons (de_var 0) (da_cons (de_lst (da_cons de_str (da_cons de_str (da_cons de_str da_nil)))) da_nil))))
        (dss_cons (ds_set 16 sc__law_sweeps.nd (de_tup (da_cons (de_call (d__law_of T) (hr.mono (by decide)) T.m__law_of T.F__law_of.kp T.b__law_of (da_cons (de_var 0) (da_cons (de_var 5) da_nil))) (da_cons (de_frz 9) (da_cons (de_if (h1 := tC .non) (dt_eq hr (de_var 9) de_str) de_int (de_call (d__law_pick T) (hr.mono (by decide)) T.m__law_pick T.F__law_pick.kp T.b__law_pick (da_cons (de_var 0) (da_cons (de_var 3) da_nil)))) da_nil)))))
        (dss_one (ds_setI 4 (de_add (de_add (de_sl (de_ix (de_var 4) (de_var 14)) do_none (do_some (de_var 15))) (de_tup (da_cons (de_frz 16) da_nil))) (de_sl (de_ix (de_var 4) (de_var 14)) (do_some (de_add (de_var 15) de_int)) do_none)) (de_var 14)))))) dss_nil)
        (dss_one (ds_ret (de_callTy call_tuple_of cs_tuple T.z_tuple (by decide +kernel) (da_cons (de_var 4) da_nil))))))))⟩

def g__law_sign : SS := (gSeq (gIf (fTest (fOp (eqB false) (fVar 2) (fC (.int 0))))
  (gRet (fAr (o1 lenB) (aCons (fOp ixB (fVar 0) (fC (.int 0))) aNil)))
  gNext)
  (gRet (fIf (fTest (fOp gtB (fVar 2) (fAr (o1 lenB) (aCons (fVar 1) aNil)))) (fOp addB (fAr (o1 lenB) (aCons (fOp ixB (fVar 0) (fC (.int 0))) aNil)) (fC (.int 1))) (fMe indexB (fAr (o1 listB) (aCons (fOp ixB (fVar 0) (fC (.int 0))) aNil)) (aCons (fOp ixB (fVar 1) (fOp subB (fVar 2) (fC (.int 1)))) aNil)))))
def F__law_sign : FD := runB 3 3 g__law_sign
theorem d__law_sign (T : Tx K mg t) : FnD P w K mg base 1 t.f__law_sign t.d__law_sign ["sheet", "row", "place"] F__law_sign :=
    fn_d T.F__law_sign sc__law_sign fun so cdv A outer s H hr => ⟨_, (dss_cons (ds_if (dt_eq hr (de_var 2) de_int) (dss_one (ds_ret (de_callB call_lenA cs_len T.z_len PySem.boot_len (da_cons (de_ix (de_var 0) de_int) da_nil)))) dss_nil)
        (dss_one (ds_ret (de_if (h1 := tC .non) (dt_gt (de_var 2) (de_callB call_lenA cs_len T.z_len PySem.boot_len (da_cons (de_var 1) da_nil))) (de_add (de_callB call_lenA cs_len T.z_len PySem.boot_len (da_cons (de_ix (de_var 0) de_int) da_nil)) de_int) (de_bm PySem.F.plainAttrs_list PySem.F.slot_list_index PySem.F.type_list_index mt_index mes_index (de_callTy call_list_of cs_list T.z_list (by decide +kernel) (da_cons (de_ix (de_var 0) de_int) da_nil)) (da_cons (de_ix (de_var 1) (de_sub (de_var 2) de_int)) da_nil))))))⟩

abbrev l__law_run_1 : SS := (gSeq (gDput 6 (fAr tupB (aCons (fFrz 3) (aCons (fFrz 4) aNil))) (fC (.int 0)))
  (gSeq (gAppend 7 (fFrz 3))
  (gSeq (gAsg (sTup 3 (sCons (sName 8) (sCons (sName 9) (sCons (sName 10) sNil)))) (fOp ixB (fOp ixB (fVar 1) (fVar 4)) (fCall F__law_sign (aCons (fVar 0) (aCons (fVar 2) (aCons (fVar 3) aNil))))))
  (gSeq (gIf (fTest (fOp (isB true) (fVar 8) (fC .none)))
  (gAppend 5 (fAr tupB (aCons (fFrz 8) (aCons (fFrz 3) aNil))))
  gNext)
  (gSeq (gIf (fTest (fOp (eqB false) (fVar 9) (fC (.str "halt"))))
  (gRet (fAr tupB (aCons (fAr (o1 tupleB) (aCons (fVar 5) aNil)) (aCons (fFrz 7) aNil))))
  gNext)
  (gPar (sCons (sName 3) (sCons (sName 4) sNil)) (aCons (fOp addB (fVar 3) (fIf (fTest (fOp (eqB false) (fVar 9) (fC (.str "right")))) (fC (.int 1)) (fUn negB (fC (.int 1))))) (aCons (fFrz 10) aNil))))))))
def g__law_run : SS := (gSeq (gParN 5 (sCons (sName 3) (sCons (sName 4) (sCons (sName 5) (sCons (sName 6) (sCons (sName 7) sNil))))) (aCons (fC (.int 0)) (aCons (fC (.int 0)) (aCons (fAr lstB aNil) (aCons fNewT (aCons (fAr lstB aNil) aNil))))))
  (gSeq (gWhile (fTest (fDin true 6 (fAr tupB (aCons (fFrz 3) (aCons (fFrz 4) aNil)))))
  l__law_run_1)
  (gRet (fAr tupB (aCons (fC .none) (aCons (fFrz 7) aNil))))))
def F__law_run : FD := runB 3 11 g__law_run
theorem d__law_run (T : Tx K mg t) : FnD P w K mg base 2 t.f__law_run t.d__law_run ["sheet", "program", "row"] F__law_run :=
    fn_d T.F__law_run sc__law_run fun so cdv A outer s H hr => ⟨_, (dss_cons (ds_parT rfl (by decide) (da_cons de_int (da_cons de_int (da_cons (de_lst da_nil) (da_cons de_newT (da_cons (de_lst da_nil) da_nil))))) (dgs_cons (dg_name 3 sc__law_run.nd) (dgs_cons (dg_name 4 sc__law_run.nd) (dgs_cons (dg_name 5 sc__law_run.nd) (dgs_cons (dg_name 6 sc__law_run.nd) (dgs_cons (dg_name 7 sc__law_run.nd) dgs_nil))))))
        (dss_cons (ds_while PassesOwn.never (dt_dnin hr (i := 6) (de_tup (da_cons (de_frz 3) (da_cons (de_frz 4) da_nil)))) (dss_cons (ds_dput 6 hr de_int (de_tup (da_cons (de_frz 3) (da_cons (de_frz 4) da_nil))))
        (dss_cons (ds_app 7 (de_frz 3))
        (dss_cons (ds_asg (de_ix (de_ix (de_var 1) (de_var 4)) (de_call (d__law_sign T) (hr.mono (by decide)) T.m__law_sign T.F__law_sign.kp T.b__law_sign (da_cons (de_var 0) (da_cons (de_var 2) (da_cons (de_var 3) da_nil))))) (dg_tup rfl (dgs_cons (dg_name 8 sc__law_run.nd) (dgs_cons (dg_name 9 sc__law_run.nd) (dgs_cons (dg_name 10 sc__law_run.nd) dgs_nil)))))
        (dss_cons (ds_if (dt_isn (de_var 8) de_non) (dss_one (ds_app 5 (de_tup (da_cons (de_frz 8) (da_cons (de_frz 3) da_nil))))) dss_nil)
        (dss_cons (ds_if (dt_eq hr (de_var 9) de_str) (dss_one (ds_ret (de_tup (da_cons (de_callTy call_tuple_of cs_tuple T.z_tuple (by decide +kernel) (da_cons (de_var 5) da_nil)) (da_cons (de_frz 7) da_nil))))) dss_nil)
        (dss_one (ds_par2 3 4 rfl sc__law_run.nd (da_cons (de_add (de_var 3) (de_if (h1 := tC .non) (dt_eq hr (de_var 9) de_str) de_int (de_neg de_int))) (da_cons (de_frz 10) da_nil))))))))))
        (dss_one (ds_ret (de_tup (da_cons de_non (da_cons (de_frz 7) da_nil)))))))⟩

abbrev l__law_turns_1 : SS := (gSeq (gAsg (sName 5) (fIf (fTest (fOp leB (fVar 4) (fVar 1))) (fC (.str "L")) (fC (.str "R"))))
  (gAsg (sName 2) (fOp addB (fVar 2) (fOp mulB (fAr lstB (aCons (fFrz 5) aNil)) (fAr (o1 intB) (aCons (fOp (eqB true) (fSl (fVar 2) (oSome (fUn negB (fC (.int 1)))) oNone) (fAr lstB (aCons (fFrz 5) aNil))) aNil))))))
def g__law_turns : SS := (gSeq (gIf (fTest (fOp (isB false) (fVar 0) (fC .none)))
  (gRet (fC .none))
  gNext)
  (gSeq (gAsg (sName 2) (fAr lstB aNil))
  (gSeq (gFor (sTup 2 (sCons (sName 3) (sCons (sName 4) sNil))) (fiSeq (fFrz 0))
  l__law_turns_1)
  (gRet (fAr (o1 tupleB) (aCons (fVar 2) aNil))))))
def F__law_turns : FD := runB 2 6 g__law_turns
theorem d__law_turns (T : Tx K mg t) : FnD P w K mg base 1 t.f__law_turns t.d__law_turns ["writing", "cut"] F__law_turns :=
    fn_d T.F__law_turns sc__law_turns fun so cdv A outer s H hr => ⟨_, (dss_cons (ds_if (dt_is (de_var 0) de_non) (dss_one (ds_ret de_non)) dss_nil)
        (dss_cons (ds_set 2 sc__law_turns.nd (de_lst da_nil))
        (dss_cons (ds_for PassesOwn.never rfl (di_seq (de_frz 0)) (dg_tup rfl (dgs_cons (dg_name 3 sc__law_turns.nd) (dgs_cons (dg_name 4 sc__law_turns.nd) dgs_nil))) (dss_cons (ds_set 5 sc__law_turns.nd (de_if (h1 := tC .non) (dt_le (de_var 4) (de_var 1)) de_str de_str))
        (dss_one (ds_set 2 sc__law_turns.nd (de_add (de_var 2) (de_mul (de_lst (da_cons (de_frz 5) da_nil)) (de_callTy call_int1 cs_int T.z_int (by decide +kernel) (da_cons (de_ne hr (de_sl (de_var 2) (do_some (de_neg de_int)) do_none) (de_lst (da_cons (de_frz 5) da_nil))) da_nil))))))))
        (dss_one (ds_ret (de_callTy call_tuple_of cs_tuple T.z_tuple (by decide +kernel) (da_cons (de_var 2) da_nil)))))))⟩

def g_is_piece : SS := (gSeq (gIf (fTest (fOp (isB false) (fVar 0) (fC .none)))
  (gRet (fC (.bool true)))
  gNext)
  (gSeq (gIf (bOr (bNot (fTest (fUn (isiB "tuple") (fVar 0)))) (bNot (fTest (fAr (o1 allB) (aCons (fLc [2] (sName 2) (fiSeq (fVar 0)) bYes (fUn (isiB "str") (fVar 2))) aNil)))))
  (gRet (fC (.bool false)))
  gNext)
  (gSeq (gIf (bNot (fTest (fAr (o1 allB) (aCons (fLc [2] (sName 2) (fiSeq (fVar 0)) bYes (fOr (fOp (inB false) (fVar 2) (fAr tupB (aCons (fC (.str "L")) (aCons (fC (.str "R")) aNil)))) (fOp (inB false) (fVar 2) (fVar 1)))) aNil))))
  (gRet (fC (.bool false)))
  gNext)
  (gRet (fAr (o1 allB) (aCons (fLc [3] (sName 3) (fiAr rng2I (aCons (fC (.int 1)) (aCons (fAr (o1 lenB) (aCons (fVar 0) aNil)) aNil))) bYes (fOr (fOp (eqB true) (fOp ixB (fVar 0) (fVar 3)) (fOp ixB (fVar 0) (fOp subB (fVar 3) (fC (.int 1))))) (fOp (inB true) (fOp ixB (fVar 0) (fVar 3)) (fAr tupB (aCons (fC (.str "L")) (aCons (fC (.str "R")) aNil)))))) aNil))))))
def F_is_piece : FD := runB 2 4 g_is_piece
theorem d_is_piece (T : Tx K mg t) : FnD P w K mg base 1 t.f_is_piece t.d_is_piece ["value", "letters"] F_is_piece :=
    fn_d T.F_is_piece sc_is_piece fun so cdv A outer s H hr => ⟨_, (dss_cons (ds_if (dt_is (de_var 0) de_non) (dss_one (ds_ret de_bl)) dss_nil)
        (dss_cons (ds_if (DW.dt (dw_or (dt_not (dt_val (de_isi T.z_isinstance T.z_tuple (by decide +kernel) (de_var 0)))) (dw_or1 (dt_not (dt_val (de_callB (cr_all rfl) cs_all T.z_all (by decide +kernel) (da_cons (de_lc (own := [("one", 2)]) N_is_piece (defScope s_is_piece)  rfl sc_is_piece.nd (di_seq (de_var 0)) (by decide +kernel) (fun _ _ _ _ _ => (by refine DG.cast (dg_name 2 sc_is_piece.nd) ?_; first | rfl | (dsimp only [Cx.blk, Cx.nox, cxOf] <;> rfl))) (by decide) (fun _ _ _ _ _ => dts_nil) (fun _ _ _ _ _ => (by refine DE.cast (de_isi T.z_isinstance T.z_str (by decide +kernel) (de_var 2)) ?_; first | rfl | (dsimp only [Cx.blk, Cx.nox, cxOf] <;> rfl)))) da_nil))))))) (dss_one (ds_ret de_bl)) dss_nil)
        (dss_cons (ds_if (dt_not (dt_val (de_callB (cr_all rfl) cs_all T.z_all (by decide +kernel) (da_cons (de_lc (own := [("one", 2)]) N_is_piece (defScope s_is_piece)  rfl sc_is_piece.nd (di_seq (de_var 0)) (by decide +kernel) (fun _ _ _ _ _ => (by refine DG.cast (dg_name 2 sc_is_piece.nd) ?_; first | rfl | (dsimp only [Cx.blk, Cx.nox, cxOf] <;> rfl))) (by decide) (fun _ _ _ _ _ => dts_nil) (fun _ _ _ _ _ => (by refine DE.cast (de_or (de_in hr (de_var 2) (de_tup (da_cons (de_gstr T.c_LEFT.choose_spec) (da_cons (de_gstr T.c_RIGHT.choose_spec) da_nil)))) (de_one (de_in hr (de_var 2) (de_var 1)))) ?_; first | rfl | (dsimp only [Cx.blk, Cx.nox, cxOf] <;> rfl)))) da_nil)))) (dss_one (ds_ret de_bl)) dss_nil)
        (dss_one (ds_ret (de_callB (cr_all rfl) cs_all T.z_all (by decide +kernel) (da_cons (de_lc (own := [("k", 3)]) N_is_piece (defScope s_is_piece)  rfl sc_is_piece.nd (di_rng2 T.z_range (da_cons de_int (da_cons (de_callB call_lenA cs_len T.z_len PySem.boot_len (da_cons (de_var 0) da_nil)) da_nil))) (by decide +kernel) (fun _ _ _ _ _ => (by refine DG.cast (dg_name 3 sc_is_piece.nd) ?_; first | rfl | (dsimp only [Cx.blk, Cx.nox, cxOf] <;> rfl))) (by decide) (fun _ _ _ _ _ => dts_nil) (fun _ _ _ _ _ => (by refine DE.cast (de_or (de_ne hr (de_ix (de_var 0) (de_var 3)) (de_ix (de_var 0) (de_sub (de_var 3) de_int))) (de_one (de_nin hr (de_ix (de_var 0) (de_var 3)) (de_tup (da_cons (de_gstr T.c_LEFT.choose_spec) (da_cons (de_gstr T.c_RIGHT.choose_spec) da_nil)))))) ?_; first | rfl | (dsimp only [Cx.blk, Cx.nox, cxOf] <;> rfl)))) da_nil)))))))⟩

def isStrD : PyData → Bool
  | .str x => PyData.strOk x
  | _ => false
def c_put : SB := bOr (fTest (fOp (eqB false) (fVar 0) (fAr lstB aNil))) (bOr (fTest (fOp (eqB true) (fOp ixB (fVar 0) (fUn negB (fC (.int 1)))) (fVar 1))) (fTest (fOp (inB true) (fVar 1) (fAr tupB (aCons (fC (.str "L")) (aCons (fC (.str "R")) aNil))))))
def lastNe (ds : List PyData) (x : Str) : Bool := match ds.getLast? with
  | some (.str y) => !decide (y = x)
  | _ => true
def putS (ds : List PyData) (x : Str) : Bool := lastNe ds x || !(("L" : Str) == x || ("R" : Str) == x)
def F_put_sign (ds : List PyData) (d : PyData) : Option (List PyData) := match d with
  | .str x => if (decide (ds.length < 1000000) && ds.all isStrD && PyData.strOk x) = true then some (if putS ds x = true then ds ++ [.str x] else ds) else none
  | _ => none
theorem canLay_strs : ∀ {ds : List PyData}, ds.all isStrD = true → PyData.canLayAll0 ds = true
  | [], _ => rfl
  | d :: r, h => by
    simp only [List.all_cons, Bool.and_eq_true] at h
    cases d with
    | str x => simp only [PyData.canLayAll0, PyData.canLay0, Bool.and_eq_true]; exact ⟨h.1, canLay_strs h.2⟩
    | _ => cases h.1
theorem depth_strs : ∀ {ds : List PyData}, ds.all isStrD = true → PyData.depthAll ds = 0
  | [], _ => rfl
  | d :: r, h => by
    simp only [List.all_cons, Bool.and_eq_true] at h
    cases d with
    | str x => simp only [PyData.depthAll, PyData.depth, depth_strs h.2, Nat.max_self]
    | _ => cases h.1
theorem shaped_strs {ds : List PyData} (h : ds.all isStrD = true) : SeqAt.shaped (.list ds) = true := by
  simp [SeqAt.shaped, PyData.canLay0, canLay_strs h, PyData.depth, depth_strs h]
theorem c_put_ok {ds : List PyData} {x : Str} (h : ds.all isStrD = true) (hx : PyData.strOk x = true) (S : Src) : c_put [some (.lst ds), some (.imm (.str x))] S = .ok (putS ds x) [some (.lst ds), some (.imm (.str x))] S := by
  have e1 : (fTest (fOp (eqB false) (fVar 0) (fAr lstB aNil))) [some (.lst ds), some (.imm (.str x))] S = .ok (decide (ds = [])) [some (.lst ds), some (.imm (.str x))] S := by
    have : eqB false (.bor ds) (.lst []) = some (.imm (.bool (decide (ds = [])))) := by
      unfold eqB
      simp only [toD, shaped_strs h, show SeqAt.shaped (.list []) = true by decide, Bool.and_self, if_true]
      cases ds with
      | nil => rfl
      | cons a r => simp [PyData.eqv, PyData.eqvAll]
    simp [fTest, fOp, fVar, fAr, aNil, lstB, toFs, R.bind, R.of, this]
  rcases List.eq_nil_or_concat ds with rfl | ⟨r, l, rfl⟩
  · unfold c_put bOr
    rw [e1]
    rfl
  · have hl : isStrD l = true := by
      have := h
      simp only [List.concat_eq_append, List.all_append, Bool.and_eq_true, List.all_cons] at this
      exact this.2.1
    cases l with
    | str y =>
      have e2 : (fTest (fOp (eqB true) (fOp ixB (fVar 0) (fUn negB (fC (.int 1)))) (fVar 1))) [some (.lst (r.concat (.str y))), some (.imm (.str x))] S = .ok (!decide (y = x)) [some (.lst (r.concat (.str y))), some (.imm (.str x))] S := by
        have h1 : ixB (.bor (r.concat (.str y))) (.imm (.int (-1))) = some (.imm (.str y)) := by
          simp only [ixB, toD, toL, List.concat_eq_append]
          rw [atI_last]
          rfl
        have h2 : eqB true (.imm (.str y)) (.imm (.str x)) = some (.imm (.bool (!decide (y = x)))) := rfl
        rw [List.concat_eq_append] at h1
        simp [fTest, fOp, fVar, fUn, fC, R.bind, R.of, negB, toD, h1, h2]
      have e3 : (fTest (fOp (inB true) (fVar 1) (fAr tupB (aCons (fC (.str "L")) (aCons (fC (.str "R")) aNil))))) [some (.lst (r.concat (.str y))), some (.imm (.str x))] S = .ok (!(("L" : Str) == x || ("R" : Str) == x)) [some (.lst (r.concat (.str y))), some (.imm (.str x))] S := by
        have : inB true (.imm (.str x)) (.imm (.tuple [.str "L", .str "R"])) = some (.imm (.bool (!(("L" : Str) == x || ("R" : Str) == x)))) := by
          simp [inB, toD, itemsD, flatD, PyData.eqv]
        simp [fTest, fOp, fVar, fAr, aCons, aNil, fC, tupB, toFs, toF, R.bind, R.of, this]
      unfold c_put bOr
      rw [e1]
      have d0 : decide (r.concat (PyData.str y) = []) = false := by simp
      rw [d0]
      simp only [R.bind, Bool.false_eq_true, if_false]
      rw [e2]
      have lst : lastNe (r.concat (.str y)) x = !decide (y = x) := by simp [lastNe]
      simp only [R.bind]
      rw [e3]
      unfold putS
      rw [lst]
      cases !decide (y = x) <;> rfl
    | _ => cases hl
theorem F_put_some {ds ds' : List PyData} {d : PyData} (h : F_put_sign ds d = some ds') : ∃ x, d = .str x ∧ ds.length < 1000000 ∧ ds.all isStrD = true ∧ PyData.strOk x = true ∧ ds' = if putS ds x = true then ds ++ [.str x] else ds := by
  unfold F_put_sign at h
  split at h
  · rename_i x
    split at h
    · rename_i hz
      simp only [Bool.and_eq_true, decide_eq_true_eq] at hz
      exact ⟨x, rfl, hz.1.1, hz.1.2, hz.2, (Option.some.inj h).symm⟩
    · cases h
  · cases h
theorem put_end {X : Cx} {so : SO} {e : Expr} {app : Stmt} {pos : Pos} {tt : TT} {u : TS} {c : SB} (hc : DT X so e tt c) (ha : PS X app u) : PSs X [.If e [app] [] pos] (tIfS tt u tNext) ∧ RdT X.K so tt c := ⟨pss_one (ps_if hc.pt (pss_one ha) pss_nil), hc.rd⟩
theorem d_put_sign (T : Tx K mg t) : FnM P w K mg base 1 t.f_put_sign t.d_put_sign ["found", "sign"] F_put_sign := by
  intro so
  refine FnG.body T.F_put_sign sc_put_sign (fun vs H Q E h => ?_) fun cdv A outer s H vs Q hr h => ?_
  · obtain ⟨a, y, ds, d, S, A', rfl, _⟩ := h
    rfl
  · obtain ⟨tt, h1, h2⟩ : ∃ tt, PSs (cxOf CX0 P w K mg base N_put_sign "put_sign" (defScope s_put_sign) t.f_put_sign cdv A outer s H E0).nox (defBody s_put_sign) (tIfS tt (tDrop (tBM K "list" rAppend (tVar 0) (tCons (tVar 1) tNil))) tNext) ∧ RdT K so tt c_put := ⟨_, put_end
      (DW.dt (dw_or (dt_eq hr (de_var 0) (de_lst da_nil)) (dw_or (dt_ne hr (de_ix (de_var 0) (de_neg de_int)) (de_var 1)) (dw_or1 (dt_nin hr (de_var 1) (de_tup (da_cons (de_gstr T.c_LEFT.choose_spec) (da_cons (de_gstr T.c_RIGHT.choose_spec) da_nil))))))))
      (ps_expr (pe_bm PySem.F.plainAttrs_list PySem.F.slot_list_append PySem.F.type_list_append mt_append (pv 0) (pa_cons (pv 1) pa_nil)))⟩
    refine ⟨_, h1, ?_⟩
    obtain ⟨a, y, ds, d, S, A', rfl, M, h⟩ := h
    cases e : F_put_sign ds d with
    | none => rw [e] at h; exact h.elim
    | some ds' =>
    rw [e] at h
    obtain ⟨x, rfl, hl, hs, hx, rfl⟩ := F_put_some e
    have M1 : Mt K so (rmH H a) A' S ([some (.ref a), some y] ++ []) ([some (.lst ds), some (.imm (.str x))] ++ []) H A' := M
    refine h2 (rmH H a) A' S [some (.ref a), some y] [some (.lst ds), some (.imm (.str x))] [] [] H A' _ rfl M1 ?_
    rw [c_put_ok hs hx]
    intro H1 A1 _ M2
    by_cases hp : putS ds x = true
    · rw [if_pos hp] at h ⊢
      obtain ⟨v0, e0, a1, vs1, rfl, ha, na, h0, hd⟩ := M2.bd 0 _ rfl
      cases e0
      obtain ⟨v1, e1, o1⟩ := M2.bd 1 _ rfl
      cases e1
      have M3 : Mt K so (rmH H a) A' S [some (.ref a)] [some (.lst ds)] H1 A1 := Mt.sub (σ := [some (.ref a)]) (ρ := [some (.lst ds)]) (xs := [some y]) (ys := [some (.imm (.str x))]) M2 rfl
      refine ⟨.ref a, rfl, .inl ⟨rfl, _, SqL.of ha⟩, y, rfl, a, vs1, y, rfl, rfl, ha, lim1 (by rw [hd.length]; exact hl), ?_⟩
      have M4 : Mt K so (rmH H a) A' S ([some (.ref a)] ++ []) ([some (.lst ds)] ++ []) H1 A1 := M3
      have M5 := M4.change rfl (fun b hb => nomatch hb) rfl (i := 0) rfl rfl (hd.append (.one o1))
      exact h _ A1 M5
    · rw [if_neg hp] at h ⊢
      have M3 : Mt K so (rmH H a) A' S [some (.ref a)] [some (.lst ds)] H1 A1 := Mt.sub (σ := [some (.ref a)]) (ρ := [some (.lst ds)]) (xs := [some y]) (ys := [some (.imm (.str x))]) M2 rfl
      exact h _ A1 M3

abbrev l_piece_of_1 : SS := (gLend F_put_sign 2 (fIf (fTest (fOp (eqB false) (fVar 4) (fVar 1))) (fFrz 3) (fIf (fTest (fOp ltB (fVar 4) (fVar 1))) (fC (.str "L")) (fC (.str "R")))))
def g_piece_of : SS := (gSeq (gIf (fTest (fOp (isB false) (fVar 0) (fC .none)))
  (gRet (fC .none))
  gNext)
  (gSeq (gAsg (sName 2) (fAr lstB aNil))
  (gSeq (gFor (sTup 2 (sCons (sName 3) (sCons (sName 4) sNil))) (fiSeq (fFrz 0))
  l_piece_of_1)
  (gRet (fAr (o1 tupleB) (aCons (fVar 2) aNil))))))
def F_piece_of : FD := runB 2 5 g_piece_of
theorem d_piece_of (T : Tx K mg t) : FnD P w K mg base 2 t.f_piece_of t.d_piece_of ["writing", "place"] F_piece_of :=
    fn_d T.F_piece_of sc_piece_of fun so cdv A outer s H hr => ⟨_, (dss_cons (ds_if (dt_is (de_var 0) de_non) (dss_one (ds_ret de_non)) dss_nil)
        (dss_cons (ds_set 2 sc_piece_of.nd (de_lst da_nil))
        (dss_cons (ds_for PassesOwn.never rfl (di_seq (de_frz 0)) (dg_tup rfl (dgs_cons (dg_name 3 sc_piece_of.nd) (dgs_cons (dg_name 4 sc_piece_of.nd) dgs_nil))) (dss_one (ds_lend 2 (d_put_sign T) (hr.mono (by decide)) T.m_put_sign T.F_put_sign.kp T.b_put_sign (de_if (h1 := tC .non) (dt_eq hr (de_var 4) (de_var 1)) (de_frz 3) (de_if (h1 := tC .non) (dt_lt (de_var 4) (de_var 1)) (de_gstr T.c_LEFT.choose_spec) (de_gstr T.c_RIGHT.choose_spec))))))
        (dss_one (ds_ret (de_callTy call_tuple_of cs_tuple T.z_tuple (by decide +kernel) (da_cons (de_var 2) da_nil)))))))⟩

def sideS (cut p : Int) : Str := if p ≤ cut then "L" else "R"
/-- blocks, letter by letter -/
def blkStep (cut : Int) (acc : List (Str × List (Str × Int))) (q : Str × Int) : List (Str × List (Str × Int)) := match acc.getLast? with
  | some (s, l) => if s = sideS cut q.2 then acc.dropLast ++ [(s, l ++ [q])] else acc ++ [(sideS cut q.2, [q])]
  | none => [(sideS cut q.2, [q])]
def blkL (cut : Int) (ws : List (Str × Int)) : List (Str × List (Str × Int)) := ws.foldl (blkStep cut) []
def encP (q : Str × Int) : PyData := .tuple [.str q.1, .int q.2]
def enc (ws : List (Str × Int)) : List PyData := ws.map encP
def blkD (b : Str × List (Str × Int)) : PyData := .tuple [.str b.1, .tuple (enc b.2)]
def pairsD : List PyData → Option (List (Str × Int))
  | [] => some []
  | .tuple [.str l, .int p] :: r => (pairsD r).map ((l, p) :: ·)
  | _ => none
def F_blocks_of : FD := fun bs S => match bs with
  | [.imm .none, .imm (.int _)] => some (.imm .none, S)
  | [.imm (.tuple ds), .imm (.int cut)] => (pairsD ds).bind fun ws => if ds.length ≤ 1000 then some (.imm (.tuple ((blkL cut ws).map blkD)), S) else none
  | _ => none
theorem pairsD_eq : ∀ {ds : List PyData} {ws : List (Str × Int)}, pairsD ds = some ws → ds = enc ws
  | [], ws, h => by cases h; rfl
  | d :: r, ws, h => by
    unfold pairsD at h
    split at h
    · rename_i e; cases e
    · rename_i l p r' e
      cases e
      cases hr : pairsD r with
      | none => rw [hr] at h; cases h
      | some ws' =>
        rw [hr] at h
        cases h
        rw [pairsD_eq hr]
        rfl
    · cases h
theorem F_blocks_some {bs : List Bd} {S : Src} {r : Bd × Src} (h : F_blocks_of bs S = some r) : (∃ c, bs = [.imm .none, .imm (.int c)] ∧ r = (.imm .none, S)) ∨
    ∃ ws c, bs = [.imm (.tuple (enc ws)), .imm (.int c)] ∧ ws.length ≤ 1000 ∧ r = (.imm (.tuple ((blkL c ws).map blkD)), S) := by
  unfold F_blocks_of at h
  split at h
  · rename_i c
    cases h
    exact .inl ⟨c, rfl, rfl⟩
  · rename_i ds c
    cases hp : pairsD ds with
    | none => rw [hp] at h; cases h
    | some ws =>
      rw [hp] at h
      have e := pairsD_eq hp
      simp only [Option.bind_some] at h
      split at h
      · rename_i hl
        cases h
        subst e
        exact .inr ⟨ws, c, rfl, by simpa [enc] using hl, rfl⟩
      · cases h
  · cases h
def gb1 : SS := (gIf (fTest (fOp (isB false) (fVar 0) (fC .none))) (gRet (fC .none)) gNext)
def gb2 : SS := (gParN 2 (sCons (sName 2) (sCons (sName 3) sNil)) (aCons (fAr lstB aNil) (aCons (fAr lstB aNil) aNil)))
def gb3 : SS := (gAsg (sName 6) (fIf (fTest (fOp leB (fVar 5) (fVar 1))) (fC (.str "L")) (fC (.str "R"))))
def cb4 : SB := (bOr (fTest (fOp (eqB false) (fVar 2) (fAr lstB aNil))) (fTest (fOp (eqB true) (fOp ixB (fVar 2) (fUn negB (fC (.int 1)))) (fVar 6))))
def gb5 : SS := (gAppend 2 (fFrz 6))
def gb6 : SS := (gRet (fAr (o1 tupleB) (aCons (fLc [7, 6] (sTup 2 (sCons (sName 7) (sCons (sName 6) sNil))) (fiAr enumI (aCons (fVar 2) aNil)) bYes (fAr tupB (aCons (fFrz 6) (aCons (fAr (o1 tupleB) (aCons (fOp ixB (fVar 3) (fVar 7)) aNil)) aNil)))) aNil)))
abbrev tgb : Bd → En → Option En := (sTup 2 (sCons (sName 4) (sCons (sName 5) sNil)))
/-- the loop's own terms -/
def tApp1 (K : PySem.W.Frag) : TS := tDrop (tBM K "list" rAppend (tVar 3) (tCons (tLst tNil) tNil))
def tApp2 (K : PySem.W.Frag) : TS := tDrop (tBM K "list" rAppend (tOp (rIx K) (tVar 3) (tUn (rU fun i => .int (-i)) (tC (.int 1)))) (tCons (tTup (tCons (tVar 4) (tCons (tVar 5) tNil))) tNil))
structure BlkT (K : PySem.W.Frag) (so : SO) (T : TS) : Prop where
  ex : ∃ (t1 t2 t3 t5 t6 : TS) (tg : TG) (c4 : TT), T = tSeq t1 (tSeq t2 (tSeq (tFor (iTup K (tVar 0)) tg (tSeq t3 (tSeq (tIfS c4 (tSeq t5 (tApp1 K)) tNext) (tApp2 K)))) t6)) ∧
    RdS K so t1 gb1 ∧ RdS K so t2 gb2 ∧ RdG K none tg tgb ([4] ++ ([5] ++ [])) ∧ RdS K none t3 gb3 ∧ RdT K none c4 cb4 ∧ RdS K none t5 gb5 ∧ RdS K so t6 gb6
theorem blk_end {X : Cx} {so : SO} {s1 s2 s3 s5 a1 a2 : Stmt} {s6 : List Stmt} {tg0 it e4 : Expr} {p1 p2 : Pos} {t1 t2 t3 t5 t6 : TS} {tg : TG} {c4 : TT} (hc : X.calm = true) (h1 : DS X so s1 t1 gb1) (h2 : DS X so s2 t2 gb2) (hi : PE X it (tVar 0)) (hg : DG X none tg0 tg tgb ([4] ++ ([5] ++ [])))
    (h3 : DS X none s3 t3 gb3) (h4 : DT X none e4 c4 cb4) (h5 : DS X none s5 t5 gb5) (ha1 : PS X a1 (tApp1 X.K)) (ha2 : PS X a2 (tApp2 X.K)) (h6 : DSs X so s6 t6 gb6) (hs : ∀ v, foldedSetIterable it X.env v = pure v) (hp : PassesOwn (model X.prog X.w) X.A X.env X.xe) :
    ∃ T, PSs X (s1 :: s2 :: .For tg0 it [s3, .If e4 [s5, a1] [] p1, a2] [] p2 :: s6) T ∧ BlkT X.K so T :=
  ⟨_, pss_cons h1.ps (pss_cons h2.ps (pss_cons (ps_for hp hc (pi_tup hi) hg.pg (pss_cons h3.ps (pss_cons (ps_if h4.pt (pss_cons h5.ps (pss_one ha1)) pss_nil) (pss_one ha2))) (hs := hs)) h6.pss)),
    ⟨_, _, _, _, _, _, _, rfl, h1.rd, h2.rd, hg.rd, h3.rd, h4.rd, h5.rd, h6.rd⟩⟩
theorem p_side {i j : Nat} {cut p : Int} {ρ : En} {S : Src} {Q : Bd → En → Src → Prop} (e1 : ρ[i]? = some (some (.imm (.int p)))) (e2 : ρ[j]? = some (some (.imm (.int cut)))) (h : Q (.imm (.str (sideS cut p))) ρ S) :
    (fIf (fTest (fOp leB (fVar i) (fVar j))) (fC (.str "L")) (fC (.str "R")) ρ S).Post Q := by
  refine p_ife (p_test (p_op (p_var e1 rfl (p_var e2 rfl ⟨_, rfl, _, rfl, bh_d (fun z => p_c ?_) fun z => p_c ?_⟩))))
  · unfold sideS at h; rw [if_pos z] at h; exact h
  · unfold sideS at h; rw [if_neg z] at h; exact h
theorem blk_snoc {cut : Int} {ws : List (Str × Int)} {q : Str × Int} : blkL cut (ws ++ [q]) = blkStep cut (blkL cut ws) q := by
  unfold blkL
  rw [List.foldl_append]
  rfl
theorem snoc_ind {α : Type} {P : List α → Prop} (h0 : P []) (h : ∀ l x, P l → P (l ++ [x])) (l : List α) : P l := by
  rw [← List.reverse_reverse l]
  induction l.reverse with
  | nil => exact h0
  | cons x r ih => rw [List.reverse_cons]; exact h _ _ ih
theorem blk_cases {cut : Int} {acc : List (Str × List (Str × Int))} {q : Str × Int} : (∃ r l, acc = r ++ [(sideS cut q.2, l)] ∧ blkStep cut acc q = r ++ [(sideS cut q.2, l ++ [q])]) ∨
    ((acc = [] ∨ ∃ r s l, acc = r ++ [(s, l)] ∧ s ≠ sideS cut q.2) ∧ blkStep cut acc q = acc ++ [(sideS cut q.2, [q])]) := by
  rcases List.eq_nil_or_concat acc with rfl | ⟨r, b, rfl⟩
  · exact .inr ⟨.inl rfl, rfl⟩
  · obtain ⟨s, l⟩ := b
    rw [List.concat_eq_append]
    by_cases e : s = sideS cut q.2
    · subst e
      refine .inl ⟨r, l, rfl, ?_⟩
      simp [blkStep]
    · refine .inr ⟨.inr ⟨r, s, l, rfl, e⟩, ?_⟩
      simp [blkStep, e]
theorem blk_ok {cut : Int} : ∀ ws : List (Str × Int), (blkL cut ws).length ≤ ws.length ∧ (∀ b ∈ blkL cut ws, b.2.length ≤ ws.length ∧ (∃ p, b.1 = sideS cut p) ∧ ∀ q ∈ b.2, q ∈ ws) := by
  refine snoc_ind ⟨Nat.le_refl _, fun b hb => by simp [blkL] at hb⟩ fun ws q ih => ?_
  obtain ⟨i1, i2⟩ := ih
  rw [blk_snoc]
  rcases blk_cases (cut := cut) (acc := blkL cut ws) (q := q) with ⟨r, l, h1, h2⟩ | ⟨h1, h2⟩
  · rw [h2]
    rw [h1] at i1 i2
    refine ⟨by simp at i1 ⊢; omega, fun b hb => ?_⟩
    rw [List.mem_append, List.mem_singleton] at hb
    rcases hb with hb | rfl
    · obtain ⟨a, c, d⟩ := i2 b (List.mem_append_left _ hb)
      exact ⟨by simp; omega, c, fun q hq => List.mem_append_left _ (d q hq)⟩
    · obtain ⟨a, c, d⟩ := i2 (sideS cut q.2, l) (by simp)
      refine ⟨by simp at a ⊢; omega, ⟨q.2, rfl⟩, fun z hz => ?_⟩
      rw [List.mem_append] at hz ⊢
      exact hz.imp (d z) id
  · rw [h2]
    refine ⟨by simp; omega, fun b hb => ?_⟩
    rw [List.mem_append, List.mem_singleton] at hb
    rcases hb with hb | rfl
    · obtain ⟨a, c, d⟩ := i2 b hb
      exact ⟨by simp; omega, c, fun q hq => List.mem_append_left _ (d q hq)⟩
    · exact ⟨by simp, ⟨q.2, rfl⟩, fun z hz => by simp at hz; simp [hz]⟩
structure BW (K : PySem.W.Frag) (G H : Hp) (cut : Int) (a b : Addr) (sd : List Str) (ll : List (List (Str × Int))) (cs : List Addr) (σ : Sl) (Hx : Hp) : Prop where
  len : σ.length = 8
  s1 : σ[1]? = some (some (.int cut))
  s2 : σ[2]? = some (some (.ref a))
  s3 : σ[3]? = some (some (.ref b))
  ext : ∀ x o, H x = some o → Hx x = some o
  ha : Hx a = some (.lst (sd.map V.str))
  hb : Hx b = some (.lst (cs.map V.ref))
  hl : cs.length = ll.length
  ab : a ≠ b
  ac : a ∉ cs
  bc : b ∉ cs
  nd : cs.Nodup
  na : H a = none
  nb : H b = none
  nc : ∀ c ∈ cs, H c = none
  hc : ∀ (k : Nat) (c : Addr) (q : List (Str × Int)), cs[k]? = some c → ll[k]? = some q → ∃ ts, Hx c = some (.lst ts) ∧ DenL K Hx (fun _ => False) ts (enc q)
  tp : ∀ (x : Addr) (xs : List V), G x = some (.tup xs) → Hx x = some (.tup xs)
theorem denL_strs {H : Hp} {A : Addr → Prop} : ∀ {xs : List Str}, DenL K H A (xs.map V.str) (xs.map PyData.str)
  | [] => .nil
  | x :: r => .cons (.str x) denL_strs
theorem denL_strs_inv {H : Hp} {A : Addr → Prop} : ∀ {xs : List Str} {vs : List V}, DenL K H A vs (xs.map PyData.str) → vs = xs.map V.str
  | [], _, h => by cases h; rfl
  | x :: r, _, h => by
    cases h with
    | cons h1 h2 => cases h1; rw [denL_strs_inv h2]; rfl
def S00 : Src := ⟨[], 0, 0, 0⟩
abbrev nA : Addr → Prop := fun _ => False
/-- the frame's match in the loop: what stands is the entry, but the list of sides -/
theorem BW.mt {G H : Hp} {cut : Int} {a b : Addr} {sd : List Str} {ll : List (List (Str × Int))} {cs : List Addr} {σ : Sl} {Hx : Hp} (B : BW K G H cut a b sd ll cs σ Hx) :
    Mt K none (rmH Hx a) nA S00 σ [none, some (.imm (.int cut)), some (.lst (sd.map PyData.str)), some (.ref b), none, none, none, none] Hx nA where
  len := B.len
  keep := fun x o e _ => by
    unfold rmH at e
    split at e
    · cases e
    · exact e
  a0 := fun _ h => h
  an := fun _ h => h.elim
  fz := fun _ h => h.elim
  ns := fun _ h => h.elim
  so0 := fun _ h => h.elim
  src := trivial
  bd := fun i c e => by
    match i, e with
    | 0, e => simp at e
    | 1, e => simp at e; subst e; exact ⟨_, B.s1, .int _⟩
    | 2, e => simp at e; subst e; exact ⟨_, B.s2, a, _, rfl, B.ha, id, rmH_same, denL_strs⟩
    | 3, e => simp at e; subst e; exact ⟨_, B.s3, rfl⟩
    | 4, e => simp at e
    | 5, e => simp at e
    | 6, e => simp at e
    | 7, e => simp at e
    | i + 8, e => simp at e
  sep := fun i j c c' v ne e1 e2 o1 o2 => by
    have two : ∀ (i : Nat) (c : Bd), ([none, some (.imm (.int cut)), some (.lst (sd.map PyData.str)), some (.ref b), none, none, none, none] : En)[i]? = some (some c) → c.own = true → i = 2 := fun i c e o => by
      match i, e with
      | 0, e => simp at e
      | 1, e => simp at e; subst e; cases o
      | 2, e => rfl
      | 3, e => simp at e; subst e; cases o
      | 4, e => simp at e
      | 5, e => simp at e
      | 6, e => simp at e
      | 7, e => simp at e
      | i + 8, e => simp at e
    exact absurd ((two i c e1 o1).trans (two j c' e2 o2).symm) ne
/-- back from the match -/
theorem BW.up {G H : Hp} {cut : Int} {a b : Addr} {sd sd' : List Str} {ll : List (List (Str × Int))} {cs : List Addr} {σ σ' : Sl} {Hx H' : Hp} {A' : Addr → Prop} {S : Src} {ρ : En} (B : BW K G H cut a b sd ll cs σ Hx) (M : Mt K none (rmH Hx a) nA S σ' ρ H' A')
    (hl : ρ.length = 8) (e1 : ρ[1]? = some (some (.imm (.int cut)))) (e2 : ρ[2]? = some (some (.lst (sd'.map PyData.str)))) (e3 : ρ[3]? = some (some (.ref b))) : ∃ a', BW K G H cut a' b sd' ll cs σ' H' := by
  obtain ⟨v1, f1, o1⟩ := M.bd 1 _ e1
  cases o1
  obtain ⟨v2, f2, a', vs, rfl, ha, _, h0, hd⟩ := M.bd 2 _ e2
  obtain ⟨v3, f3, o3⟩ := M.bd 3 _ e3
  cases o3
  have keep : ∀ x o, Hx x = some o → x ≠ a → H' x = some o := fun x o e n => M.keep x o (by rw [rmH_ne n]; exact e) (fun h => h.elim)
  have new : ∀ x o, Hx x = some o → x ≠ a → a' ≠ x := fun x o e n z => by
    subst z
    rw [rmH_ne n, e] at h0
    cases h0
  have cA : ∀ c ∈ cs, c ≠ a := fun c hc e => B.ac (e ▸ hc)
  have cH : ∀ c ∈ cs, ∃ o, Hx c = some o := fun c hc => by
    obtain ⟨k, hk⟩ := List.mem_iff_getElem?.mp hc
    have hlt : k < ll.length := by have := (List.getElem?_eq_some_iff.mp hk).1; have := B.hl; omega
    obtain ⟨ts, e, _⟩ := B.hc k c _ hk (List.getElem?_eq_getElem hlt)
    exact ⟨_, e⟩
  rw [denL_strs_inv hd] at ha
  refine ⟨a', by rw [M.len, hl], f1, f2, f3, fun x o e => keep x o (B.ext x o e) (fun z => by rw [z, B.na] at e; cases e), ha, keep b _ B.hb (Ne.symm B.ab), B.hl, new b _ B.hb (Ne.symm B.ab), fun h => ?_, B.bc, B.nd, ?_, B.nb, B.nc, fun k c q hk hq => ?_, fun x xs e => keep x _ (B.tp x xs e) (fun z => by have := B.tp x xs e; rw [z, B.ha] at this; cases this)⟩
  · obtain ⟨o, e⟩ := cH a' h
    exact new a' o e (cA a' h) rfl
  · cases e : H a' with
    | none => rfl
    | some o => exact absurd rfl (new a' o (B.ext _ _ e) (fun z => by rw [z, B.na] at e; cases e))
  · obtain ⟨ts, e, d⟩ := B.hc k c q hk hq
    exact ⟨ts, keep c _ e (cA c (List.mem_of_getElem? hk)), DenL.mono (fun _ h => h) (fun _ _ h => h.elim) (fun x xs e => keep x _ e (fun z => by rw [z, B.ha] at e; cases e)) d⟩
/-- the letter goes to the last block -/
theorem blk_app2 {G H : Hp} {cut : Int} {a b : Addr} {sd : List Str} {ll : List (List (Str × Int))} {l0 : List (Str × Int)} {cs : List Addr} {σ : Sl} {Hx : Hp} {l : Str} {p : Int} {D : Ends} (B : BW K G H cut a b sd (ll ++ [l0]) cs σ Hx) (e4 : σ[4]? = some (some (.str l))) (e5 : σ[5]? = some (some (.int p))) (hz : l0.length < 1000000)
    (hN : ∀ H', BW K G H cut a b sd (ll ++ [l0 ++ [(l, p)]]) cs σ H' → D.nx σ H') : tApp2 K D σ Hx := by
  rcases List.eq_nil_or_concat cs with rfl | ⟨cr, c, rfl⟩
  · have := B.hl; simp at this
  rw [List.concat_eq_append] at B hN
  have hcl : cr.length = ll.length := by have := B.hl; simpa using this
  have kc : (cr ++ [c])[cr.length]? = some c := by simp
  obtain ⟨ts, hts, hd⟩ := B.hc cr.length c l0 kc (by rw [hcl]; simp)
  have hb := B.hb
  rw [List.map_append, List.map_singleton] at hb
  refine ⟨.ref b, B.s3, 1, rfl, .inl ⟨b, _, -1, .ref c, rfl, rfl, SqL.of hb, atI_last _ _, .inl ⟨rfl, _, SqL.of hts⟩, ?_⟩⟩
  refine ⟨.str l, e4, .int p, e5, lim1000 (by show 2 ≤ 1000; omega), fun q hq => ?_⟩
  have ne : ∀ x o, Hx x = some o → x ≠ q := fun x o e z => by rw [z, hq] at e; cases e
  refine ⟨c, ts, .ref q, rfl, rfl, by rw [upd_ne (ne c _ hts)]; exact hts, lim1 (by rw [hd.length]; simpa [enc] using hz), ?_⟩
  have cne : ∀ x, x ∈ cr → x ≠ c := fun x hx e => by
    have := B.nd
    rw [List.nodup_append] at this
    exact this.2.2 x hx c (by simp) e
  have ca : a ≠ c := fun e => B.ac (by simp [e])
  have cb : b ≠ c := fun e => B.bc (by simp [e])
  have up : ∀ x o, Hx x = some o → x ≠ c → (upd (upd Hx q (.tup [.str l, .int p])) c (.lst (ts ++ [.ref q]))) x = some o := fun x o e n => by rw [upd_ne n, upd_ne (ne x o e)]; exact e
  have hq' : (upd (upd Hx q (.tup [.str l, .int p])) c (.lst (ts ++ [.ref q]))) q = some (.tup [.str l, .int p]) := by rw [upd_ne (Ne.symm (ne c _ hts)), upd_same]
  have dmono : ∀ {vs : List V} {ds : List PyData}, DenL K Hx nA vs ds → DenL K (upd (upd Hx q (.tup [.str l, .int p])) c (.lst (ts ++ [.ref q]))) nA vs ds := fun d => DenL.mono (fun _ h => h) (fun _ _ h => h.elim) (fun x xs e => up x _ e (fun z => by rw [z, hts] at e; cases e)) d
  refine hN _ ⟨B.len, B.s1, B.s2, B.s3, fun x o e => up x o (B.ext x o e) (fun z => by rw [z, B.nc c (by simp)] at e; cases e), up a _ B.ha ca, up b _ B.hb cb, by have := B.hl; simpa using this, B.ab, B.ac, B.bc, B.nd, B.na, B.nb, B.nc, fun k x w hk hw => ?_, fun x xs e => up x _ (B.tp x xs e) (fun z => by have := B.tp x xs e; rw [z, hts] at this; cases this)⟩
  by_cases z : k = cr.length
  · subst z
    rw [kc] at hk
    cases hk
    rw [hcl] at hw
    simp at hw
    subst hw
    refine ⟨_, upd_same, ?_⟩
    have : enc (l0 ++ [(l, p)]) = enc l0 ++ [.tuple [.str l, .int p]] := by simp [enc, encP]
    rw [this]
    exact (dmono hd).append (.one (.tup hq' (.cons (.str l) (.cons (.int p) .nil))))
  · have hlt : k < cr.length := by
      have := (List.getElem?_eq_some_iff.mp hk).1
      simp at this
      omega
    have hk2 : cr[k]? = some x := by rw [List.getElem?_append_left hlt] at hk; exact hk
    have hw2 : (ll ++ [l0])[k]? = some w := by
      rw [List.getElem?_append_left (by omega)] at hw ⊢
      exact hw
    obtain ⟨t', e', d'⟩ := B.hc k x w hk hw2
    exact ⟨t', up x _ e' (cne x (List.mem_of_getElem? hk2)), dmono d'⟩
/-- a new block -/
theorem blk_app1 {G H : Hp} {cut : Int} {a b : Addr} {sd : List Str} {ll : List (List (Str × Int))} {cs : List Addr} {σ : Sl} {Hx : Hp} {D : Ends} (B : BW K G H cut a b sd ll cs σ Hx) (hz : ll.length < 1000000)
    (hN : ∀ cs' H', BW K G H cut a b sd (ll ++ [[]]) cs' σ H' → D.nx σ H') : tApp1 K D σ Hx := by
  refine ⟨.ref b, B.s3, .inl ⟨rfl, _, SqL.of B.hb⟩, ?_⟩
  refine ⟨Nat.zero_le _, fun c hc => ?_⟩
  have ne : ∀ x o, Hx x = some o → x ≠ c := fun x o e z => by rw [z, hc] at e; cases e
  refine ⟨b, _, .ref c, rfl, rfl, by rw [upd_ne (ne b _ B.hb)]; exact B.hb, lim1 (by rw [List.length_map, B.hl]; exact hz), ?_⟩
  have up : ∀ x o, Hx x = some o → x ≠ b → (upd (upd Hx c (.lst [])) b (.lst (cs.map V.ref ++ [.ref c]))) x = some o := fun x o e n => by rw [upd_ne n, upd_ne (ne x o e)]; exact e
  have cH : ∀ x ∈ cs, ∃ o, Hx x = some o := fun x hx => by
    obtain ⟨k, hk⟩ := List.mem_iff_getElem?.mp hx
    have hlt : k < ll.length := by have := (List.getElem?_eq_some_iff.mp hk).1; have := B.hl; omega
    obtain ⟨ts, e, _⟩ := B.hc k x _ hk (List.getElem?_eq_getElem hlt)
    exact ⟨_, e⟩
  have cc : c ∉ cs := fun h => by obtain ⟨o, e⟩ := cH c h; exact ne c o e rfl
  have cb : c ≠ b := Ne.symm (ne b _ B.hb)
  have H0c : H c = none := by
    cases e : H c with
    | none => rfl
    | some o => exact absurd rfl (ne c o (B.ext c o e))
  refine hN (cs ++ [c]) _ ⟨B.len, B.s1, B.s2, B.s3, fun x o e => up x o (B.ext x o e) (fun z => by rw [z, B.nb] at e; cases e), up a _ B.ha B.ab, by rw [upd_same, List.map_append]; rfl, by simp [B.hl], B.ab, ?_, ?_, ?_, B.na, B.nb, ?_, fun k x w hk hw => ?_, fun x xs e => up x _ (B.tp x xs e) (fun z => by have := B.tp x xs e; rw [z, B.hb] at this; cases this)⟩
  · simp only [List.mem_append, List.mem_singleton, not_or]
    exact ⟨B.ac, ne a _ B.ha⟩
  · simp only [List.mem_append, List.mem_singleton, not_or]
    exact ⟨B.bc, Ne.symm cb⟩
  · rw [List.nodup_append]
    exact ⟨B.nd, by simp, fun x hx y hy e => by simp at hy; subst hy; subst e; exact cc hx⟩
  · intro x hx
    simp only [List.mem_append, List.mem_singleton] at hx
    rcases hx with hx | rfl
    · exact B.nc x hx
    · exact H0c
  · by_cases z : k = cs.length
    · subst z
      rw [List.getElem?_append_right (Nat.le_refl _), Nat.sub_self] at hk
      rw [B.hl, List.getElem?_append_right (Nat.le_refl _), Nat.sub_self] at hw
      cases hk
      cases hw
      exact ⟨[], by rw [upd_ne cb, upd_same], .nil⟩
    · have hlt : k < cs.length := by
        have := (List.getElem?_eq_some_iff.mp hk).1
        simp at this
        omega
      rw [List.getElem?_append_left hlt] at hk
      rw [List.getElem?_append_left (by have := B.hl; omega)] at hw
      obtain ⟨t', e', d'⟩ := B.hc k x w hk hw
      have xb : x ≠ b := fun e => B.bc (e ▸ List.mem_of_getElem? hk)
      exact ⟨t', up x _ e' xb, DenL.mono (fun _ h => h) (fun _ _ h => h.elim) (fun y xs e => up y _ e (fun z => by rw [z, B.hb] at e; cases e)) d'⟩
theorem cb4_post {ρ : En} {S : Src} {sd : List Str} {x : Str} {B : Bool → En → Src → Prop} (e2 : ρ[2]? = some (some (.lst (sd.map PyData.str)))) (e6 : ρ[6]? = some (some (.imm (.str x)))) (hs : ∀ y ∈ sd, PyData.strOk y = true) (h : B (!decide (sd.getLast? = some x)) ρ S) : (cb4 ρ S).Post B := by
  have sh : (sd.map PyData.str).all isStrD = true := by
    rw [List.all_eq_true]
    intro d hd
    obtain ⟨y, hy, rfl⟩ := List.mem_map.mp hd
    exact hs y hy
  have e1 : eqB false (.bor (sd.map PyData.str)) (.lst []) = some (.imm (.bool (decide (sd = [])))) := by
    unfold eqB
    simp only [toD, shaped_strs sh, show SeqAt.shaped (.list []) = true by decide, Bool.and_self, if_true]
    cases sd with
    | nil => rfl
    | cons a r => simp [PyData.eqv, PyData.eqvAll]
  unfold cb4
  refine p_bor (p_test (p_op (p_var e2 rfl (p_ar (p_nil ⟨_, rfl, _, e1, _, rfl, bh_d (fun z => ?_) (fun z => ?_)⟩)))))
  · subst z
    exact h
  · rcases List.eq_nil_or_concat sd with rfl | ⟨r, y, rfl⟩
    · exact absurd rfl z
    · have hix : ixB (.bor ((r.concat y).map PyData.str)) (.imm (.int (-1))) = some (.imm (.str y)) := by
        rw [q_ixB, List.concat_eq_append, List.map_append, List.map_singleton, atI_last]
        rfl
      have hl : (r.concat y).getLast? = some y := by simp
      rw [hl] at h
      refine p_test (p_op (p_op (p_var e2 rfl (p_un (p_c ⟨_, rfl, _, hix, p_var e6 rfl ⟨_, rfl, _, rfl, ?_⟩⟩)))))
      show B (!decide (y = x)) ρ S
      rwa [show decide (some y = some x) = decide (y = x) by simp] at h
/-- one turn -/
theorem blk_turn {G H : Hp} {cut : Int} {a b : Addr} {sd : List Str} {ll : List (List (Str × Int))} {cs : List Addr} {σ : Sl} {Hx : Hp} {tg : TG} {t3 t5 : TS} {c4 : TT} {D : Ends} {l : Str} {p : Int} {v : V}
    (rg : RdG K none tg tgb ([4] ++ ([5] ++ []))) (r3 : RdS K none t3 gb3) (r4 : RdT K none c4 cb4) (r5 : RdS K none t5 gb5)
    (B : BW K G H cut a b sd ll cs σ Hx) (hv : Den K Hx nA v (.tuple [.str l, .int p])) (hs : ∀ y ∈ sd, PyData.strOk y = true) (hsl : sd.length = ll.length) (hz : ll.length < 100000) (hq : ∀ q ∈ ll, q.length < 100000)
    (h1 : sd.getLast? = some (sideS cut p) → ∀ l0 r, ll = r ++ [l0] → ∀ a' cs' σ' H', BW K G H cut a' b sd (r ++ [l0 ++ [(l, p)]]) cs' σ' H' → D.nx σ' H')
    (h2 : sd.getLast? ≠ some (sideS cut p) → ∀ a' cs' σ' H', BW K G H cut a' b (sd ++ [sideS cut p]) (ll ++ [[(l, p)]]) cs' σ' H' → D.nx σ' H') :
    tg v σ Hx fun σ2 H2 => (tSeq t3 (tSeq (tIfS c4 (tSeq t5 (tApp1 K)) tNext) (tApp2 K))) D σ2 H2 := by
  have M0 := B.mt
  have Mv := M0.pushI (b := .imm (.tuple [.str l, .int p])) hv rfl
  refine rg (rmH Hx a) _ S00 σ _ [none, some (.imm (.int cut)), some (.lst (sd.map PyData.str)), some (.ref b), some (.imm (.str l)), some (.imm (.int p)), none, none] [] [] Hx nA v (.imm (.tuple [.str l, .int p])) _ M0.len (by simpa only [List.append_nil] using Mv) rfl ?_
  intro σ1 H1 A1 hl1 _ M1
  refine r3 (rmH Hx a) _ S00 σ1 _ [] [] H1 A1 _ hl1 (fun b hb => nomatch hb) M1 ?_
  refine p_asg (p_side rfl rfl ⟨_, rfl, ?_⟩)
  intro σ2 H2 A2 hl2 M2
  refine r4 (rmH Hx a) _ S00 σ2 _ [] [] H2 A2 _ hl2 M2 ?_
  refine cb4_post (sd := sd) (x := sideS cut p) rfl rfl hs ?_
  intro H3 A3 hl3 M3
  by_cases c : sd.getLast? = some (sideS cut p)
  · rw [decide_eq_true c]
    show (tApp2 K) D σ2 H3
    have ne : ll ≠ [] := fun e => by
      rw [e] at hsl
      have : sd = [] := List.length_eq_zero_iff.mp hsl
      rw [this] at c
      cases c
    rcases List.eq_nil_or_concat ll with e | ⟨r, l0, e⟩
    · exact absurd e ne
    rw [List.concat_eq_append] at e
    subst e
    obtain ⟨a', B'⟩ := B.up (sd' := sd) (by simpa only [List.append_nil] using M3) rfl rfl rfl rfl
    obtain ⟨v4, f4, o4⟩ := M3.bd 4 _ rfl
    cases o4
    obtain ⟨v5, f5, o5⟩ := M3.bd 5 _ rfl
    cases o5
    exact blk_app2 B' (by simpa only [List.append_nil] using f4) (by simpa only [List.append_nil] using f5) (by have := hq l0 (by simp); omega) fun H' B2 => h1 c l0 r rfl a' cs σ2 H' B2
  · rw [decide_eq_false c]
    show (tSeq t5 (tApp1 K)) { D with nx := (tApp2 K) D } σ2 H3
    refine r5 (rmH Hx a) _ S00 σ2 _ [] [] H3 A3 _ hl3 (fun b hb => nomatch hb) M3 ?_
    refine p_appE ⟨rfl, p_frzE ⟨_, rfl, _, _, rfl, rfl, by rw [List.length_map]; omega, rfl, ?_⟩⟩
    intro σ4 H4 A4 hl4 M4
    have e9 : sd.map PyData.str ++ [.str (sideS cut p)] = (sd ++ [sideS cut p]).map PyData.str := by simp
    obtain ⟨a', B'⟩ := B.up (sd' := sd ++ [sideS cut p]) (by simpa only [List.append_nil] using M4) rfl rfl (by rw [← e9]; rfl) rfl
    obtain ⟨v4, f4, o4⟩ := M4.bd 4 _ rfl
    cases o4
    obtain ⟨v5, f5, o5⟩ := M4.bd 5 _ rfl
    cases o5
    refine blk_app1 B' (by omega) fun cs' H' B2 => ?_
    exact blk_app2 (ll := ll) (l0 := []) B2 (by simpa only [List.append_nil] using f4) (by simpa only [List.append_nil] using f5) (by show 0 < 1000000; omega) fun H'' B3 => h2 c a' cs' σ4 H'' B3
theorem denL_lists {H : Hp} {A : Addr → Prop} : ∀ {cs : List Addr} {ll : List (List (Str × Int))}, cs.length = ll.length → (∀ (k : Nat) (c : Addr) (q : List (Str × Int)), cs[k]? = some c → ll[k]? = some q → Den K H A (.ref c) (.list (enc q))) → DenL K H A (cs.map V.ref) (ll.map fun q => .list (enc q))
  | [], [], _, _ => .nil
  | [], _ :: _, h, _ => by cases h
  | _ :: _, [], h, _ => by cases h
  | c :: cs, q :: ll, h, f => .cons (f 0 c q rfl rfl) (denL_lists (by simpa using h) fun k c' q' e1 e2 => f (k + 1) c' q' e1 e2)
theorem enumD_get {ds : List PyData} {i : Nat} {d : PyData} (h : (enumD ds)[i]? = some d) : ∃ e, ds[i]? = some e ∧ d = .tuple [.int (i : Nat), e] := by
  unfold enumD at h
  rw [List.getElem?_mapIdx] at h
  cases e : ds[i]? with
  | none => rw [e] at h; cases h
  | some x => rw [e] at h; exact ⟨x, rfl, (Option.some.inj h).symm⟩
/-- the end: blocks put together -/
theorem blk_fin {so : SO} {G H : Hp} {A0 : Addr → Prop} {S : Src} {σ0 : Sl} {ρ0 : En} {cut : Int} {a b : Addr} {bl : List (Str × List (Str × Int))} {cs : List Addr} {σ : Sl} {Hx : Hp} {t6 : TS} {D : Ends} (r6 : RdS K so t6 gb6) (M : Mt K so H A0 S σ0 ρ0 H A0)
    (B : BW K G H cut a b (bl.map Prod.fst) (bl.map Prod.snd) cs σ Hx) (hz : bl.length ≤ 100000) (hq : ∀ q ∈ bl, q.2.length ≤ 1000)
    (hD : ∀ (σ : Sl) (ρ : En) (v : V) (H2 : Hp) (A2 : Addr → Prop), σ.length = ρ.length → Mt K so H A0 S (σ ++ [some v]) (ρ ++ [some (.imm (.tuple (bl.map blkD)))]) H2 A2 → D.rt v H2) : t6 D σ Hx := by
  have cH : ∀ x ∈ cs, ∃ ts, Hx x = some (.lst ts) := fun x hx => by
    obtain ⟨k, hk⟩ := List.mem_iff_getElem?.mp hx
    have hlt : k < (bl.map Prod.snd).length := by have := (List.getElem?_eq_some_iff.mp hk).1; have := B.hl; omega
    obtain ⟨ts, e, _⟩ := B.hc k x _ hk (List.getElem?_eq_getElem hlt)
    exact ⟨_, e⟩
  have nA0 : ∀ x, A0 x → H x ≠ none := fun x h e => by obtain ⟨xs, z⟩ := M.fz x h; rw [e] at z; cases z
  have nS : ∀ x, Has so x → H x ≠ none := fun x h e => by obtain ⟨y, z⟩ := M.so0 x h; rw [e] at z; cases z
  have M6 : Mt K so H A0 S σ [none, some (.imm (.int cut)), some (.lst ((bl.map Prod.fst).map PyData.str)), some (.imm (.list ((bl.map Prod.snd).map fun q => .list (enc q)))), none, none, none, none] Hx (fun x => A0 x ∨ x = b ∨ x ∈ cs) := {
    len := B.len
    keep := fun x o e _ => B.ext x o e
    a0 := fun x h => .inl h
    an := fun x h => by
      rcases h with h | rfl | h
      · exact .inl h
      · exact .inr B.nb
      · exact .inr (B.nc x h)
    fz := fun x h => by
      rcases h with h | rfl | h
      · obtain ⟨xs, e⟩ := M.fz x h; exact ⟨xs, B.ext x _ e⟩
      · exact ⟨_, B.hb⟩
      · exact cH x h
    ns := fun x h hs => by
      rcases h with h | rfl | h
      · exact M.ns x h hs
      · exact nS x hs B.nb
      · exact nS x hs (B.nc x h)
    so0 := M.so0
    src := M.src.keepd fun x h => by obtain ⟨y, z⟩ := M.so0 x h; rw [z, B.ext x y z]
    bd := fun i c e => by
      match i, e with
      | 0, e => simp at e
      | 1, e => simp at e; subst e; exact ⟨_, B.s1, .int _⟩
      | 2, e =>
        simp only [List.getElem?_cons_succ, List.getElem?_cons_zero, Option.some.injEq] at e
        subst e
        refine ⟨_, B.s2, a, _, rfl, B.ha, ?_, B.na, denL_strs⟩
        rintro (h | h | h)
        · exact nA0 a h B.na
        · exact B.ab h
        · exact B.ac h
      | 3, e =>
        simp only [List.getElem?_cons_succ, List.getElem?_cons_zero, Option.some.injEq] at e
        subst e
        refine ⟨_, B.s3, .lst (.inr (.inl rfl)) B.hb (denL_lists B.hl fun k c q hk hq => ?_)⟩
        obtain ⟨ts, e, d⟩ := B.hc k c q hk hq
        exact .lst (.inr (.inr (List.mem_of_getElem? hk))) e (DenL.mono (fun _ h => h.elim) (fun _ _ h => h.elim) (fun _ _ e => e) d)
      | 4, e => simp at e
      | 5, e => simp at e
      | 6, e => simp at e
      | 7, e => simp at e
      | i + 8, e => simp at e
    sep := fun i j c c' v ne e1 e2 o1 o2 => by
      have two : ∀ (i : Nat) (c : Bd), ([none, some (.imm (.int cut)), some (.lst ((bl.map Prod.fst).map PyData.str)), some (.imm (.list ((bl.map Prod.snd).map fun q => .list (enc q)))), none, none, none, none] : En)[i]? = some (some c) → c.own = true → i = 2 := fun i c e o => by
        match i, e with
        | 0, e => simp at e
        | 1, e => simp at e; subst e; cases o
        | 2, e => rfl
        | 3, e =>
          simp only [List.getElem?_cons_succ, List.getElem?_cons_zero, Option.some.injEq] at e
          subst e; cases o
        | 4, e => simp at e
        | 5, e => simp at e
        | 6, e => simp at e
        | 7, e => simp at e
        | i + 8, e => simp at e
      exact absurd ((two i c e1 o1).trans (two j c' e2 o2).symm) ne }
  refine r6 H A0 S σ _ [] [] Hx _ D M6.len (fun b hb => nomatch hb) (by simpa only [List.append_nil] using M6) ?_
  unfold gb6
  (repeat (first | with_reducible refine p_seq ?_ | with_reducible refine nx_nx ?_ | with_reducible refine nx_rt ?_ | with_reducible refine p_if ?_ | with_reducible refine p_asg ?_ | with_reducible refine p_par ?_ | with_reducible refine p_parN ?_ | with_reducible refine p_ret ?_ | with_reducible refine p_retN ?_ | with_reducible refine p_next ?_ | with_reducible refine p_brk ?_ | with_reducible refine p_cnt ?_ | with_reducible refine p_drop ?_ | with_reducible refine p_appE ?_ | with_reducible refine p_lenE ?_ | with_reducible refine p_setI ?_ | with_reducible refine p_dput ?_ | with_reducible refine p_for ?_ | with_reducible refine p_varE ?_ | with_reducible refine p_frzE ?_ | with_reducible refine p_movE ?_ | with_reducible refine p_c ?_ | with_reducible refine p_op ?_ | with_reducible refine p_un ?_ | with_reducible refine p_ar ?_ | with_reducible refine p_me ?_ | with_reducible refine p_ife ?_ | with_reducible refine p_nil ?_ | with_reducible refine p_cons ?_ | with_reducible refine p_call ?_ | with_reducible refine p_lc ?_ | with_reducible refine p_sl ?_ | with_reducible refine p_on ?_ | with_reducible refine p_os ?_ | with_reducible refine p_fis ?_ | with_reducible refine p_rng1 ?_ | with_reducible refine p_rng2 ?_ | with_reducible refine p_fia ?_ | with_reducible refine p_din ?_ | with_reducible refine p_newT ?_ | with_reducible refine p_newK ?_ | with_reducible refine p_test ?_ | with_reducible refine p_band ?_ | with_reducible refine p_bor ?_ | with_reducible refine p_bnot ?_ | with_reducible refine p_yes ?_ | with_reducible refine p_or ?_ | with_reducible refine p_and ?_ | with_reducible refine p_not ?_ | with_reducible refine bh_t ?_ | with_reducible refine bh_f ?_ | with_reducible refine bh_nt ?_ | with_reducible refine bh_nf ?_ | ((with_reducible refine bh_r ?_); refine Exists.intro _ (And.intro rfl ?_)) | ((with_reducible refine ex_id ?_); first | refine Exists.intro _ (And.intro rfl ?_) | refine Exists.intro _ (Exists.intro _ (And.intro rfl ?_))) | ((with_reducible refine and_id ?_); refine And.intro rfl ?_)))
  refine p_lcSS (fun i acc ρ S2 => S2 = S ∧ i ≤ bl.length ∧ acc = (bl.take i).map blkD ∧ ∃ (w6 w7 : Option Bd), ρ = [none, some (.imm (.int cut)), some (.lst ((bl.map Prod.fst).map PyData.str)), some (.imm (.list ((bl.map Prod.snd).map fun q => .list (enc q)))), none, none, w6, w7]) ⟨rfl, by omega, rfl, _, _, rfl⟩ ?_ ?_
  · rintro i d acc ρ S2 hd ⟨rfl, hi, rfl, w6, w7, rfl⟩
    have hd : (enumD ((bl.map Prod.fst).map PyData.str))[i]? = some d := hd
    obtain ⟨e, he, rfl⟩ := enumD_get hd
    have hlt : i < bl.length := by have := (List.getElem?_eq_some_iff.mp he).1; simpa using this
    have ee : e = .str bl[i].1 := by
      rw [List.getElem?_map, List.getElem?_map, List.getElem?_eq_getElem hlt] at he
      exact (Option.some.inj he).symm
    subst ee
    have ix : ixB (.imm (.list ((bl.map Prod.snd).map fun q => .list (enc q)))) (.imm (.int ((i : Nat) : Int))) = some (.imm (.list (enc bl[i].2))) := by
      rw [q_ixIL, atI_nat (j := i) (v := .list (enc bl[i].2)) (by rw [List.getElem?_map, List.getElem?_map, List.getElem?_eq_getElem hlt]; rfl)]
      rfl
    refine ⟨_, rfl, ?_⟩
    (repeat (first | with_reducible refine ⟨_, ix, ?_⟩ | with_reducible refine p_seq ?_ | with_reducible refine nx_nx ?_ | with_reducible refine nx_rt ?_ | with_reducible refine p_if ?_ | with_reducible refine p_asg ?_ | with_reducible refine p_par ?_ | with_reducible refine p_parN ?_ | with_reducible refine p_ret ?_ | with_reducible refine p_retN ?_ | with_reducible refine p_next ?_ | with_reducible refine p_brk ?_ | with_reducible refine p_cnt ?_ | with_reducible refine p_drop ?_ | with_reducible refine p_appE ?_ | with_reducible refine p_lenE ?_ | with_reducible refine p_setI ?_ | with_reducible refine p_dput ?_ | with_reducible refine p_for ?_ | with_reducible refine p_varE ?_ | with_reducible refine p_frzE ?_ | with_reducible refine p_movE ?_ | with_reducible refine p_c ?_ | with_reducible refine p_op ?_ | with_reducible refine p_un ?_ | with_reducible refine p_ar ?_ | with_reducible refine p_me ?_ | with_reducible refine p_ife ?_ | with_reducible refine p_nil ?_ | with_reducible refine p_cons ?_ | with_reducible refine p_call ?_ | with_reducible refine p_lc ?_ | with_reducible refine p_sl ?_ | with_reducible refine p_on ?_ | with_reducible refine p_os ?_ | with_reducible refine p_fis ?_ | with_reducible refine p_rng1 ?_ | with_reducible refine p_rng2 ?_ | with_reducible refine p_fia ?_ | with_reducible refine p_din ?_ | with_reducible refine p_newT ?_ | with_reducible refine p_newK ?_ | with_reducible refine p_test ?_ | with_reducible refine p_band ?_ | with_reducible refine p_bor ?_ | with_reducible refine p_bnot ?_ | with_reducible refine p_yes ?_ | with_reducible refine p_or ?_ | with_reducible refine p_and ?_ | with_reducible refine p_not ?_ | with_reducible refine bh_t ?_ | with_reducible refine bh_f ?_ | with_reducible refine bh_nt ?_ | with_reducible refine bh_nf ?_ | ((with_reducible refine bh_r ?_); refine Exists.intro _ (And.intro rfl ?_)) | ((with_reducible refine ex_id ?_); first | refine Exists.intro _ (And.intro rfl ?_) | refine Exists.intro _ (Exists.intro _ (And.intro rfl ?_))) | ((with_reducible refine and_id ?_); refine And.intro rfl ?_)))
    refine ⟨by rw [List.length_map, List.length_take]; omega, rfl, by omega, ?_, _, _, rfl⟩
    rw [List.take_add_one, List.getElem?_eq_getElem hlt, List.map_append]
    rfl
  · rintro acc ρ S2 ⟨rfl, hi, rfl, w6, w7, rfl⟩
    have hn : (enumD ((bl.map Prod.fst).map PyData.str)).length = bl.length := by simp [enumD]
    (repeat (first | with_reducible refine p_seq ?_ | with_reducible refine nx_nx ?_ | with_reducible refine nx_rt ?_ | with_reducible refine p_if ?_ | with_reducible refine p_asg ?_ | with_reducible refine p_par ?_ | with_reducible refine p_parN ?_ | with_reducible refine p_ret ?_ | with_reducible refine p_retN ?_ | with_reducible refine p_next ?_ | with_reducible refine p_brk ?_ | with_reducible refine p_cnt ?_ | with_reducible refine p_drop ?_ | with_reducible refine p_appE ?_ | with_reducible refine p_lenE ?_ | with_reducible refine p_setI ?_ | with_reducible refine p_dput ?_ | with_reducible refine p_for ?_ | with_reducible refine p_varE ?_ | with_reducible refine p_frzE ?_ | with_reducible refine p_movE ?_ | with_reducible refine p_c ?_ | with_reducible refine p_op ?_ | with_reducible refine p_un ?_ | with_reducible refine p_ar ?_ | with_reducible refine p_me ?_ | with_reducible refine p_ife ?_ | with_reducible refine p_nil ?_ | with_reducible refine p_cons ?_ | with_reducible refine p_call ?_ | with_reducible refine p_lc ?_ | with_reducible refine p_sl ?_ | with_reducible refine p_on ?_ | with_reducible refine p_os ?_ | with_reducible refine p_fis ?_ | with_reducible refine p_rng1 ?_ | with_reducible refine p_rng2 ?_ | with_reducible refine p_fia ?_ | with_reducible refine p_din ?_ | with_reducible refine p_newT ?_ | with_reducible refine p_newK ?_ | with_reducible refine p_test ?_ | with_reducible refine p_band ?_ | with_reducible refine p_bor ?_ | with_reducible refine p_bnot ?_ | with_reducible refine p_yes ?_ | with_reducible refine p_or ?_ | with_reducible refine p_and ?_ | with_reducible refine p_not ?_ | with_reducible refine bh_t ?_ | with_reducible refine bh_f ?_ | with_reducible refine bh_nt ?_ | with_reducible refine bh_nf ?_ | ((with_reducible refine bh_r ?_); refine Exists.intro _ (And.intro rfl ?_)) | ((with_reducible refine ex_id ?_); first | refine Exists.intro _ (And.intro rfl ?_) | refine Exists.intro _ (Exists.intro _ (And.intro rfl ?_))) | ((with_reducible refine and_id ?_); refine And.intro rfl ?_)))
    intro σ9 v H9 A9 hl9 M9
    have ht : bl.take ((enumD ((bl.map Prod.fst).map PyData.str)).length) = bl := by rw [hn, List.take_length]
    have M9' := M9
    rw [List.append_nil, List.append_nil] at M9'
    have e9 : Bd.imm (.tuple (List.map blkD (bl.take ((enumD ((bl.map Prod.fst).map PyData.str)).length)))) = Bd.imm (.tuple (bl.map blkD)) := by rw [ht]
    refine hD σ9 _ v H9 A9 hl9 ?_
    rw [← e9]
    exact M9'
theorem d6_blocks (T : Tx K mg t) (so : SO) (cdv : Value) (A : Around) (outer : List PySem.Env) (s : Shared) (H : Hp) : ∃ t6, DSs (cxOf CX0 P w K mg base N_blocks_of "blocks_of" (defScope s_blocks_of) t.f_blocks_of cdv A outer s H E0).nox so ((defBody s_blocks_of).drop 3) t6 gb6 :=
  ⟨_, dss_one (ds_ret (de_callTy call_tuple_of cs_tuple T.z_tuple (by decide +kernel) (da_cons (de_lc (own := [("k", 7), ("side", 6)]) N_blocks_of (defScope s_blocks_of)  rfl sc_blocks_of.nd (di_enum T.z_enumerate (da_cons (de_var 2) da_nil)) (by decide +kernel) (fun _ _ _ _ _ => (DG.cast (te := gTup K 2 (gCons (gName 7) (gCons (gName 6) gNil))) (dg_tup rfl (dgs_cons (dg_name 7 sc_blocks_of.nd) (dgs_cons (dg_name 6 sc_blocks_of.nd) dgs_nil))) rfl)) (by decide) (fun _ _ _ _ _ => dts_nil) (fun _ _ _ _ _ => (DE.cast (te := tTup (tCons (tVar 6) (tCons (tCB (fun xs H Q => ∃ p ys, xs = [.ref p] ∧ ((SqL K H p ys ∧ ∀ l, H l = none → Q (.ref l) (upd H l (.tup ys))) ∨ (SqT K H p ys ∧ Q (.ref p) H))) (tCons (tOp (rIx K) (tVar 3) (tVar 7)) tNil)) tNil))) (de_tup (da_cons (de_frz 6) (da_cons (de_callTy call_tuple_of cs_tuple T.z_tuple (by decide +kernel) (da_cons (de_ix (de_var 3) (de_var 7)) da_nil)) da_nil))) rfl))) da_nil)))⟩
theorem d_blocks_of (T : Tx K mg t) : FnD P w K mg base 1 t.f_blocks_of t.d_blocks_of ["writing", "cut"] F_blocks_of := by
  intro so
  refine FnG.body T.F_blocks_of sc_blocks_of (fun vs H Q E h => ?_) fun cdv A outer s H vs Q hr h => ?_
  · obtain ⟨bs, S, A', M, h⟩ := h
    cases e : F_blocks_of bs S with
    | none => rw [e] at h; exact h.elim
    | some r =>
      have hl := M.len
      rcases F_blocks_some e with ⟨c, rfl, _⟩ | ⟨ws, c, rfl, _⟩ <;> simpa using hl
  · obtain ⟨t6, h6⟩ := d6_blocks (P := P) (w := w) (base := base) T so cdv A outer s H
    have hX : ∃ TT, PSs (cxOf CX0 P w K mg base N_blocks_of "blocks_of" (defScope s_blocks_of) t.f_blocks_of cdv A outer s H E0).nox (defBody s_blocks_of) TT ∧ BlkT K so TT := blk_end rfl
      (ds_if (dt_is (de_var 0) de_non) (dss_one (ds_ret de_non)) dss_nil)
      (ds_parT rfl (by decide) (da_cons (de_lst da_nil) (da_cons (de_lst da_nil) da_nil)) (dgs_cons (dg_name 2 sc_blocks_of.nd) (dgs_cons (dg_name 3 sc_blocks_of.nd) dgs_nil)))
      (pv 0) (dg_tup rfl (dgs_cons (dg_name 4 sc_blocks_of.nd) (dgs_cons (dg_name 5 sc_blocks_of.nd) dgs_nil)))
      (ds_set 6 sc_blocks_of.nd (de_if (h1 := tC .non) (dt_le (de_var 5) (de_var 1)) (de_gstr T.c_LEFT.choose_spec) (de_gstr T.c_RIGHT.choose_spec)))
      (DW.dt (dw_or (dt_eq hr (de_var 2) (de_lst da_nil)) (dw_or1 (dt_ne hr (de_ix (de_var 2) (de_neg de_int)) (de_var 6)))))
      (ds_app 2 (de_frz 6))
      (ps_expr (pe_bm PySem.F.plainAttrs_list PySem.F.slot_list_append PySem.F.type_list_append mt_append (pv 3) (pa_cons (pe_lst pa_nil) pa_nil)))
      (ps_expr (pe_bm PySem.F.plainAttrs_list PySem.F.slot_list_append PySem.F.type_list_append mt_append (pe_ix ix_seq (pv 3) (pe_un un_neg pe_int) (by intro _ _; rfl)) (pa_cons (pe_tup (pa_cons (pv 4) (pa_cons (pv 5) pa_nil))) pa_nil)))
      h6
      (fun _ => rfl) PassesOwn.never
    obtain ⟨TT, hT, hB⟩ := hX
    refine ⟨TT, hT, ?_⟩
    obtain ⟨t1, t2, t3, t5, t6', tg, c4, rfl, r1, r2, rg, r3, r4, r5, r6⟩ := hB.ex
    obtain ⟨bs, S, A', M, h⟩ := h
    cases e : F_blocks_of bs S with
    | none => rw [e] at h; exact h.elim
    | some r =>
    rw [e] at h
    have only : ∀ {σ : Sl} {ρ : En} {v : V} {b : Bd} {H2 : Hp} {A2 : Addr → Prop}, σ.length = ρ.length → Mt K so H A' S (σ ++ [some v]) (ρ ++ [some b]) H2 A2 → Mt K so H A' S [some v] [some b] H2 A2 := fun {σ ρ v b H2 A2} l m =>
      Mt.cut (σ := []) (ρ := []) (xs := σ) (ys := ρ) m rfl l
    rcases F_blocks_some e with ⟨c, rfl, rfl⟩ | ⟨ws, c, rfl, hlen, rfl⟩
    · have hvl : vs.length = 2 := by simpa using M.len
      have M1 : Mt K so H A' S (L2.start N_blocks_of vs) [some (.imm .none), some (.imm (.int c)), none, none, none, none, none, none] H A' := by
        have := M.nones 6
        unfold L2.start
        rw [hvl]
        exact this
      refine r1 H A' S _ _ [] [] H A' _ M1.len (fun b hb => nomatch hb) (by rw [List.append_nil, List.append_nil]; exact M1) ?_
      unfold gb1
      (repeat (first | with_reducible refine p_seq ?_ | with_reducible refine nx_nx ?_ | with_reducible refine nx_rt ?_ | with_reducible refine p_if ?_ | with_reducible refine p_asg ?_ | with_reducible refine p_par ?_ | with_reducible refine p_parN ?_ | with_reducible refine p_ret ?_ | with_reducible refine p_retN ?_ | with_reducible refine p_next ?_ | with_reducible refine p_brk ?_ | with_reducible refine p_cnt ?_ | with_reducible refine p_drop ?_ | with_reducible refine p_appE ?_ | with_reducible refine p_lenE ?_ | with_reducible refine p_setI ?_ | with_reducible refine p_dput ?_ | with_reducible refine p_for ?_ | with_reducible refine p_varE ?_ | with_reducible refine p_frzE ?_ | with_reducible refine p_movE ?_ | with_reducible refine p_c ?_ | with_reducible refine p_op ?_ | with_reducible refine p_un ?_ | with_reducible refine p_ar ?_ | with_reducible refine p_me ?_ | with_reducible refine p_ife ?_ | with_reducible refine p_nil ?_ | with_reducible refine p_cons ?_ | with_reducible refine p_call ?_ | with_reducible refine p_lc ?_ | with_reducible refine p_sl ?_ | with_reducible refine p_on ?_ | with_reducible refine p_os ?_ | with_reducible refine p_fis ?_ | with_reducible refine p_rng1 ?_ | with_reducible refine p_rng2 ?_ | with_reducible refine p_fia ?_ | with_reducible refine p_din ?_ | with_reducible refine p_newT ?_ | with_reducible refine p_newK ?_ | with_reducible refine p_test ?_ | with_reducible refine p_band ?_ | with_reducible refine p_bor ?_ | with_reducible refine p_bnot ?_ | with_reducible refine p_yes ?_ | with_reducible refine p_or ?_ | with_reducible refine p_and ?_ | with_reducible refine p_not ?_ | with_reducible refine bh_t ?_ | with_reducible refine bh_f ?_ | with_reducible refine bh_nt ?_ | with_reducible refine bh_nf ?_ | ((with_reducible refine bh_r ?_); refine Exists.intro _ (And.intro rfl ?_)) | ((with_reducible refine ex_id ?_); first | refine Exists.intro _ (And.intro rfl ?_) | refine Exists.intro _ (Exists.intro _ (And.intro rfl ?_))) | ((with_reducible refine and_id ?_); refine And.intro rfl ?_)))
      intro σ v H2 A2 l m
      exact h v H2 A2 (only l (by have m' := m; rw [List.append_nil, List.append_nil] at m'; exact m'))
    · have hvl : vs.length = 2 := by simpa using M.len
      have M1 : Mt K so H A' S (L2.start N_blocks_of vs) [some (.imm (.tuple (enc ws))), some (.imm (.int c)), none, none, none, none, none, none] H A' := by
        have := M.nones 6
        unfold L2.start
        rw [hvl]
        exact this
      refine r1 H A' S _ _ [] [] H A' _ M1.len (fun b hb => nomatch hb) (by rw [List.append_nil, List.append_nil]; exact M1) ?_
      unfold gb1
      (repeat (first | with_reducible refine p_seq ?_ | with_reducible refine nx_nx ?_ | with_reducible refine nx_rt ?_ | with_reducible refine p_if ?_ | with_reducible refine p_asg ?_ | with_reducible refine p_par ?_ | with_reducible refine p_parN ?_ | with_reducible refine p_ret ?_ | with_reducible refine p_retN ?_ | with_reducible refine p_next ?_ | with_reducible refine p_brk ?_ | with_reducible refine p_cnt ?_ | with_reducible refine p_drop ?_ | with_reducible refine p_appE ?_ | with_reducible refine p_lenE ?_ | with_reducible refine p_setI ?_ | with_reducible refine p_dput ?_ | with_reducible refine p_for ?_ | with_reducible refine p_varE ?_ | with_reducible refine p_frzE ?_ | with_reducible refine p_movE ?_ | with_reducible refine p_c ?_ | with_reducible refine p_op ?_ | with_reducible refine p_un ?_ | with_reducible refine p_ar ?_ | with_reducible refine p_me ?_ | with_reducible refine p_ife ?_ | with_reducible refine p_nil ?_ | with_reducible refine p_cons ?_ | with_reducible refine p_call ?_ | with_reducible refine p_lc ?_ | with_reducible refine p_sl ?_ | with_reducible refine p_on ?_ | with_reducible refine p_os ?_ | with_reducible refine p_fis ?_ | with_reducible refine p_rng1 ?_ | with_reducible refine p_rng2 ?_ | with_reducible refine p_fia ?_ | with_reducible refine p_din ?_ | with_reducible refine p_newT ?_ | with_reducible refine p_newK ?_ | with_reducible refine p_test ?_ | with_reducible refine p_band ?_ | with_reducible refine p_bor ?_ | with_reducible refine p_bnot ?_ | with_reducible refine p_yes ?_ | with_reducible refine p_or ?_ | with_reducible refine p_and ?_ | with_reducible refine p_not ?_ | with_reducible refine bh_t ?_ | with_reducible refine bh_f ?_ | with_reducible refine bh_nt ?_ | with_reducible refine bh_nf ?_ | ((with_reducible refine bh_r ?_); refine Exists.intro _ (And.intro rfl ?_)) | ((with_reducible refine ex_id ?_); first | refine Exists.intro _ (And.intro rfl ?_) | refine Exists.intro _ (Exists.intro _ (And.intro rfl ?_))) | ((with_reducible refine and_id ?_); refine And.intro rfl ?_)))
      intro σ1 H1 A1 hl1 M1
      refine r2 H A' S σ1 _ [] [] H1 A1 _ hl1 (fun b hb => nomatch hb) M1 ?_
      unfold gb2
      (repeat (first | with_reducible refine p_seq ?_ | with_reducible refine nx_nx ?_ | with_reducible refine nx_rt ?_ | with_reducible refine p_if ?_ | with_reducible refine p_asg ?_ | with_reducible refine p_par ?_ | with_reducible refine p_parN ?_ | with_reducible refine p_ret ?_ | with_reducible refine p_retN ?_ | with_reducible refine p_next ?_ | with_reducible refine p_brk ?_ | with_reducible refine p_cnt ?_ | with_reducible refine p_drop ?_ | with_reducible refine p_appE ?_ | with_reducible refine p_lenE ?_ | with_reducible refine p_setI ?_ | with_reducible refine p_dput ?_ | with_reducible refine p_for ?_ | with_reducible refine p_varE ?_ | with_reducible refine p_frzE ?_ | with_reducible refine p_movE ?_ | with_reducible refine p_c ?_ | with_reducible refine p_op ?_ | with_reducible refine p_un ?_ | with_reducible refine p_ar ?_ | with_reducible refine p_me ?_ | with_reducible refine p_ife ?_ | with_reducible refine p_nil ?_ | with_reducible refine p_cons ?_ | with_reducible refine p_call ?_ | with_reducible refine p_lc ?_ | with_reducible refine p_sl ?_ | with_reducible refine p_on ?_ | with_reducible refine p_os ?_ | with_reducible refine p_fis ?_ | with_reducible refine p_rng1 ?_ | with_reducible refine p_rng2 ?_ | with_reducible refine p_fia ?_ | with_reducible refine p_din ?_ | with_reducible refine p_newT ?_ | with_reducible refine p_newK ?_ | with_reducible refine p_test ?_ | with_reducible refine p_band ?_ | with_reducible refine p_bor ?_ | with_reducible refine p_bnot ?_ | with_reducible refine p_yes ?_ | with_reducible refine p_or ?_ | with_reducible refine p_and ?_ | with_reducible refine p_not ?_ | with_reducible refine bh_t ?_ | with_reducible refine bh_f ?_ | with_reducible refine bh_nt ?_ | with_reducible refine bh_nf ?_ | ((with_reducible refine bh_r ?_); refine Exists.intro _ (And.intro rfl ?_)) | ((with_reducible refine ex_id ?_); first | refine Exists.intro _ (And.intro rfl ?_) | refine Exists.intro _ (Exists.intro _ (And.intro rfl ?_))) | ((with_reducible refine and_id ?_); refine And.intro rfl ?_)))
      intro σ2 H2 A2 hl2 M2
      have M2' : Mt K so H A' S σ2 [some (.imm (.tuple (enc ws))), some (.imm (.int c)), some (.lst []), some (.lst []), none, none, none, none] H2 A2 := by
        have m := M2
        rw [List.append_nil, List.append_nil] at m
        exact m
      have nL : ∀ ws : List (Str × Int), noLs (enc ws) = true := fun ws => by
        induction ws with
        | nil => rfl
        | cons q r ih => show (true && noLs (enc r)) = true; rw [ih]; rfl
      obtain ⟨v0, f0, o0⟩ := M2'.bd 0 _ rfl
      have d0 : Den K H2 nA v0 (.tuple (enc ws)) := Den.anyA (nL ws) o0
      obtain ⟨v1, f1, o1⟩ := M2'.bd 1 _ rfl
      cases o1
      obtain ⟨v2, f2, a, vs2, rfl, ha, nAa, h0a, da⟩ := M2'.bd 2 _ rfl
      cases da
      obtain ⟨v3, f3, b, vs3, rfl, hb, nAb, h0b, db⟩ := M2'.bd 3 _ rfl
      cases db
      have ab : a ≠ b := fun z => M2'.sep 2 3 _ _ _ (by decide) rfl rfl rfl rfl f2 (z ▸ f3)
      have ext : ∀ x o, H x = some o → H2 x = some o := fun x o ex => by
        by_cases hx : Has so x
        · have s1 := M.src
          have s2 := M2'.src
          cases so with
          | none => exact hx.elim
          | some pr =>
            obtain ⟨y, z⟩ := pr
            rcases hx with rfl | rfl
            · rw [s2.1, ← s1.1]; exact ex
            · rw [s2.2, ← s1.2]; exact ex
        · exact M2'.keep x o ex hx
      have B0 : BW K H2 H c a b [] [] [] σ2 H2 := ⟨M2'.len, f1, f2, f3, ext, ha, hb, rfl, ab, (fun h => nomatch h), (fun h => nomatch h), List.nodup_nil, h0a, h0b, (fun _ h => nomatch h), (fun k c q h => by simp at h), fun _ _ e => e⟩
      cases d0 with
      | tup hs hl =>
      rename_i wa xs
      have hxl : xs.length = ws.length := by rw [hl.length]; simp [enc]
      refine ⟨.ref wa, f0, wa, rfl, ⟨_, SqT.of hs⟩, fun i m σ Hx => i + m = ws.length ∧ ∃ a' cs, BW K H2 H c a' b ((blkL c (ws.take i)).map Prod.fst) ((blkL c (ws.take i)).map Prod.snd) cs σ Hx, ⟨ws.length, by omega, a, [], B0⟩, ?_⟩
      rintro i m σ Hx ⟨him, a', cs, B⟩
      have hx : SqT K Hx wa xs := SqT.of (B.tp wa xs hs)
      have dx : DenL K Hx nA xs (enc ws) := DenL.mono (fun _ h => h) (fun _ _ h => h.elim) B.tp hl
      obtain ⟨bo1, bo2⟩ := blk_ok (cut := c) (ws.take i)
      have tl : (ws.take i).length ≤ ws.length := by rw [List.length_take]; omega
      by_cases hi : i < ws.length
      · obtain ⟨l, p, hq⟩ : ∃ l p, ws[i]? = some (l, p) := ⟨ws[i].1, ws[i].2, List.getElem?_eq_getElem hi⟩
        obtain ⟨x, hxi, dxi⟩ := dx.get (i := i) (d := encP (l, p)) (by unfold enc; rw [List.getElem?_map, hq]; rfl)
        have tk : blkL c (ws.take (i + 1)) = blkStep c (blkL c (ws.take i)) (l, p) := by
          rw [List.take_add_one, hq]
          exact blk_snoc
        refine .inr ⟨⟨_, x, hx, hxi⟩, fun σ' H' => i + 1 + (m - 1) = ws.length ∧ ∃ a' cs, BW K H2 H c a' b ((blkL c (ws.take (i + 1))).map Prod.fst) ((blkL c (ws.take (i + 1))).map Prod.snd) cs σ' H', fun σ' H' hW => ⟨m - 1, by omega, hW⟩, ?_⟩
        rintro v H' ⟨rfl, hv⟩
        have ev : v = x := Option.some.inj ((hv xs hx).symm.trans hxi)
        subst ev
        rw [tk]
        have hm : i + 1 + (m - 1) = ws.length := by omega
        refine blk_turn rg r3 r4 r5 B dxi (fun y hy => ?_) (by rw [List.length_map, List.length_map]) (by rw [List.length_map]; omega) (fun q hq' => ?_) (fun h1 l0 r er a'' cs' σ' H'' B2 => ?_) (fun h1 a'' cs' σ' H'' B2 => ?_)
        · obtain ⟨z, hz, rfl⟩ := List.mem_map.mp hy
          obtain ⟨_, ⟨p', e'⟩, _⟩ := bo2 z hz
          rw [e']
          unfold sideS
          split <;> decide +kernel
        · obtain ⟨z, hz, rfl⟩ := List.mem_map.mp hq'
          have := (bo2 z hz).1
          omega
        · refine ⟨hm, a'', cs', ?_⟩
          rcases blk_cases (cut := c) (acc := blkL c (ws.take i)) (q := (l, p)) with ⟨r0, l1, k1, k2⟩ | ⟨k1, k2⟩
          · rw [k1, List.map_append] at er
            obtain ⟨q1, q2⟩ := List.append_inj' er rfl
            simp at q2
            subst q2
            rw [k2, List.map_append, List.map_append, q1]
            rw [k1, List.map_append] at B2
            exact B2
          · rcases k1 with k1 | ⟨r0, s0, l1, k1, k3⟩
            · rw [k1] at h1; cases h1
            · rw [k1] at h1
              simp at h1
              exact absurd h1 k3
        · refine ⟨hm, a'', cs', ?_⟩
          rcases blk_cases (cut := c) (acc := blkL c (ws.take i)) (q := (l, p)) with ⟨r0, l1, k1, k2⟩ | ⟨k1, k2⟩
          · rw [k1] at h1
            simp at h1
          · rw [k2, List.map_append, List.map_append]
            exact B2
      · have et : ws.take i = ws := List.take_of_length_le (by omega)
        refine .inl ⟨⟨xs, hx, by omega⟩, ?_⟩
        rw [et] at B bo1 bo2
        show t6' { nx := fun _ H' => Q .non H', rt := Q } σ Hx
        exact blk_fin r6 M B (by omega) (fun q hq => by have := (bo2 q hq).1; omega) fun σ ρ v H3 A3 hl3 M3 => h v H3 A3 (only hl3 M3)

abbrev l__law_blocks_1 : SS := (gSeq (gAsg (sName 5) (fIf (fTest (fOp leB (fVar 4) (fVar 1))) (fC (.str "L")) (fC (.str "R"))))
  (gSeq (gIf (bOr (fTest (fOp (eqB false) (fVar 2) (fAr lstB aNil))) (fTest (fOp (eqB true) (fOp ixB (fOp ixB (fVar 2) (fUn negB (fC (.int 1)))) (fC (.int 0))) (fVar 5))))
  (gAppend 2 (fAr tupB (aCons (fFrz 5) (aCons (fAr tupB aNil) aNil))))
  gNext)
  (gSetI 2 (fAr tupB (aCons (fFrz 5) (aCons (fOp addB (fOp ixB (fOp ixB (fVar 2) (fUn negB (fC (.int 1)))) (fC (.int 1))) (fAr tupB (aCons (fAr tupB (aCons (fFrz 3) (aCons (fFrz 4) aNil))) aNil))) aNil))) (fUn negB (fC (.int 1))))))
def g__law_blocks : SS := (gSeq (gIf (fTest (fOp (isB false) (fVar 0) (fC .none)))
  (gRet (fC .none))
  gNext)
  (gSeq (gAsg (sName 2) (fAr lstB aNil))
  (gSeq (gFor (sTup 2 (sCons (sName 3) (sCons (sName 4) sNil))) (fiSeq (fFrz 0))
  l__law_blocks_1)
  (gRet (fAr (o1 tupleB) (aCons (fVar 2) aNil))))))
def F__law_blocks : FD := runB 2 6 g__law_blocks
theorem d__law_blocks (T : Tx K mg t) : FnD P w K mg base 1 t.f__law_blocks t.d__law_blocks ["writing", "cut"] F__law_blocks :=
    fn_d T.F__law_blocks sc__law_blocks fun so cdv A outer s H hr => ⟨_, (dss_cons (ds_if (dt_is (de_var 0) de_non) (dss_one (ds_ret de_non)) dss_nil)
        (dss_cons (ds_set 2 sc__law_blocks.nd (de_lst da_nil))
        (dss_cons (ds_for PassesOwn.never rfl (di_seq (de_frz 0)) (dg_tup rfl (dgs_cons (dg_name 3 sc__law_blocks.nd) (dgs_cons (dg_name 4 sc__law_blocks.nd) dgs_nil))) (dss_cons (ds_set 5 sc__law_blocks.nd (de_if (h1 := tC .non) (dt_le (de_var 4) (de_var 1)) de_str de_str))
        (dss_cons (ds_if (DW.dt (dw_or (dt_eq hr (de_var 2) (de_lst da_nil)) (dw_or1 (dt_ne hr (de_ix (de_ix (de_var 2) (de_neg de_int)) de_int) (de_var 5))))) (dss_one (ds_app 2 (de_tup (da_cons (de_frz 5) (da_cons (de_tup da_nil) da_nil))))) dss_nil)
        (dss_one (ds_setI 2 (de_tup (da_cons (de_frz 5) (da_cons (de_add (de_ix (de_ix (de_var 2) (de_neg de_int)) de_int) (de_tup (da_cons (de_tup (da_cons (de_frz 3) (da_cons (de_frz 4) da_nil))) da_nil))) da_nil))) (de_neg de_int))))))
        (dss_one (ds_ret (de_callTy call_tuple_of cs_tuple T.z_tuple (by decide +kernel) (da_cons (de_var 2) da_nil)))))))⟩

def g_turns_of : SS := (gSeq (gIf (fTest (fOp (isB false) (fVar 0) (fC .none)))
  (gRet (fC .none))
  gNext)
  (gRet (fAr (o1 tupleB) (aCons (fLc [2, 3] (sTup 2 (sCons (sName 2) (sCons (sName 3) sNil))) (fiSeq (fCall F_blocks_of (aCons (fVar 0) (aCons (fVar 1) aNil)))) bYes (fFrz 2)) aNil))))
def F_turns_of : FD := runB 2 4 g_turns_of
theorem d_turns_of (T : Tx K mg t) : FnD P w K mg base 2 t.f_turns_of t.d_turns_of ["writing", "cut"] F_turns_of :=
    fn_d T.F_turns_of sc_turns_of fun so cdv A outer s H hr => ⟨_, (dss_cons (ds_if (dt_is (de_var 0) de_non) (dss_one (ds_ret de_non)) dss_nil)
        (dss_one (ds_ret (de_callTy call_tuple_of cs_tuple T.z_tuple (by decide +kernel) (da_cons (de_lc (own := [("side", 2), ("letters", 3)]) N_turns_of (defScope s_turns_of)  rfl sc_turns_of.nd (di_seq (de_call (d_blocks_of T) (hr.mono (by decide)) T.m_blocks_of T.F_blocks_of.kp T.b_blocks_of (da_cons (de_var 0) (da_cons (de_var 1) da_nil)))) (by decide +kernel) (fun _ _ _ _ _ => (by refine DG.cast (dg_tup rfl (dgs_cons (dg_name 2 sc_turns_of.nd) (dgs_cons (dg_name 3 sc_turns_of.nd) dgs_nil))) ?_; first | rfl | (dsimp only [Cx.blk, Cx.nox, cxOf] <;> rfl))) (by decide) (fun _ _ _ _ _ => dts_nil) (fun _ _ _ _ _ => (by refine DE.cast (de_frz 2) ?_; first | rfl | (dsimp only [Cx.blk, Cx.nox, cxOf] <;> rfl)))) da_nil)))))⟩

abbrev l__law_piece_1 : SS := (gSeq (gAsg (sName 5) (fIf (fTest (fOp (eqB false) (fVar 4) (fVar 1))) (fFrz 3) (fIf (fTest (fOp ltB (fVar 4) (fVar 1))) (fC (.str "L")) (fC (.str "R")))))
  (gIf (bOr (fTest (fOp (eqB false) (fVar 4) (fVar 1))) (fTest (fOp (eqB true) (fSl (fVar 2) (oSome (fUn negB (fC (.int 1)))) oNone) (fAr lstB (aCons (fFrz 5) aNil)))))
  (gAppend 2 (fFrz 5))
  gNext))
def g__law_piece : SS := (gSeq (gIf (fTest (fOp (isB false) (fVar 0) (fC .none)))
  (gRet (fC .none))
  gNext)
  (gSeq (gAsg (sName 2) (fAr lstB aNil))
  (gSeq (gFor (sTup 2 (sCons (sName 3) (sCons (sName 4) sNil))) (fiSeq (fFrz 0))
  l__law_piece_1)
  (gRet (fAr (o1 tupleB) (aCons (fVar 2) aNil))))))
def F__law_piece : FD := runB 2 6 g__law_piece
theorem d__law_piece (T : Tx K mg t) : FnD P w K mg base 1 t.f__law_piece t.d__law_piece ["writing", "place"] F__law_piece :=
    fn_d T.F__law_piece sc__law_piece fun so cdv A outer s H hr => ⟨_, (dss_cons (ds_if (dt_is (de_var 0) de_non) (dss_one (ds_ret de_non)) dss_nil)
        (dss_cons (ds_set 2 sc__law_piece.nd (de_lst da_nil))
        (dss_cons (ds_for PassesOwn.never rfl (di_seq (de_frz 0)) (dg_tup rfl (dgs_cons (dg_name 3 sc__law_piece.nd) (dgs_cons (dg_name 4 sc__law_piece.nd) dgs_nil))) (dss_cons (ds_set 5 sc__law_piece.nd (de_if (h1 := tC .non) (dt_eq hr (de_var 4) (de_var 1)) (de_frz 3) (de_if (h1 := tC .non) (dt_lt (de_var 4) (de_var 1)) de_str de_str)))
        (dss_one (ds_if (DW.dt (dw_or (dt_eq hr (de_var 4) (de_var 1)) (dw_or1 (dt_ne hr (de_sl (de_var 2) (do_some (de_neg de_int)) do_none) (de_lst (da_cons (de_frz 5) da_nil)))))) (dss_one (ds_app 2 (de_frz 5))) dss_nil))))
        (dss_one (ds_ret (de_callTy call_tuple_of cs_tuple T.z_tuple (by decide +kernel) (da_cons (de_var 2) da_nil)))))))⟩

abbrev l_turns_told_1 : SS := (gLend F_put_sign 3 (fIf (fTest (fOp (eqB false) (fVar 4) (fVar 1))) (fFrz 1) (fFrz 2)))
def g_turns_told : SS := (gSeq (gIf (fTest (fOp (isB false) (fVar 0) (fC .none)))
  (gRet (fC .none))
  gNext)
  (gSeq (gAsg (sName 3) (fAr lstB aNil))
  (gSeq (gFor (sName 4) (fiSeq (fFrz 0))
  l_turns_told_1)
  (gRet (fAr (o1 tupleB) (aCons (fVar 3) aNil))))))
def F_turns_told : FD := runB 3 5 g_turns_told
theorem d_turns_told (T : Tx K mg t) : FnD P w K mg base 2 t.f_turns_told t.d_turns_told ["piece", "side", "other"] F_turns_told :=
    fn_d T.F_turns_told sc_turns_told fun so cdv A outer s H hr => ⟨_, (dss_cons (ds_if (dt_is (de_var 0) de_non) (dss_one (ds_ret de_non)) dss_nil)
        (dss_cons (ds_set 3 sc_turns_told.nd (de_lst da_nil))
        (dss_cons (ds_for PassesOwn.never rfl (di_seq (de_frz 0)) (dg_name 4 sc_turns_told.nd) (dss_one (ds_lend 3 (d_put_sign T) (hr.mono (by decide)) T.m_put_sign T.F_put_sign.kp T.b_put_sign (de_if (h1 := tC .non) (dt_eq hr (de_var 4) (de_var 1)) (de_frz 1) (de_frz 2)))))
        (dss_one (ds_ret (de_callTy call_tuple_of cs_tuple T.z_tuple (by decide +kernel) (da_cons (de_var 3) da_nil)))))))⟩

def g_turns_behind : SS := (gRet (fCall F_turns_told (aCons (fVar 0) (aCons (fC (.str "R")) (aCons (fC (.str "L")) aNil)))))
def F_turns_behind : FD := runB 1 1 g_turns_behind
theorem d_turns_behind (T : Tx K mg t) : FnD P w K mg base 3 t.f_turns_behind t.d_turns_behind ["piece"] F_turns_behind :=
    fn_d T.F_turns_behind sc_turns_behind fun so cdv A outer s H hr => ⟨_, (dss_one (ds_ret (de_call (d_turns_told T) (hr.mono (by decide)) T.m_turns_told T.F_turns_told.kp T.b_turns_told (da_cons (de_var 0) (da_cons (de_gstr T.c_RIGHT.choose_spec) (da_cons (de_gstr T.c_LEFT.choose_spec) da_nil))))))⟩

def g_turns_ahead : SS := (gRet (fCall F_turns_told (aCons (fVar 0) (aCons (fC (.str "L")) (aCons (fC (.str "R")) aNil)))))
def F_turns_ahead : FD := runB 1 1 g_turns_ahead
theorem d_turns_ahead (T : Tx K mg t) : FnD P w K mg base 3 t.f_turns_ahead t.d_turns_ahead ["piece"] F_turns_ahead :=
    fn_d T.F_turns_ahead sc_turns_ahead fun so cdv A outer s H hr => ⟨_, (dss_one (ds_ret (de_call (d_turns_told T) (hr.mono (by decide)) T.m_turns_told T.F_turns_told.kp T.b_turns_told (da_cons (de_var 0) (da_cons (de_gstr T.c_LEFT.choose_spec) (da_cons (de_gstr T.c_RIGHT.choose_spec) da_nil))))))⟩

abbrev l__law_parts_1 : SS := (gSeq (gAsg (sName 4) (fIf (fTest (fOp (inB false) (fVar 3) (fAr tupB (aCons (fC (.str "L")) (aCons (fC (.str "R")) aNil))))) (fFrz 3) (fFrz 1)))
  (gAsg (sName 2) (fOp addB (fVar 2) (fOp mulB (fAr lstB (aCons (fFrz 4) aNil)) (fAr (o1 intB) (aCons (fOp (eqB true) (fSl (fVar 2) (oSome (fUn negB (fC (.int 1)))) oNone) (fAr lstB (aCons (fFrz 4) aNil))) aNil))))))
def g__law_parts : SS := (gSeq (gIf (fTest (fOp (isB false) (fVar 0) (fC .none)))
  (gRet (fC .none))
  gNext)
  (gSeq (gAsg (sName 2) (fAr lstB aNil))
  (gSeq (gFor (sName 3) (fiSeq (fFrz 0))
  l__law_parts_1)
  (gRet (fAr (o1 tupleB) (aCons (fVar 2) aNil))))))
def F__law_parts : FD := runB 2 5 g__law_parts
theorem d__law_parts (T : Tx K mg t) : FnD P w K mg base 1 t.f__law_parts t.d__law_parts ["piece", "own"] F__law_parts :=
    fn_d T.F__law_parts sc__law_parts fun so cdv A outer s H hr => ⟨_, (dss_cons (ds_if (dt_is (de_var 0) de_non) (dss_one (ds_ret de_non)) dss_nil)
        (dss_cons (ds_set 2 sc__law_parts.nd (de_lst da_nil))
        (dss_cons (ds_for PassesOwn.never rfl (di_seq (de_frz 0)) (dg_name 3 sc__law_parts.nd) (dss_cons (ds_set 4 sc__law_parts.nd (de_if (h1 := tC .non) (dt_in hr (de_var 3) (de_tup (da_cons de_str (da_cons de_str da_nil)))) (de_frz 3) (de_frz 1)))
        (dss_one (ds_set 2 sc__law_parts.nd (de_add (de_var 2) (de_mul (de_lst (da_cons (de_frz 4) da_nil)) (de_callTy call_int1 cs_int T.z_int (by decide +kernel) (da_cons (de_ne hr (de_sl (de_var 2) (do_some (de_neg de_int)) do_none) (de_lst (da_cons (de_frz 4) da_nil))) da_nil))))))))
        (dss_one (ds_ret (de_callTy call_tuple_of cs_tuple T.z_tuple (by decide +kernel) (da_cons (de_var 2) da_nil)))))))⟩

abbrev l_law_1 : SS := (gAppend 7 (fAr tupB (aCons (fCall F__law_of (aCons (fVar 1) (aCons (fOp ixB (fVar 2) (fC (.int 1))) aNil))) (aCons (fCall F__law_pick (aCons (fVar 1) (aCons (fOp addB (fVar 5) (fC (.int 2))) aNil))) aNil))))
abbrev l_law_2 : SS := (gSeq (gAsg (sName 10) (fCall F__law_turns (aCons (fVar 7) (aCons (fVar 9) aNil))))
  (gSeq (gIf (fTest (fOp (eqB true) (fAr (o1 reprB) (aCons (fCall F_blocks_of (aCons (fVar 7) (aCons (fVar 9) aNil))) aNil)) (fAr (o1 reprB) (aCons (fCall F__law_blocks (aCons (fVar 7) (aCons (fVar 9) aNil))) aNil))))
  (gRet (fC (.bool false)))
  gNext)
  (gSeq (gIf (fTest (fOp (eqB true) (fAr (o1 reprB) (aCons (fCall F_turns_of (aCons (fVar 7) (aCons (fVar 9) aNil))) aNil)) (fAr (o1 reprB) (aCons (fVar 10) aNil))))
  (gRet (fC (.bool false)))
  gNext)
  (gSeq (gPar (sCons (sName 11) (sCons (sName 12) sNil)) (aCons (fCall F_piece_of (aCons (fVar 7) (aCons (fVar 9) aNil))) (aCons (fCall F_piece_of (aCons (fVar 7) (aCons (fOp addB (fVar 9) (fC (.int 1))) aNil))) aNil)))
  (gSeq (gIf (fTest (fOp (eqB true) (fAr (o1 reprB) (aCons (fAr lstB (aCons (fFrz 11) (aCons (fFrz 12) aNil))) aNil)) (fAr (o1 reprB) (aCons (fAr lstB (aCons (fCall F__law_piece (aCons (fVar 7) (aCons (fVar 9) aNil))) (aCons (fCall F__law_piece (aCons (fVar 7) (aCons (fOp addB (fVar 9) (fC (.int 1))) aNil))) aNil))) aNil))))
  (gRet (fC (.bool false)))
  gNext)
  (gSeq (gIf (fTest (fOp (eqB true) (fAr (o1 reprB) (aCons (fAr lstB (aCons (fCall F_turns_behind (aCons (fVar 11) aNil)) (aCons (fCall F_turns_ahead (aCons (fVar 12) aNil)) aNil))) aNil)) (fAr (o1 reprB) (aCons (fAr lstB (aCons (fFrz 10) (aCons (fFrz 10) aNil))) aNil))))
  (gRet (fC (.bool false)))
  gNext)
  (gSeq (gIf (fTest (fOp (eqB true) (fAr (o1 reprB) (aCons (fAr lstB (aCons (fCall F_turns_behind (aCons (fVar 12) aNil)) (aCons (fCall F_turns_ahead (aCons (fVar 11) aNil)) aNil))) aNil)) (fAr (o1 reprB) (aCons (fAr lstB (aCons (fCall F__law_parts (aCons (fVar 12) (aCons (fC (.str "L")) aNil))) (aCons (fCall F__law_parts (aCons (fVar 11) (aCons (fC (.str "R")) aNil))) aNil))) aNil))))
  (gRet (fC (.bool false)))
  gNext)
  (gSeq (gIf (fTest (fOp (isB true) (fCall F_is_piece (aCons (fVar 11) (aCons (fOp ixB (fVar 2) (fC (.int 1))) aNil))) (fC (.bool true))))
  (gRet (fC (.bool false)))
  gNext)
  (gIf (bOr (bAnd (fTest (fOp (isB true) (fVar 7) (fC .none))) (bAnd (fTest (fOp (eqB false) (fVar 9) (fC (.int 0)))) (fTest (fOp (inB false) (fC (.str "L")) (fVar 11))))) (bAnd (fTest (fOp (isB true) (fVar 7) (fC .none))) (bAnd (fTest (fOp (eqB false) (fVar 9) (fVar 5))) (fTest (fOp (inB false) (fC (.str "R")) (fVar 12))))))
  (gRet (fC (.bool false)))
  gNext)))))))))
abbrev l_law_3 : SS := (gSeq (gPar (sCons (sName 4) (sCons (sName 5) sNil)) (aCons (fCall F__law_sweeps (aCons (fVar 1) (aCons (fVar 2) aNil))) (aCons (fCall F__law_pick (aCons (fVar 1) (aCons (fC (.int 8)) aNil))) aNil)))
  (gSeq (gAsg (sName 6) (fAr (o1 tupleB) (aCons (fLc [8] (sName 8) (fiAr rng1I (aCons (fVar 5) aNil)) bYes (fCall F__law_of (aCons (fVar 1) (aCons (fOp ixB (fVar 2) (fC (.int 0))) aNil)))) aNil)))
  (gSeq (gAsg (sName 7) (fOp ixB (fCall F__law_run (aCons (fVar 2) (aCons (fVar 4) (aCons (fVar 6) aNil)))) (fC (.int 0))))
  (gSeq (gIf (fTest (fOp gtB (fVar 3) (fC (.int 2))))
  (gSeq (gAsg (sName 7) (fAr lstB aNil))
  (gSeq (gFor (sName 8) (fiAr rng1I (aCons (fCall F__law_pick (aCons (fVar 1) (aCons (fC (.int 9)) aNil))) aNil))
  l_law_1)
  (gAsg (sName 7) (fAr (o1 tupleB) (aCons (fVar 7) aNil)))))
  gNext)
  (gFor (sName 9) (fiAr rng1I (aCons (fOp addB (fVar 5) (fC (.int 1))) aNil))
  l_law_2)))))
def g_law : SS := (gSeq (gAsg (sName 2) (fCall F__law_sheet (aCons (fVar 1) aNil)))
  (gSeq (gFor (sName 3) (fiAr rng1I (aCons (fC (.int 5)) aNil))
  l_law_3)
  (gSeq (gAsg (sName 13) (fOp ixB (fOp ixB (fVar 2) (fC (.int 1))) (fC (.int 0))))
  (gSeq (gAsg (sName 14) (fAr lstB (aCons (fAr tupB (aCons (fC (.str "L")) (aCons (fFrz 13) (aCons (fC (.str "L")) aNil)))) (aCons (fAr tupB (aCons (fC (.str "L")) (aCons (fC (.str "L")) aNil))) (aCons (fAr tupB (aCons (fFrz 13) (aCons (fC (.str "R")) (aCons (fC (.str "R")) aNil)))) (aCons (fAr tupB (aCons (fC (.str "R")) (aCons (fC (.str "L")) (aCons (fC (.str "R")) aNil)))) (aCons (fAr tupB aNil) (aCons (fC .none) (aCons (fAr lstB (aCons (fC (.str "L")) aNil)) (aCons (fAr tupB (aCons (fC (.str "zz")) aNil)) (aCons (fAr tupB (aCons (fC (.int 1)) aNil)) (aCons (fC (.str "L")) aNil))))))))))))
  (gSeq (gAppend 14 (fAr tupB (aCons (fFrz 13) (aCons (fFrz 13) aNil))))
  (gSeq (gAsg (sName 15) (fOp addB (fOp addB (fAr lstB (aCons (fC (.bool true)) (aCons (fC (.bool false)) (aCons (fC (.bool false)) (aCons (fC (.bool true)) (aCons (fC (.bool true)) (aCons (fC (.bool true)) aNil))))))) (fOp mulB (fAr lstB (aCons (fC (.bool false)) aNil)) (fC (.int 4)))) (fAr lstB (aCons (fC (.bool true)) aNil))))
  (gRet (fOp (eqB false) (fLc [16] (sName 16) (fiSeq (fVar 14)) bYes (fCall F_is_piece (aCons (fVar 16) (aCons (fOp ixB (fVar 2) (fC (.int 1))) aNil)))) (fVar 15)))))))))
theorem d_law (T : Tx K mg t) (plain : ∀ S : Src, ∃ ρ S', g_law (none :: some .src :: List.replicate 15 none) S = .ok (.rt (.imm (.bool true))) ρ S') : FnG P w K mg base 4 t.f_law t.d_law ["script"] (spLaw K) :=
    law_d T.F_law sc_law rfl (fun cdv A outer s H hr => ⟨_, _, _, rfl, ps_set (i := 1) sc_law.nd rfl (by first | exact .inl rfl | exact .inr rfl) (pe_callG (d__law_source T) (hr.mono (by decide)) (by rfl) T.m__law_source T.F__law_source.kp T.b__law_source (pa_cons (pv 0) pa_nil)), mkSrc, fun so => ⟨_, (dss_cons (ds_set 2 sc_law.nd (de_call (d__law_sheet T) (hr.mono (by decide)) T.m__law_sheet T.F__law_sheet.kp T.b__law_sheet (da_cons (de_var 1) da_nil)))
        (dss_cons (ds_for PassesOwn.never rfl (di_rng1 T.z_range (da_cons de_int da_nil)) (dg_name 3 sc_law.nd) (dss_cons (ds_par2 4 5 rfl sc_law.nd (da_cons (de_call (d__law_sweeps T) (hr.mono (by decide)) T.m__law_sweeps T.F__law_sweeps.kp T.b__law_sweeps (da_cons (de_var 1) (da_cons (de_var 2) da_nil))) (da_cons (de_call (d__law_pick T) (hr.mono (by decide)) T.m__law_pick T.F__law_pick.kp T.b__law_pick (da_cons (de_var 1) (da_cons de_int da_nil))) da_nil)))
        (dss_cons (ds_set 6 sc_law.nd (de_callTy call_tuple_of cs_tuple T.z_tuple (by decide +kernel) (da_cons (de_lc (own := [("k", 8)]) N_law (defScope s_law)  rfl sc_law.nd (di_rng1 T.z_range (da_cons (de_var 5) da_nil)) (by decide +kernel) (fun _ _ _ _ _ => (by refine DG.cast (dg_name 8 sc_law.nd) ?_; first | rfl | (dsimp only [Cx.blk, Cx.nox, cxOf] <;> rfl))) (by decide) (fun _ _ _ _ _ => dts_nil) (fun _ _ _ _ _ => (by refine DE.cast (de_call (d__law_of T) (hr.mono (by decide)) T.m__law_of T.F__law_of.kp T.b__law_of (da_cons (de_var 1) (da_cons (de_ix (de_var 2) de_int) da_nil))) ?_; first | rfl | (dsimp only [Cx.blk, Cx.nox, cxOf] <;> rfl)))) da_nil)))
        (dss_cons (ds_set 7 sc_law.nd (de_ix (de_call (d__law_run T) (hr.mono (by decide)) T.m__law_run T.F__law_run.kp T.b__law_run (da_cons (de_var 2) (da_cons (de_var 4) (da_cons (de_var 6) da_nil)))) de_int))
        (dss_cons (ds_if (dt_gt (de_var 3) de_int) (dss_cons (ds_set 7 sc_law.nd (de_lst da_nil))
        (dss_cons (ds_for PassesOwn.never rfl (di_rng1 T.z_range (da_cons (de_call (d__law_pick T) (hr.mono (by decide)) T.m__law_pick T.F__law_pick.kp T.b__law_pick (da_cons (de_var 1) (da_cons de_int da_nil))) da_nil)) (dg_name 8 sc_law.nd) (dss_one (ds_app 7 (de_tup (da_cons (de_call (d__law_of T) (hr.mono (by decide)) T.m__law_of T.F__law_of.kp T.b__law_of (da_cons (de_var 1) (da_cons (de_ix (de_var 2) de_int) da_nil))) (da_cons (de_call (d__law_pick T) (hr.mono (by decide)) T.m__law_pick T.F__law_pick.kp T.b__law_pick (da_cons (de_var 1) (da_cons (de_add (de_var 5) de_int) da_nil))) da_nil))))))
        (dss_one (ds_set 7 sc_law.nd (de_callTy call_tuple_of cs_tuple T.z_tuple (by decide +kernel) (da_cons (de_var 7) da_nil)))))) dss_nil)
        (dss_one (ds_for PassesOwn.never rfl (di_rng1 T.z_range (da_cons (de_add (de_var 5) de_int) da_nil)) (dg_name 9 sc_law.nd) (dss_cons (ds_set 10 sc_law.nd (de_call (d__law_turns T) (hr.mono (by decide)) T.m__law_turns T.F__law_turns.kp T.b__law_turns (da_cons (de_var 7) (da_cons (de_var 9) da_nil))))
        (dss_cons (ds_if (dt_ne hr (de_callB (call_reprA hr) cs_repr T.z_repr (by decide +kernel) (da_cons (de_call (d_blocks_of T) (hr.mono (by decide)) T.m_blocks_of T.F_blocks_of.kp T.b_blocks_of (da_cons (de_var 7) (da_cons (de_var 9) da_nil))) da_nil)) (de_callB (call_reprA hr) cs_repr T.z_repr (by decide +kernel) (da_cons (de_call (d__law_blocks T) (hr.mono (by decide)) T.m__law_blocks T.F__law_blocks.kp T.b__law_blocks (da_cons (de_var 7) (da_cons (de_var 9) da_nil))) da_nil))) (dss_one (ds_ret de_bl)) dss_nil)
        (dss_cons (ds_if (dt_ne hr (de_callB (call_reprA hr) cs_repr T.z_repr (by decide +kernel) (da_cons (de_call (d_turns_of T) (hr.mono (by decide)) T.m_turns_of T.F_turns_of.kp T.b_turns_of (da_cons (de_var 7) (da_cons (de_var 9) da_nil))) da_nil)) (de_callB (call_reprA hr) cs_repr T.z_repr (by decide +kernel) (da_cons (de_var 10) da_nil))) (dss_one (ds_ret de_bl)) dss_nil)
        (dss_cons (ds_par2 11 12 rfl sc_law.nd (da_cons (de_call (d_piece_of T) (hr.mono (by decide)) T.m_piece_of T.F_piece_of.kp T.b_piece_of (da_cons (de_var 7) (da_cons (de_var 9) da_nil))) (da_cons (de_call (d_piece_of T) (hr.mono (by decide)) T.m_piece_of T.F_piece_of.kp T.b_piece_of (da_cons (de_var 7) (da_cons (de_add (de_var 9) de_int) da_nil))) da_nil)))
        (dss_cons (ds_if (dt_ne hr (de_callB (call_reprA hr) cs_repr T.z_repr (by decide +kernel) (da_cons (de_lst (da_cons (de_frz 11) (da_cons (de_frz 12) da_nil))) da_nil)) (de_callB (call_reprA hr) cs_repr T.z_repr (by decide +kernel) (da_cons (de_lst (da_cons (de_call (d__law_piece T) (hr.mono (by decide)) T.m__law_piece T.F__law_piece.kp T.b__law_piece (da_cons (de_var 7) (da_cons (de_var 9) da_nil))) (da_cons (de_call (d__law_piece T) (hr.mono (by decide)) T.m__law_piece T.F__law_piece.kp T.b__law_piece (da_cons (de_var 7) (da_cons (de_add (de_var 9) de_int) da_nil))) da_nil))) da_nil))) (dss_one (ds_ret de_bl)) dss_nil)
        (dss_cons (ds_if (dt_ne hr (de_callB (call_reprA hr) cs_repr T.z_repr (by decide +kernel) (da_cons (de_lst (da_cons (de_call (d_turns_behind T) (hr.mono (by decide)) T.m_turns_behind T.F_turns_behind.kp T.b_turns_behind (da_cons (de_var 11) da_nil)) (da_cons (de_call (d_turns_ahead T) (hr.mono (by decide)) T.m_turns_ahead T.F_turns_ahead.kp T.b_turns_ahead (da_cons (de_var 12) da_nil)) da_nil))) da_nil)) (de_callB (call_reprA hr) cs_repr T.z_repr (by decide +kernel) (da_cons (de_lst (da_cons (de_frz 10) (da_cons (de_frz 10) da_nil))) da_nil))) (dss_one (ds_ret de_bl)) dss_nil)
        (dss_cons (ds_if (dt_ne hr (de_callB (call_reprA hr) cs_repr T.z_repr (by decide +kernel) (da_cons (de_lst (da_cons (de_call (d_turns_behind T) (hr.mono (by decide)) T.m_turns_behind T.F_turns_behind.kp T.b_turns_behind (da_cons (de_var 12) da_nil)) (da_cons (de_call (d_turns_ahead T) (hr.mono (by decide)) T.m_turns_ahead T.F_turns_ahead.kp T.b_turns_ahead (da_cons (de_var 11) da_nil)) da_nil))) da_nil)) (de_callB (call_reprA hr) cs_repr T.z_repr (by decide +kernel) (da_cons (de_lst (da_cons (de_call (d__law_parts T) (hr.mono (by decide)) T.m__law_parts T.F__law_parts.kp T.b__law_parts (da_cons (de_var 12) (da_cons de_str da_nil))) (da_cons (de_call (d__law_parts T) (hr.mono (by decide)) T.m__law_parts T.F__law_parts.kp T.b__law_parts (da_cons (de_var 11) (da_cons de_str da_nil))) da_nil))) da_nil))) (dss_one (ds_ret de_bl)) dss_nil)
        (dss_cons (ds_if (dt_isn (de_call (d_is_piece T) (hr.mono (by decide)) T.m_is_piece T.F_is_piece.kp T.b_is_piece (da_cons (de_var 11) (da_cons (de_ix (de_var 2) de_int) da_nil))) de_bl) (dss_one (ds_ret de_bl)) dss_nil)
        (dss_one (ds_if (DW.dt (dw_or (DW.dt (dw_and (dt_isn (de_var 7) de_non) (dw_and (dt_eq hr (de_var 9) de_int) (dw_and1 (dt_in hr de_str (de_var 11)))))) (dw_or1 (DW.dt (dw_and (dt_isn (de_var 7) de_non) (dw_and (dt_eq hr (de_var 9) (de_var 5)) (dw_and1 (dt_in hr de_str (de_var 12))))))))) (dss_one (ds_ret de_bl)) dss_nil)))))))))))))))))
        (dss_cons (ds_set 13 sc_law.nd (de_ix (de_ix (de_var 2) de_int) de_int))
        (dss_cons (ds_set 14 sc_law.nd (de_lst (da_cons (de_tup (da_cons de_str (da_cons (de_frz 13) (da_cons de_str da_nil)))) (da_cons (de_tup (da_cons de_str (da_cons de_str da_nil))) (da_cons (de_tup (da_cons (de_frz 13) (da_cons de_str (da_cons de_str da_nil)))) (da_cons (de_tup (da_cons de_str (da_cons de_str (da_cons de_str da_nil)))) (da_cons (de_tup da_nil) (da_cons de_non (da_cons (de_lst (da_cons de_str da_nil)) (da_cons (de_tup (da_cons de_str da_nil)) (da_cons (de_tup (da_cons de_int da_nil)) (da_cons de_str da_nil))))))))))))
        (dss_cons (ds_app 14 (de_tup (da_cons (de_frz 13) (da_cons (de_frz 13) da_nil))))
        (dss_cons (ds_set 15 sc_law.nd (de_add (de_add (de_lst (da_cons de_bl (da_cons de_bl (da_cons de_bl (da_cons de_bl (da_cons de_bl (da_cons de_bl da_nil))))))) (de_mul (de_lst (da_cons de_bl da_nil)) de_int)) (de_lst (da_cons de_bl da_nil))))
        (dss_one (ds_ret (de_eq hr (de_lc (own := [("value", 16)]) N_law (defScope s_law)  rfl sc_law.nd (di_seq (de_var 14)) (by decide +kernel) (fun _ _ _ _ _ => (by refine DG.cast (dg_name 16 sc_law.nd) ?_; first | rfl | (dsimp only [Cx.blk, Cx.nox, cxOf] <;> rfl))) (by decide) (fun _ _ _ _ _ => dts_nil) (fun _ _ _ _ _ => (by refine DE.cast (de_call (d_is_piece T) (hr.mono (by decide)) T.m_is_piece T.F_is_piece.kp T.b_is_piece (da_cons (de_var 16) (da_cons (de_ix (de_var 2) de_int) da_nil))) ?_; first | rfl | (dsimp only [Cx.blk, Cx.nox, cxOf] <;> rfl)))) (de_var 15))))))))))⟩⟩) plain


end
end Lw
set_option maxRecDepth 100000
set_option maxHeartbeats 400000
namespace Lw
open PySem PySem.Spec PyProof.Rows L2 DL
theorem atI_ok {ds : List PyData} {k : Int} (h : 0 ≤ k) (h2 : k < ds.length) : ∃ d ∈ ds, atI ds k = some d := by
  refine ⟨ds[k.toNat], List.getElem_mem _, ?_⟩
  unfold atI ixN
  rw [if_pos h, if_pos h2, Option.bind_some, List.getElem?_eq_getElem (by omega)]
theorem pick_ok {many : Int} {S : Src} (h1 : 1 ≤ many) (h2 : many ≤ 1000) : ∃ k S', 0 ≤ k ∧ k < many ∧ F__law_pick [.src, .imm (.int many)] S = some (.imm (.int k), S') := by
  have := pickS_range (S := S) h1
  refine ⟨(pickS S many).1, (pickS S many).2, this.1, this.2, ?_⟩
  show F_pick _ _ = _
  unfold F_pick
  simp only
  rw [if_pos (by omega)]
theorem cp_pick {bs : List Bd} {many : Int} {S : Src} {Q : Bd → Src → Prop} (e : argsB bs = some [.src, .imm (.int many)]) (h1 : 1 ≤ many) (h2 : many ≤ 1000) (h : ∀ k S', 0 ≤ k → k < many → Q (.imm (.int k)) S') : CallP F__law_pick bs S Q := by
  obtain ⟨k, S', a, b, e2⟩ := pick_ok (S := S) h1 h2
  refine callP e e2 ?_ (h k S' a b)
  cases bs.any Bd.lent <;> rfl
theorem of_seq {x : Bd} {ds : List PyData} {S : Src} (hx : x = .imm (.tuple ds) ∨ x = .imm (.list ds)) (h : ds ≠ []) (hl : ds.length ≤ 1000) : ∃ b S', F__law_of [.src, x] S = some (b, S') ∧ ∃ d ∈ ds, b = .imm d := by
  have h1 : 1 ≤ ds.length := List.length_pos_iff.mpr h
  rcases hx with rfl | rfl
  all_goals
    refine run_of rfl rfl ?_
    unfold g__law_of
    (repeat (first | with_reducible refine p_seq ?_ | with_reducible refine nx_nx ?_ | with_reducible refine nx_rt ?_ | with_reducible refine p_if ?_ | with_reducible refine p_asg ?_ | with_reducible refine p_par ?_ | with_reducible refine p_parN ?_ | with_reducible refine p_ret ?_ | with_reducible refine p_retN ?_ | with_reducible refine p_next ?_ | with_reducible refine p_brk ?_ | with_reducible refine p_cnt ?_ | with_reducible refine p_drop ?_ | with_reducible refine p_appE ?_ | with_reducible refine p_lenE ?_ | with_reducible refine p_setI ?_ | with_reducible refine p_dput ?_ | with_reducible refine p_for ?_ | with_reducible refine p_varE ?_ | with_reducible refine p_frzE ?_ | with_reducible refine p_movE ?_ | with_reducible refine p_c ?_ | with_reducible refine p_op ?_ | with_reducible refine p_un ?_ | with_reducible refine p_ar ?_ | with_reducible refine p_me ?_ | with_reducible refine p_ife ?_ | with_reducible refine p_nil ?_ | with_reducible refine p_cons ?_ | with_reducible refine p_call ?_ | with_reducible refine p_lc ?_ | with_reducible refine p_sl ?_ | with_reducible refine p_on ?_ | with_reducible refine p_os ?_ | with_reducible refine p_fis ?_ | with_reducible refine p_rng1 ?_ | with_reducible refine p_rng2 ?_ | with_reducible refine p_fia ?_ | with_reducible refine p_din ?_ | with_reducible refine p_newT ?_ | with_reducible refine p_newK ?_ | with_reducible refine p_test ?_ | with_reducible refine p_band ?_ | with_reducible refine p_bor ?_ | with_reducible refine p_bnot ?_ | with_reducible refine p_yes ?_ | with_reducible refine p_or ?_ | with_reducible refine p_and ?_ | with_reducible refine p_not ?_ | with_reducible refine bh_t ?_ | with_reducible refine bh_f ?_ | with_reducible refine bh_nt ?_ | with_reducible refine bh_nf ?_ | ((with_reducible refine bh_r ?_); refine Exists.intro _ (And.intro rfl ?_)) | ((with_reducible refine ex_id ?_); first | refine Exists.intro _ (And.intro rfl ?_) | refine Exists.intro _ (Exists.intro _ (And.intro rfl ?_))) | ((with_reducible refine and_id ?_); refine And.intro rfl ?_)))
    refine cp_pick rfl (by omega) (by omega) fun k S' k0 k1 => ?_
    obtain ⟨d, hd, e⟩ := atI_ok k0 k1
    exact ⟨_, by show (atI _ _).map _ = _; rw [e]; rfl, d, hd, rfl⟩
/-- a drawn one of a row of data -/
theorem cp_of {bs : List Bd} {x : Bd} {ds : List PyData} {S : Src} {Q : Bd → Src → Prop} (e : argsB bs = some [.src, x]) (hx : x = .imm (.tuple ds) ∨ x = .imm (.list ds)) (h : ds ≠ []) (hl : ds.length ≤ 1000) (hn : bs.any Bd.lent = false ∨ ∀ d ∈ ds, noL d = true)
    (q : ∀ d S', d ∈ ds → Q (.imm d) S') : CallP F__law_of bs S Q := by
  obtain ⟨b, S', e2, d, hd, rfl⟩ := of_seq (S := S) hx h hl
  refine callP e e2 ?_ (q d S' hd)
  rcases hn with hn | hn
  · rw [hn]; rfl
  · show (true && (!(bs.any Bd.lent) || noL d)) = true
    rw [hn d hd]
    cases bs.any Bd.lent <;> rfl
/-! ### the sheet -/
def T2 (a b : PyData) : PyData := .tuple [a, b]
def sheets : List PyData := [T2 (.tuple [.str "a", .str "b"]) (.tuple [.str "x", .str "y"]), T2 (.tuple [.str "a"]) (.tuple [.str "x"]), T2 (.tuple [.str "a", .str "b"]) (.tuple [.str "a", .str "b"]), T2 (.tuple [.str "a", .str "b"]) (.tuple [.str "x"])]
theorem sheet_ok {S : Src} : ∃ b S', F__law_sheet [.src] S = some (b, S') ∧ ∃ d ∈ sheets, b = .imm d := by
  refine run_of rfl rfl ?_
  unfold g__law_sheet
  (repeat (first | with_reducible refine p_seq ?_ | with_reducible refine nx_nx ?_ | with_reducible refine nx_rt ?_ | with_reducible refine p_if ?_ | with_reducible refine p_asg ?_ | with_reducible refine p_par ?_ | with_reducible refine p_parN ?_ | with_reducible refine p_ret ?_ | with_reducible refine p_retN ?_ | with_reducible refine p_next ?_ | with_reducible refine p_brk ?_ | with_reducible refine p_cnt ?_ | with_reducible refine p_drop ?_ | with_reducible refine p_appE ?_ | with_reducible refine p_lenE ?_ | with_reducible refine p_setI ?_ | with_reducible refine p_dput ?_ | with_reducible refine p_for ?_ | with_reducible refine p_varE ?_ | with_reducible refine p_frzE ?_ | with_reducible refine p_movE ?_ | with_reducible refine p_c ?_ | with_reducible refine p_op ?_ | with_reducible refine p_un ?_ | with_reducible refine p_ar ?_ | with_reducible refine p_me ?_ | with_reducible refine p_ife ?_ | with_reducible refine p_nil ?_ | with_reducible refine p_cons ?_ | with_reducible refine p_call ?_ | with_reducible refine p_lc ?_ | with_reducible refine p_sl ?_ | with_reducible refine p_on ?_ | with_reducible refine p_os ?_ | with_reducible refine p_fis ?_ | with_reducible refine p_rng1 ?_ | with_reducible refine p_rng2 ?_ | with_reducible refine p_fia ?_ | with_reducible refine p_din ?_ | with_reducible refine p_newT ?_ | with_reducible refine p_newK ?_ | with_reducible refine p_test ?_ | with_reducible refine p_band ?_ | with_reducible refine p_bor ?_ | with_reducible refine p_bnot ?_ | with_reducible refine p_yes ?_ | with_reducible refine p_or ?_ | with_reducible refine p_and ?_ | with_reducible refine p_not ?_ | with_reducible refine bh_t ?_ | with_reducible refine bh_f ?_ | with_reducible refine bh_nt ?_ | with_reducible refine bh_nf ?_ | ((with_reducible refine bh_r ?_); refine Exists.intro _ (And.intro rfl ?_)) | ((with_reducible refine ex_id ?_); first | refine Exists.intro _ (And.intro rfl ?_) | refine Exists.intro _ (Exists.intro _ (And.intro rfl ?_))) | ((with_reducible refine and_id ?_); refine And.intro rfl ?_)))
  refine cp_of rfl (.inr rfl) (by simp) (by simp) (.inr (by decide +kernel)) fun d S' hd => ?_
  exact ⟨d, hd, rfl⟩
/-! ### rows of signs -/
def encS (xs : List Str) : List PyData := xs.map .str
/-- twice the same in a row: once -/
def dd (xs : List Str) : List Str := xs.foldl (fun acc x => if acc.getLast? = some x then acc else acc ++ [x]) []
theorem dd_snoc (xs : List Str) (x : Str) : dd (xs ++ [x]) = if (dd xs).getLast? = some x then dd xs else dd xs ++ [x] := by
  unfold dd
  rw [List.foldl_append]
  rfl
theorem dd_last (xs : List Str) : (dd xs).getLast? = xs.getLast? := by
  rcases List.eq_nil_or_concat xs with rfl | ⟨r, l, rfl⟩
  · rfl
  · rw [List.concat_eq_append, dd_snoc]
    split
    · rename_i h; rw [h]; simp
    · simp
theorem dd_len (xs : List Str) : (dd xs).length ≤ xs.length := by
  suffices h : ∀ (l acc : List Str), (l.foldl (fun acc x => if acc.getLast? = some x then acc else acc ++ [x]) acc).length ≤ acc.length + l.length by
    have := h xs []; simpa [dd] using this
  intro l
  induction l with
  | nil => intro acc; simp
  | cons x l ih =>
    intro acc
    rw [List.foldl_cons, List.length_cons]
    refine Nat.le_trans (ih _) ?_
    split <;> simp <;> omega
def turnsL (cut : Int) (ws : List (Str × Int)) : List Str := dd (ws.map fun q => sideS cut q.2)
theorem canLay_encS {xs : List Str} (h : ∀ x ∈ xs, PyData.strOk x = true) : (encS xs).all isStrD = true := by
  rw [List.all_eq_true]
  intro d hd
  obtain ⟨x, hx, rfl⟩ := List.mem_map.mp hd
  exact h x hx
theorem cut_last {α : Type} (xs : List α) : cutG xs (some (-1)) none = xs.drop (xs.length - 1) := by
  unfold cutG HT.sIx
  simp only [show (-1 : Int) < 0 by decide, if_true]
  rw [show (-1 + (xs.length : Int)).toNat = xs.length - 1 by omega]
  rw [List.take_of_length_le (by simp)]
theorem last_ne {xs : List Str} {x : Str} (h : ∀ x ∈ xs, PyData.strOk x = true) (hx : PyData.strOk x = true) : eqB true (.lst (cutG (encS xs) (some (-1)) none)) (.lst [.str x]) = some (.imm (.bool (!decide (xs.getLast? = some x)))) := by
  rw [cut_last]
  have h1 : SeqAt.shaped (.list [.str x]) = true := shaped_strs (by simp [isStrD, hx])
  have h2 : SeqAt.shaped (.list ((encS xs).drop ((encS xs).length - 1))) = true := shaped_strs (by
    rw [List.all_eq_true]
    intro d hd
    exact List.all_eq_true.mp (canLay_encS h) d (List.mem_of_mem_drop hd))
  have e : eqB true (.lst ((encS xs).drop ((encS xs).length - 1))) (.lst [.str x]) = some (.imm (.bool (!PyData.eqv (.list ((encS xs).drop ((encS xs).length - 1))) (.list [.str x])))) := by
    show (if (SeqAt.shaped _ && SeqAt.shaped _) = true then _ else _) = _
    rw [h1, h2]
    rfl
  rw [e]
  rcases List.eq_nil_or_concat xs with rfl | ⟨r, l, rfl⟩
  · rfl
  · have : (encS (r.concat l)).drop ((encS (r.concat l)).length - 1) = [.str l] := by
      simp [encS]
    rw [this]
    by_cases z : l = x <;> simp [PyData.eqv, PyData.eqvAll, z]
theorem strOk_side (cut p : Int) : PyData.strOk (sideS cut p) = true := by
  unfold sideS; split <;> decide +kernel
theorem dd_mem {xs : List Str} {x : Str} (h : x ∈ dd xs) : x ∈ xs := by
  suffices g : ∀ (l acc : List Str), x ∈ (l.foldl (fun acc x => if acc.getLast? = some x then acc else acc ++ [x]) acc) → x ∈ acc ∨ x ∈ l by
    have := g xs [] h; simpa using this
  intro l
  induction l with
  | nil => intro acc h; exact .inl h
  | cons y l ih =>
    intro acc h
    rw [List.foldl_cons] at h
    rcases ih _ h with h | h
    · split at h
      · exact .inl h
      · rw [List.mem_append] at h
        rcases h with h | h
        · exact .inl h
        · simp at h; exact .inr (by simp [h])
    · exact .inr (List.mem_cons_of_mem _ h)
theorem enc_get {ws : List (Str × Int)} {i : Nat} {d : PyData} (h : (enc ws)[i]? = some d) : ∃ l p, ws[i]? = some (l, p) ∧ d = .tuple [.str l, .int p] := by
  unfold enc at h
  rw [List.getElem?_map] at h
  cases e : ws[i]? with
  | none => rw [e] at h; cases h
  | some q => rw [e] at h; exact ⟨q.1, q.2, rfl, (Option.some.inj h).symm⟩
theorem take_get {α : Type} {ws : List α} {i : Nat} {q : α} (h : ws[i]? = some q) : ws.take (i + 1) = ws.take i ++ [q] := by
  rw [List.take_add_one, h]; rfl
/-- found + [x] * int(found[-1:] != [x]) -/
theorem p_more {i j : Nat} {xs : List Str} {x : Str} {ρ : En} {S : Src} {Q : Bd → En → Src → Prop} (e1 : ρ[i]? = some (some (.lst (encS xs)))) (e2 : ρ[j]? = some (some (.imm (.str x)))) (hs : (∀ x ∈ xs, PyData.strOk x = true) ∧ PyData.strOk x = true ∧ xs.length ≤ 10000)
    (h : Q (.lst (encS (if xs.getLast? = some x then xs else xs ++ [x]))) ρ S) :
    (fOp addB (fVar i) (fOp mulB (fAr lstB (aCons (fFrz j) aNil)) (fAr (o1 intB) (aCons (fOp (eqB true) (fSl (fVar i) (oSome (fUn negB (fC (.int 1)))) oNone) (fAr lstB (aCons (fFrz j) aNil))) aNil))) ρ S).Post Q := by
  have hz : (encS xs).length = xs.length := by simp [encS]
  refine p_op (p_var e1 rfl (p_op (p_ar (p_cons (p_frz e2 rfl (p_nil ⟨_, rfl, p_ar (p_cons (p_op (p_sl (p_var e1 rfl (p_os (p_un (p_c ⟨_, rfl, _, rfl, p_on ⟨_, rfl, p_ar (p_cons (p_frz e2 rfl (p_nil ⟨_, rfl, ?_⟩)))⟩⟩))))))) ⟩))))))
  refine ⟨_, last_ne hs.1 hs.2.1, p_nil ⟨_, rfl, ?_⟩⟩
  by_cases z : xs.getLast? = some x
  · rw [if_pos z] at h
    rw [decide_eq_true z]
    refine ⟨_, rfl, _, ?_, h⟩
    show (if (encS xs).length + 0 ≤ 1000000 then some (Bd.lst (encS xs ++ [])) else none) = _
    rw [if_pos (by omega), List.append_nil]
  · rw [if_neg z] at h
    rw [decide_eq_false z]
    refine ⟨_, rfl, _, ?_, h⟩
    show (if (encS xs).length + 1 ≤ 1000000 then some (Bd.lst (encS xs ++ [.str x])) else none) = _
    rw [if_pos (by omega)]
    unfold encS
    rw [List.map_append]
    rfl
theorem turns_mem {ws : List (Str × Int)} {cut : Int} {x : Str} (h : x ∈ turnsL cut ws) : PyData.strOk x = true := by
  obtain ⟨q, _, rfl⟩ := List.mem_map.mp (dd_mem h)
  exact strOk_side _ _
theorem turns_len {ws : List (Str × Int)} {cut : Int} : (turnsL cut ws).length ≤ ws.length := by
  have := dd_len (ws.map fun q => sideS cut q.2)
  rwa [List.length_map] at this
theorem enc_len {ws : List (Str × Int)} : (enc ws).length = ws.length := by simp [enc]
theorem law_turns_ok {ws : List (Str × Int)} {cut : Int} {S : Src} (hl : ws.length ≤ 1000) : ∃ r S', F__law_turns [.imm (.tuple (enc ws)), .imm (.int cut)] S = some (r, S') ∧ r = .imm (.tuple (encS (turnsL cut ws))) := by
  refine run_of rfl rfl ?_
  unfold g__law_turns
  (repeat (first | with_reducible refine p_seq ?_ | with_reducible refine nx_nx ?_ | with_reducible refine nx_rt ?_ | with_reducible refine p_if ?_ | with_reducible refine p_asg ?_ | with_reducible refine p_par ?_ | with_reducible refine p_parN ?_ | with_reducible refine p_ret ?_ | with_reducible refine p_retN ?_ | with_reducible refine p_next ?_ | with_reducible refine p_brk ?_ | with_reducible refine p_cnt ?_ | with_reducible refine p_drop ?_ | with_reducible refine p_appE ?_ | with_reducible refine p_lenE ?_ | with_reducible refine p_setI ?_ | with_reducible refine p_dput ?_ | with_reducible refine p_for ?_ | with_reducible refine p_varE ?_ | with_reducible refine p_frzE ?_ | with_reducible refine p_movE ?_ | with_reducible refine p_c ?_ | with_reducible refine p_op ?_ | with_reducible refine p_un ?_ | with_reducible refine p_ar ?_ | with_reducible refine p_me ?_ | with_reducible refine p_ife ?_ | with_reducible refine p_nil ?_ | with_reducible refine p_cons ?_ | with_reducible refine p_call ?_ | with_reducible refine p_lc ?_ | with_reducible refine p_sl ?_ | with_reducible refine p_on ?_ | with_reducible refine p_os ?_ | with_reducible refine p_fis ?_ | with_reducible refine p_rng1 ?_ | with_reducible refine p_rng2 ?_ | with_reducible refine p_fia ?_ | with_reducible refine p_din ?_ | with_reducible refine p_newT ?_ | with_reducible refine p_newK ?_ | with_reducible refine p_test ?_ | with_reducible refine p_band ?_ | with_reducible refine p_bor ?_ | with_reducible refine p_bnot ?_ | with_reducible refine p_yes ?_ | with_reducible refine p_or ?_ | with_reducible refine p_and ?_ | with_reducible refine p_not ?_ | with_reducible refine bh_t ?_ | with_reducible refine bh_f ?_ | with_reducible refine bh_nt ?_ | with_reducible refine bh_nf ?_ | ((with_reducible refine bh_r ?_); refine Exists.intro _ (And.intro rfl ?_)) | ((with_reducible refine ex_id ?_); first | refine Exists.intro _ (And.intro rfl ?_) | refine Exists.intro _ (Exists.intro _ (And.intro rfl ?_))) | ((with_reducible refine and_id ?_); refine And.intro rfl ?_)))
  refine p_forS (fun i ρ => ∃ v3 v4 v5, ρ = [some (.imm (.tuple (enc ws))), some (.imm (.int cut)), some (.lst (encS (turnsL cut (ws.take i)))), v3, v4, v5]) ⟨_, _, _, rfl⟩ ?_ ?_
  · rintro i d ρ S hd ⟨v3, v4, v5, rfl⟩
    obtain ⟨l, p, hw, rfl⟩ := enc_get hd
    refine ⟨_, rfl, ?_⟩
    have h3 : (∀ x ∈ turnsL cut (ws.take i), PyData.strOk x = true) ∧ PyData.strOk (sideS cut p) = true ∧ (turnsL cut (ws.take i)).length ≤ 10000 := ⟨fun x => turns_mem, strOk_side _ _, by have := turns_len (cut := cut) (ws := ws.take i); rw [List.length_take] at this; omega⟩
    (repeat (first | ((with_reducible refine if_id ?_); refine p_side rfl rfl ?_) | ((with_reducible refine op_id ?_); refine p_more rfl rfl h3 ?_) | with_reducible refine p_seq ?_ | with_reducible refine nx_nx ?_ | with_reducible refine nx_rt ?_ | with_reducible refine p_if ?_ | with_reducible refine p_asg ?_ | with_reducible refine p_par ?_ | with_reducible refine p_parN ?_ | with_reducible refine p_ret ?_ | with_reducible refine p_retN ?_ | with_reducible refine p_next ?_ | with_reducible refine p_brk ?_ | with_reducible refine p_cnt ?_ | with_reducible refine p_drop ?_ | with_reducible refine p_appE ?_ | with_reducible refine p_lenE ?_ | with_reducible refine p_setI ?_ | with_reducible refine p_dput ?_ | with_reducible refine p_for ?_ | with_reducible refine p_varE ?_ | with_reducible refine p_frzE ?_ | with_reducible refine p_movE ?_ | with_reducible refine p_c ?_ | with_reducible refine p_op ?_ | with_reducible refine p_un ?_ | with_reducible refine p_ar ?_ | with_reducible refine p_me ?_ | with_reducible refine p_ife ?_ | with_reducible refine p_nil ?_ | with_reducible refine p_cons ?_ | with_reducible refine p_call ?_ | with_reducible refine p_lc ?_ | with_reducible refine p_sl ?_ | with_reducible refine p_on ?_ | with_reducible refine p_os ?_ | with_reducible refine p_fis ?_ | with_reducible refine p_rng1 ?_ | with_reducible refine p_rng2 ?_ | with_reducible refine p_fia ?_ | with_reducible refine p_din ?_ | with_reducible refine p_newT ?_ | with_reducible refine p_newK ?_ | with_reducible refine p_test ?_ | with_reducible refine p_band ?_ | with_reducible refine p_bor ?_ | with_reducible refine p_bnot ?_ | with_reducible refine p_yes ?_ | with_reducible refine p_or ?_ | with_reducible refine p_and ?_ | with_reducible refine p_not ?_ | with_reducible refine bh_t ?_ | with_reducible refine bh_f ?_ | with_reducible refine bh_nt ?_ | with_reducible refine bh_nf ?_ | ((with_reducible refine bh_r ?_); refine Exists.intro _ (And.intro rfl ?_)) | ((with_reducible refine ex_id ?_); first | refine Exists.intro _ (And.intro rfl ?_) | refine Exists.intro _ (Exists.intro _ (And.intro rfl ?_))) | ((with_reducible refine and_id ?_); refine And.intro rfl ?_)))
    refine ⟨.inl rfl, some (.imm (.str l)), some (.imm (.int p)), some (.imm (.str (sideS cut p))), ?_⟩
    rw [take_get hw]
    unfold turnsL
    rw [List.map_append, List.map_cons, List.map_nil, dd_snoc]
    rfl
  · rintro ρ S ⟨v3, v4, v5, rfl⟩
    (repeat (first | with_reducible refine p_seq ?_ | with_reducible refine nx_nx ?_ | with_reducible refine nx_rt ?_ | with_reducible refine p_if ?_ | with_reducible refine p_asg ?_ | with_reducible refine p_par ?_ | with_reducible refine p_parN ?_ | with_reducible refine p_ret ?_ | with_reducible refine p_retN ?_ | with_reducible refine p_next ?_ | with_reducible refine p_brk ?_ | with_reducible refine p_cnt ?_ | with_reducible refine p_drop ?_ | with_reducible refine p_appE ?_ | with_reducible refine p_lenE ?_ | with_reducible refine p_setI ?_ | with_reducible refine p_dput ?_ | with_reducible refine p_for ?_ | with_reducible refine p_varE ?_ | with_reducible refine p_frzE ?_ | with_reducible refine p_movE ?_ | with_reducible refine p_c ?_ | with_reducible refine p_op ?_ | with_reducible refine p_un ?_ | with_reducible refine p_ar ?_ | with_reducible refine p_me ?_ | with_reducible refine p_ife ?_ | with_reducible refine p_nil ?_ | with_reducible refine p_cons ?_ | with_reducible refine p_call ?_ | with_reducible refine p_lc ?_ | with_reducible refine p_sl ?_ | with_reducible refine p_on ?_ | with_reducible refine p_os ?_ | with_reducible refine p_fis ?_ | with_reducible refine p_rng1 ?_ | with_reducible refine p_rng2 ?_ | with_reducible refine p_fia ?_ | with_reducible refine p_din ?_ | with_reducible refine p_newT ?_ | with_reducible refine p_newK ?_ | with_reducible refine p_test ?_ | with_reducible refine p_band ?_ | with_reducible refine p_bor ?_ | with_reducible refine p_bnot ?_ | with_reducible refine p_yes ?_ | with_reducible refine p_or ?_ | with_reducible refine p_and ?_ | with_reducible refine p_not ?_ | with_reducible refine bh_t ?_ | with_reducible refine bh_f ?_ | with_reducible refine bh_nt ?_ | with_reducible refine bh_nf ?_ | ((with_reducible refine bh_r ?_); refine Exists.intro _ (And.intro rfl ?_)) | ((with_reducible refine ex_id ?_); first | refine Exists.intro _ (And.intro rfl ?_) | refine Exists.intro _ (Exists.intro _ (And.intro rfl ?_))) | ((with_reducible refine and_id ?_); refine And.intro rfl ?_)))
    rw [show (true, enc ws).2.length = ws.length from enc_len, List.take_length]
/-! ### pieces -/
/-- what a letter tells of a place -/
def sgn (p : Int) (q : Str × Int) : Str := if q.2 = p then q.1 else if q.2 < p then "L" else "R"
theorem p_sgn {i j l : Nat} {p w : Int} {x : Str} {ρ : En} {S : Src} {Q : Bd → En → Src → Prop} (e1 : ρ[i]? = some (some (.imm (.int w)))) (e2 : ρ[j]? = some (some (.imm (.int p)))) (e3 : ρ[l]? = some (some (.imm (.str x)))) (h : Q (.imm (.str (sgn p (x, w)))) ρ S) :
    (fIf (fTest (fOp (eqB false) (fVar i) (fVar j))) (fFrz l) (fIf (fTest (fOp ltB (fVar i) (fVar j))) (fC (.str "L")) (fC (.str "R"))) ρ S).Post Q := by
  unfold sgn at h
  refine p_ife (p_test (p_op (p_var e1 rfl (p_var e2 rfl ⟨_, rfl, _, rfl, bh_d (fun z => p_frz e3 rfl ?_) fun z => p_ife (p_test (p_op (p_var e1 rfl (p_var e2 rfl ⟨_, rfl, _, rfl, bh_d (fun z2 => p_c ?_) fun z2 => p_c ?_⟩))))⟩))))
  · rw [if_pos z] at h; exact h
  · rw [if_neg z, if_pos z2] at h; exact h
  · rw [if_neg z, if_neg z2] at h; exact h
def isLR (x : Str) : Prop := x = "L" ∨ x = "R"
instance (x : Str) : Decidable (isLR x) := by unfold isLR; exact inferInstance
def putL (acc : List Str) (x : Str) : List Str := if acc.getLast? = some x ∧ isLR x then acc else acc ++ [x]
def pieceL (p : Int) (ws : List (Str × Int)) : List Str := ws.foldl (fun acc q => putL acc (sgn p q)) []
theorem foldl_take {α β : Type} {f : β → α → β} {b : β} {ws : List α} {i : Nat} {q : α} (h : ws[i]? = some q) : (ws.take (i + 1)).foldl f b = f ((ws.take i).foldl f b) q := by
  rw [take_get h, List.foldl_append]
  rfl
theorem put_len {acc : List Str} {x : Str} : (putL acc x).length ≤ acc.length + 1 := by
  unfold putL; split <;> simp
theorem put_mem {acc : List Str} {x y : Str} (h : y ∈ putL acc x) : y ∈ acc ∨ y = x := by
  unfold putL at h
  split at h
  · exact .inl h
  · simpa using h
theorem foldl_len {α β : Type} {f : List β → α → List β} (hf : ∀ acc q, (f acc q).length ≤ acc.length + 1) : ∀ (ws : List α) (acc : List β), (ws.foldl f acc).length ≤ acc.length + ws.length
  | [], acc => by simp
  | q :: ws, acc => by
    rw [List.foldl_cons, List.length_cons]
    have := foldl_len hf ws (f acc q)
    have := hf acc q
    omega
theorem foldl_mem {α β : Type} {f : List β → α → List β} {P : β → Prop} {ws : List α} (hf : ∀ acc q, q ∈ ws → (∀ y ∈ acc, P y) → ∀ y ∈ f acc q, P y) : ∀ {acc : List β}, (∀ y ∈ acc, P y) → ∀ y ∈ ws.foldl f acc, P y := by
  induction ws with
  | nil => intro acc h; exact h
  | cons q ws ih =>
    intro acc h
    rw [List.foldl_cons]
    exact ih (fun acc q hq => hf acc q (List.mem_cons_of_mem _ hq)) (hf acc q List.mem_cons_self h)
theorem putS_eq {xs : List Str} {x : Str} : putS (encS xs) x = !decide (xs.getLast? = some x ∧ isLR x) := by
  have e1 : lastNe (encS xs) x = !decide (xs.getLast? = some x) := by
    rcases List.eq_nil_or_concat xs with rfl | ⟨r, l, rfl⟩
    · rfl
    · simp [lastNe, encS]
  unfold putS
  rw [e1]
  by_cases h1 : xs.getLast? = some x
  · by_cases h2 : isLR x
    · have : (("L" : Str) == x || ("R" : Str) == x) = true := by
        rcases h2 with rfl | rfl <;> decide +kernel
      rw [this]; simp [h1, h2]
    · have : (("L" : Str) == x || ("R" : Str) == x) = false := by
        simp only [Bool.or_eq_false_iff, beq_eq_false_iff_ne]
        exact ⟨fun z => h2 (.inl z.symm), fun z => h2 (.inr z.symm)⟩
      rw [this]; simp [h2]
  · simp [h1]
theorem put_sign_ok {xs : List Str} {x : Str} (h : ∀ x ∈ xs, PyData.strOk x = true) (hx : PyData.strOk x = true) (hl : xs.length ≤ 10000) : F_put_sign (encS xs) (.str x) = some (encS (putL xs x)) := by
  unfold F_put_sign
  have hz : (encS xs).length = xs.length := by simp [encS]
  simp only
  rw [if_pos (by rw [canLay_encS h, hx, decide_eq_true (by omega)]; rfl), putS_eq]
  unfold putL
  by_cases z : xs.getLast? = some x ∧ isLR x
  · rw [if_pos z, decide_eq_true z]; rfl
  · rw [if_neg z, decide_eq_false z]
    unfold encS
    rw [List.map_append]
    rfl
def StrsOk (ws : List (Str × Int)) : Prop := ∀ q ∈ ws, PyData.strOk q.1 = true
theorem sgn_ok {p : Int} {q : Str × Int} (h : PyData.strOk q.1 = true) : PyData.strOk (sgn p q) = true := by
  unfold sgn
  split
  · exact h
  · split <;> decide +kernel
theorem piece_strs {p : Int} {ws : List (Str × Int)} (h : StrsOk ws) : ∀ x ∈ pieceL p ws, PyData.strOk x = true := by
  refine foldl_mem (fun acc q hq ha y hy => ?_) (fun _ h => nomatch h)
  rcases put_mem hy with z | rfl
  · exact ha y z
  · exact sgn_ok (h q hq)
theorem piece_len {p : Int} {ws : List (Str × Int)} : (pieceL p ws).length ≤ ws.length := by
  have := foldl_len (f := fun acc q => putL acc (sgn p q)) (fun acc q => put_len) ws []
  rw [List.length_nil, Nat.zero_add] at this
  exact this
theorem StrsOk.take {ws : List (Str × Int)} (h : StrsOk ws) (i : Nat) : StrsOk (ws.take i) := fun q hq => h q (List.mem_of_mem_take hq)
theorem piece_ok {ws : List (Str × Int)} {p : Int} {S : Src} (hl : ws.length ≤ 1000) (h : StrsOk ws) : ∃ r S', F_piece_of [.imm (.tuple (enc ws)), .imm (.int p)] S = some (r, S') ∧ r = .imm (.tuple (encS (pieceL p ws))) := by
  refine run_of rfl rfl ?_
  unfold g_piece_of
  (repeat (first | with_reducible refine p_seq ?_ | with_reducible refine nx_nx ?_ | with_reducible refine nx_rt ?_ | with_reducible refine p_if ?_ | with_reducible refine p_asg ?_ | with_reducible refine p_par ?_ | with_reducible refine p_parN ?_ | with_reducible refine p_ret ?_ | with_reducible refine p_retN ?_ | with_reducible refine p_next ?_ | with_reducible refine p_brk ?_ | with_reducible refine p_cnt ?_ | with_reducible refine p_drop ?_ | with_reducible refine p_appE ?_ | with_reducible refine p_lenE ?_ | with_reducible refine p_setI ?_ | with_reducible refine p_dput ?_ | with_reducible refine p_for ?_ | with_reducible refine p_varE ?_ | with_reducible refine p_frzE ?_ | with_reducible refine p_movE ?_ | with_reducible refine p_c ?_ | with_reducible refine p_op ?_ | with_reducible refine p_un ?_ | with_reducible refine p_ar ?_ | with_reducible refine p_me ?_ | with_reducible refine p_ife ?_ | with_reducible refine p_nil ?_ | with_reducible refine p_cons ?_ | with_reducible refine p_call ?_ | with_reducible refine p_lc ?_ | with_reducible refine p_sl ?_ | with_reducible refine p_on ?_ | with_reducible refine p_os ?_ | with_reducible refine p_fis ?_ | with_reducible refine p_rng1 ?_ | with_reducible refine p_rng2 ?_ | with_reducible refine p_fia ?_ | with_reducible refine p_din ?_ | with_reducible refine p_newT ?_ | with_reducible refine p_newK ?_ | with_reducible refine p_test ?_ | with_reducible refine p_band ?_ | with_reducible refine p_bor ?_ | with_reducible refine p_bnot ?_ | with_reducible refine p_yes ?_ | with_reducible refine p_or ?_ | with_reducible refine p_and ?_ | with_reducible refine p_not ?_ | with_reducible refine bh_t ?_ | with_reducible refine bh_f ?_ | with_reducible refine bh_nt ?_ | with_reducible refine bh_nf ?_ | ((with_reducible refine bh_r ?_); refine Exists.intro _ (And.intro rfl ?_)) | ((with_reducible refine ex_id ?_); first | refine Exists.intro _ (And.intro rfl ?_) | refine Exists.intro _ (Exists.intro _ (And.intro rfl ?_))) | ((with_reducible refine and_id ?_); refine And.intro rfl ?_)))
  refine p_forS (fun i ρ => ∃ v3 v4, ρ = [some (.imm (.tuple (enc ws))), some (.imm (.int p)), some (.lst (encS (pieceL p (ws.take i)))), v3, v4]) ⟨_, _, rfl⟩ ?_ ?_
  · rintro i d ρ S hd ⟨v3, v4, rfl⟩
    obtain ⟨l, w, hw, rfl⟩ := enc_get hd
    refine ⟨_, rfl, ?_⟩
    (repeat (first | ((with_reducible refine if_id ?_); refine p_sgn rfl rfl rfl ?_) | with_reducible refine p_seq ?_ | with_reducible refine nx_nx ?_ | with_reducible refine nx_rt ?_ | with_reducible refine p_if ?_ | with_reducible refine p_asg ?_ | with_reducible refine p_par ?_ | with_reducible refine p_parN ?_ | with_reducible refine p_ret ?_ | with_reducible refine p_retN ?_ | with_reducible refine p_next ?_ | with_reducible refine p_brk ?_ | with_reducible refine p_cnt ?_ | with_reducible refine p_drop ?_ | with_reducible refine p_appE ?_ | with_reducible refine p_lenE ?_ | with_reducible refine p_setI ?_ | with_reducible refine p_dput ?_ | with_reducible refine p_for ?_ | with_reducible refine p_varE ?_ | with_reducible refine p_frzE ?_ | with_reducible refine p_movE ?_ | with_reducible refine p_c ?_ | with_reducible refine p_op ?_ | with_reducible refine p_un ?_ | with_reducible refine p_ar ?_ | with_reducible refine p_me ?_ | with_reducible refine p_ife ?_ | with_reducible refine p_nil ?_ | with_reducible refine p_cons ?_ | with_reducible refine p_call ?_ | with_reducible refine p_lc ?_ | with_reducible refine p_sl ?_ | with_reducible refine p_on ?_ | with_reducible refine p_os ?_ | with_reducible refine p_fis ?_ | with_reducible refine p_rng1 ?_ | with_reducible refine p_rng2 ?_ | with_reducible refine p_fia ?_ | with_reducible refine p_din ?_ | with_reducible refine p_newT ?_ | with_reducible refine p_newK ?_ | with_reducible refine p_test ?_ | with_reducible refine p_band ?_ | with_reducible refine p_bor ?_ | with_reducible refine p_bnot ?_ | with_reducible refine p_yes ?_ | with_reducible refine p_or ?_ | with_reducible refine p_and ?_ | with_reducible refine p_not ?_ | with_reducible refine bh_t ?_ | with_reducible refine bh_f ?_ | with_reducible refine bh_nt ?_ | with_reducible refine bh_nf ?_ | ((with_reducible refine bh_r ?_); refine Exists.intro _ (And.intro rfl ?_)) | ((with_reducible refine ex_id ?_); first | refine Exists.intro _ (And.intro rfl ?_) | refine Exists.intro _ (Exists.intro _ (And.intro rfl ?_))) | ((with_reducible refine and_id ?_); refine And.intro rfl ?_)))
    refine ⟨_, _, _, rfl, rfl, put_sign_ok (piece_strs (h.take i)) (sgn_ok (h _ (List.mem_of_getElem? hw))) (by have := piece_len (p := p) (ws := ws.take i); rw [List.length_take] at this; omega), rfl, ?_⟩
    refine ⟨.inl rfl, some (.imm (.str l)), some (.imm (.int w)), ?_⟩
    unfold pieceL
    rw [foldl_take hw]
    rfl
  · rintro ρ S ⟨v3, v4, rfl⟩
    (repeat (first | with_reducible refine p_seq ?_ | with_reducible refine nx_nx ?_ | with_reducible refine nx_rt ?_ | with_reducible refine p_if ?_ | with_reducible refine p_asg ?_ | with_reducible refine p_par ?_ | with_reducible refine p_parN ?_ | with_reducible refine p_ret ?_ | with_reducible refine p_retN ?_ | with_reducible refine p_next ?_ | with_reducible refine p_brk ?_ | with_reducible refine p_cnt ?_ | with_reducible refine p_drop ?_ | with_reducible refine p_appE ?_ | with_reducible refine p_lenE ?_ | with_reducible refine p_setI ?_ | with_reducible refine p_dput ?_ | with_reducible refine p_for ?_ | with_reducible refine p_varE ?_ | with_reducible refine p_frzE ?_ | with_reducible refine p_movE ?_ | with_reducible refine p_c ?_ | with_reducible refine p_op ?_ | with_reducible refine p_un ?_ | with_reducible refine p_ar ?_ | with_reducible refine p_me ?_ | with_reducible refine p_ife ?_ | with_reducible refine p_nil ?_ | with_reducible refine p_cons ?_ | with_reducible refine p_call ?_ | with_reducible refine p_lc ?_ | with_reducible refine p_sl ?_ | with_reducible refine p_on ?_ | with_reducible refine p_os ?_ | with_reducible refine p_fis ?_ | with_reducible refine p_rng1 ?_ | with_reducible refine p_rng2 ?_ | with_reducible refine p_fia ?_ | with_reducible refine p_din ?_ | with_reducible refine p_newT ?_ | with_reducible refine p_newK ?_ | with_reducible refine p_test ?_ | with_reducible refine p_band ?_ | with_reducible refine p_bor ?_ | with_reducible refine p_bnot ?_ | with_reducible refine p_yes ?_ | with_reducible refine p_or ?_ | with_reducible refine p_and ?_ | with_reducible refine p_not ?_ | with_reducible refine bh_t ?_ | with_reducible refine bh_f ?_ | with_reducible refine bh_nt ?_ | with_reducible refine bh_nf ?_ | ((with_reducible refine bh_r ?_); refine Exists.intro _ (And.intro rfl ?_)) | ((with_reducible refine ex_id ?_); first | refine Exists.intro _ (And.intro rfl ?_) | refine Exists.intro _ (Exists.intro _ (And.intro rfl ?_))) | ((with_reducible refine and_id ?_); refine And.intro rfl ?_)))
    rw [show (true, enc ws).2.length = ws.length from enc_len, List.take_length]
theorem law_piece_ok {ws : List (Str × Int)} {p : Int} {S : Src} (hl : ws.length ≤ 1000) (h : StrsOk ws) (hn : ∀ q ∈ ws, ¬ isLR q.1) : ∃ r S', F__law_piece [.imm (.tuple (enc ws)), .imm (.int p)] S = some (r, S') ∧ r = .imm (.tuple (encS (pieceL p ws))) := by
  refine run_of rfl rfl ?_
  unfold g__law_piece
  (repeat (first | with_reducible refine p_seq ?_ | with_reducible refine nx_nx ?_ | with_reducible refine nx_rt ?_ | with_reducible refine p_if ?_ | with_reducible refine p_asg ?_ | with_reducible refine p_par ?_ | with_reducible refine p_parN ?_ | with_reducible refine p_ret ?_ | with_reducible refine p_retN ?_ | with_reducible refine p_next ?_ | with_reducible refine p_brk ?_ | with_reducible refine p_cnt ?_ | with_reducible refine p_drop ?_ | with_reducible refine p_appE ?_ | with_reducible refine p_lenE ?_ | with_reducible refine p_setI ?_ | with_reducible refine p_dput ?_ | with_reducible refine p_for ?_ | with_reducible refine p_varE ?_ | with_reducible refine p_frzE ?_ | with_reducible refine p_movE ?_ | with_reducible refine p_c ?_ | with_reducible refine p_op ?_ | with_reducible refine p_un ?_ | with_reducible refine p_ar ?_ | with_reducible refine p_me ?_ | with_reducible refine p_ife ?_ | with_reducible refine p_nil ?_ | with_reducible refine p_cons ?_ | with_reducible refine p_call ?_ | with_reducible refine p_lc ?_ | with_reducible refine p_sl ?_ | with_reducible refine p_on ?_ | with_reducible refine p_os ?_ | with_reducible refine p_fis ?_ | with_reducible refine p_rng1 ?_ | with_reducible refine p_rng2 ?_ | with_reducible refine p_fia ?_ | with_reducible refine p_din ?_ | with_reducible refine p_newT ?_ | with_reducible refine p_newK ?_ | with_reducible refine p_test ?_ | with_reducible refine p_band ?_ | with_reducible refine p_bor ?_ | with_reducible refine p_bnot ?_ | with_reducible refine p_yes ?_ | with_reducible refine p_or ?_ | with_reducible refine p_and ?_ | with_reducible refine p_not ?_ | with_reducible refine bh_t ?_ | with_reducible refine bh_f ?_ | with_reducible refine bh_nt ?_ | with_reducible refine bh_nf ?_ | ((with_reducible refine bh_r ?_); refine Exists.intro _ (And.intro rfl ?_)) | ((with_reducible refine ex_id ?_); first | refine Exists.intro _ (And.intro rfl ?_) | refine Exists.intro _ (Exists.intro _ (And.intro rfl ?_))) | ((with_reducible refine and_id ?_); refine And.intro rfl ?_)))
  refine p_forS (fun i ρ => ∃ v3 v4 v5, ρ = [some (.imm (.tuple (enc ws))), some (.imm (.int p)), some (.lst (encS (pieceL p (ws.take i)))), v3, v4, v5]) ⟨_, _, _, rfl⟩ ?_ ?_
  · rintro i d ρ S hd ⟨v3, v4, v5, rfl⟩
    obtain ⟨l, w, hw, rfl⟩ := enc_get hd
    have hm := List.mem_of_getElem? hw
    have hlen : (encS (pieceL p (ws.take i))).length < 1000000 := by
      have := piece_len (p := p) (ws := ws.take i)
      rw [List.length_take] at this
      simp only [encS, List.length_map]
      omega
    have fin : ∀ (xs : List Str), xs = putL (pieceL p (ws.take i)) (sgn p (l, w)) → xs = pieceL p (ws.take (i + 1)) := fun xs e => by
      unfold pieceL
      rw [foldl_take hw]
      exact e
    have eA : ∀ x : Str, encS (pieceL p (ws.take i)) ++ [.str x] = encS (pieceL p (ws.take i) ++ [x]) := fun x => by simp [encS]
    refine ⟨_, rfl, ?_⟩
    (repeat (first | ((with_reducible refine if_id ?_); refine p_sgn rfl rfl rfl ?_) | with_reducible refine p_seq ?_ | with_reducible refine nx_nx ?_ | with_reducible refine nx_rt ?_ | with_reducible refine p_if ?_ | with_reducible refine p_asg ?_ | with_reducible refine p_par ?_ | with_reducible refine p_parN ?_ | with_reducible refine p_ret ?_ | with_reducible refine p_retN ?_ | with_reducible refine p_next ?_ | with_reducible refine p_brk ?_ | with_reducible refine p_cnt ?_ | with_reducible refine p_drop ?_ | with_reducible refine p_appE ?_ | with_reducible refine p_lenE ?_ | with_reducible refine p_setI ?_ | with_reducible refine p_dput ?_ | with_reducible refine p_for ?_ | with_reducible refine p_varE ?_ | with_reducible refine p_frzE ?_ | with_reducible refine p_movE ?_ | with_reducible refine p_c ?_ | with_reducible refine p_op ?_ | with_reducible refine p_un ?_ | with_reducible refine p_ar ?_ | with_reducible refine p_me ?_ | with_reducible refine p_ife ?_ | with_reducible refine p_nil ?_ | with_reducible refine p_cons ?_ | with_reducible refine p_call ?_ | with_reducible refine p_lc ?_ | with_reducible refine p_sl ?_ | with_reducible refine p_on ?_ | with_reducible refine p_os ?_ | with_reducible refine p_fis ?_ | with_reducible refine p_rng1 ?_ | with_reducible refine p_rng2 ?_ | with_reducible refine p_fia ?_ | with_reducible refine p_din ?_ | with_reducible refine p_newT ?_ | with_reducible refine p_newK ?_ | with_reducible refine p_test ?_ | with_reducible refine p_band ?_ | with_reducible refine p_bor ?_ | with_reducible refine p_bnot ?_ | with_reducible refine p_yes ?_ | with_reducible refine p_or ?_ | with_reducible refine p_and ?_ | with_reducible refine p_not ?_ | with_reducible refine bh_t ?_ | with_reducible refine bh_f ?_ | with_reducible refine bh_nt ?_ | with_reducible refine bh_nf ?_ | ((with_reducible refine bh_r ?_); refine Exists.intro _ (And.intro rfl ?_)) | ((with_reducible refine ex_id ?_); first | refine Exists.intro _ (And.intro rfl ?_) | refine Exists.intro _ (Exists.intro _ (And.intro rfl ?_))) | ((with_reducible refine and_id ?_); refine And.intro rfl ?_)))
    refine bh_d (fun z => ?_) (fun z => ?_)
    · (repeat (first | with_reducible refine p_seq ?_ | with_reducible refine nx_nx ?_ | with_reducible refine nx_rt ?_ | with_reducible refine p_if ?_ | with_reducible refine p_asg ?_ | with_reducible refine p_par ?_ | with_reducible refine p_parN ?_ | with_reducible refine p_ret ?_ | with_reducible refine p_retN ?_ | with_reducible refine p_next ?_ | with_reducible refine p_brk ?_ | with_reducible refine p_cnt ?_ | with_reducible refine p_drop ?_ | with_reducible refine p_appE ?_ | with_reducible refine p_lenE ?_ | with_reducible refine p_setI ?_ | with_reducible refine p_dput ?_ | with_reducible refine p_for ?_ | with_reducible refine p_varE ?_ | with_reducible refine p_frzE ?_ | with_reducible refine p_movE ?_ | with_reducible refine p_c ?_ | with_reducible refine p_op ?_ | with_reducible refine p_un ?_ | with_reducible refine p_ar ?_ | with_reducible refine p_me ?_ | with_reducible refine p_ife ?_ | with_reducible refine p_nil ?_ | with_reducible refine p_cons ?_ | with_reducible refine p_call ?_ | with_reducible refine p_lc ?_ | with_reducible refine p_sl ?_ | with_reducible refine p_on ?_ | with_reducible refine p_os ?_ | with_reducible refine p_fis ?_ | with_reducible refine p_rng1 ?_ | with_reducible refine p_rng2 ?_ | with_reducible refine p_fia ?_ | with_reducible refine p_din ?_ | with_reducible refine p_newT ?_ | with_reducible refine p_newK ?_ | with_reducible refine p_test ?_ | with_reducible refine p_band ?_ | with_reducible refine p_bor ?_ | with_reducible refine p_bnot ?_ | with_reducible refine p_yes ?_ | with_reducible refine p_or ?_ | with_reducible refine p_and ?_ | with_reducible refine p_not ?_ | with_reducible refine bh_t ?_ | with_reducible refine bh_f ?_ | with_reducible refine bh_nt ?_ | with_reducible refine bh_nf ?_ | ((with_reducible refine bh_r ?_); refine Exists.intro _ (And.intro rfl ?_)) | ((with_reducible refine ex_id ?_); first | refine Exists.intro _ (And.intro rfl ?_) | refine Exists.intro _ (Exists.intro _ (And.intro rfl ?_))) | ((with_reducible refine and_id ?_); refine And.intro rfl ?_)))
      refine ⟨_, _, rfl, rfl, hlen, rfl, .inl rfl, some (.imm (.str l)), some (.imm (.int w)), some (.imm (.str (sgn p (l, w)))), ?_⟩
      rw [← fin (pieceL p (ws.take i) ++ [sgn p (l, w)]) ?_, ← eA]
      · rfl
      · unfold putL
        rw [if_neg]
        have : sgn p (l, w) = l := by unfold sgn; rw [if_pos z]
        rw [this]
        exact fun q => hn _ hm q.2
    · (repeat (first | with_reducible refine p_seq ?_ | with_reducible refine nx_nx ?_ | with_reducible refine nx_rt ?_ | with_reducible refine p_if ?_ | with_reducible refine p_asg ?_ | with_reducible refine p_par ?_ | with_reducible refine p_parN ?_ | with_reducible refine p_ret ?_ | with_reducible refine p_retN ?_ | with_reducible refine p_next ?_ | with_reducible refine p_brk ?_ | with_reducible refine p_cnt ?_ | with_reducible refine p_drop ?_ | with_reducible refine p_appE ?_ | with_reducible refine p_lenE ?_ | with_reducible refine p_setI ?_ | with_reducible refine p_dput ?_ | with_reducible refine p_for ?_ | with_reducible refine p_varE ?_ | with_reducible refine p_frzE ?_ | with_reducible refine p_movE ?_ | with_reducible refine p_c ?_ | with_reducible refine p_op ?_ | with_reducible refine p_un ?_ | with_reducible refine p_ar ?_ | with_reducible refine p_me ?_ | with_reducible refine p_ife ?_ | with_reducible refine p_nil ?_ | with_reducible refine p_cons ?_ | with_reducible refine p_call ?_ | with_reducible refine p_lc ?_ | with_reducible refine p_sl ?_ | with_reducible refine p_on ?_ | with_reducible refine p_os ?_ | with_reducible refine p_fis ?_ | with_reducible refine p_rng1 ?_ | with_reducible refine p_rng2 ?_ | with_reducible refine p_fia ?_ | with_reducible refine p_din ?_ | with_reducible refine p_newT ?_ | with_reducible refine p_newK ?_ | with_reducible refine p_test ?_ | with_reducible refine p_band ?_ | with_reducible refine p_bor ?_ | with_reducible refine p_bnot ?_ | with_reducible refine p_yes ?_ | with_reducible refine p_or ?_ | with_reducible refine p_and ?_ | with_reducible refine p_not ?_ | with_reducible refine bh_t ?_ | with_reducible refine bh_f ?_ | with_reducible refine bh_nt ?_ | with_reducible refine bh_nf ?_ | ((with_reducible refine bh_r ?_); refine Exists.intro _ (And.intro rfl ?_)) | ((with_reducible refine ex_id ?_); first | refine Exists.intro _ (And.intro rfl ?_) | refine Exists.intro _ (Exists.intro _ (And.intro rfl ?_))) | ((with_reducible refine and_id ?_); refine And.intro rfl ?_)))
      refine ⟨_, last_ne (piece_strs (h.take i)) (sgn_ok (h _ hm)), _, rfl, ?_⟩
      have lr : isLR (sgn p (l, w)) := by
        unfold sgn
        rw [if_neg z]
        by_cases z2 : w < p
        · rw [if_pos z2]; exact .inl rfl
        · rw [if_neg z2]; exact .inr rfl
      refine bh_n (bh_d (fun z2 => ?_) (fun z2 => ?_))
      · (repeat (first | with_reducible refine p_seq ?_ | with_reducible refine nx_nx ?_ | with_reducible refine nx_rt ?_ | with_reducible refine p_if ?_ | with_reducible refine p_asg ?_ | with_reducible refine p_par ?_ | with_reducible refine p_parN ?_ | with_reducible refine p_ret ?_ | with_reducible refine p_retN ?_ | with_reducible refine p_next ?_ | with_reducible refine p_brk ?_ | with_reducible refine p_cnt ?_ | with_reducible refine p_drop ?_ | with_reducible refine p_appE ?_ | with_reducible refine p_lenE ?_ | with_reducible refine p_setI ?_ | with_reducible refine p_dput ?_ | with_reducible refine p_for ?_ | with_reducible refine p_varE ?_ | with_reducible refine p_frzE ?_ | with_reducible refine p_movE ?_ | with_reducible refine p_c ?_ | with_reducible refine p_op ?_ | with_reducible refine p_un ?_ | with_reducible refine p_ar ?_ | with_reducible refine p_me ?_ | with_reducible refine p_ife ?_ | with_reducible refine p_nil ?_ | with_reducible refine p_cons ?_ | with_reducible refine p_call ?_ | with_reducible refine p_lc ?_ | with_reducible refine p_sl ?_ | with_reducible refine p_on ?_ | with_reducible refine p_os ?_ | with_reducible refine p_fis ?_ | with_reducible refine p_rng1 ?_ | with_reducible refine p_rng2 ?_ | with_reducible refine p_fia ?_ | with_reducible refine p_din ?_ | with_reducible refine p_newT ?_ | with_reducible refine p_newK ?_ | with_reducible refine p_test ?_ | with_reducible refine p_band ?_ | with_reducible refine p_bor ?_ | with_reducible refine p_bnot ?_ | with_reducible refine p_yes ?_ | with_reducible refine p_or ?_ | with_reducible refine p_and ?_ | with_reducible refine p_not ?_ | with_reducible refine bh_t ?_ | with_reducible refine bh_f ?_ | with_reducible refine bh_nt ?_ | with_reducible refine bh_nf ?_ | ((with_reducible refine bh_r ?_); refine Exists.intro _ (And.intro rfl ?_)) | ((with_reducible refine ex_id ?_); first | refine Exists.intro _ (And.intro rfl ?_) | refine Exists.intro _ (Exists.intro _ (And.intro rfl ?_))) | ((with_reducible refine and_id ?_); refine And.intro rfl ?_)))
        refine ⟨.inl rfl, some (.imm (.str l)), some (.imm (.int w)), some (.imm (.str (sgn p (l, w)))), ?_⟩
        rw [← fin (pieceL p (ws.take i)) (by unfold putL; rw [if_pos ⟨z2, lr⟩])]
        rfl
      · (repeat (first | with_reducible refine p_seq ?_ | with_reducible refine nx_nx ?_ | with_reducible refine nx_rt ?_ | with_reducible refine p_if ?_ | with_reducible refine p_asg ?_ | with_reducible refine p_par ?_ | with_reducible refine p_parN ?_ | with_reducible refine p_ret ?_ | with_reducible refine p_retN ?_ | with_reducible refine p_next ?_ | with_reducible refine p_brk ?_ | with_reducible refine p_cnt ?_ | with_reducible refine p_drop ?_ | with_reducible refine p_appE ?_ | with_reducible refine p_lenE ?_ | with_reducible refine p_setI ?_ | with_reducible refine p_dput ?_ | with_reducible refine p_for ?_ | with_reducible refine p_varE ?_ | with_reducible refine p_frzE ?_ | with_reducible refine p_movE ?_ | with_reducible refine p_c ?_ | with_reducible refine p_op ?_ | with_reducible refine p_un ?_ | with_reducible refine p_ar ?_ | with_reducible refine p_me ?_ | with_reducible refine p_ife ?_ | with_reducible refine p_nil ?_ | with_reducible refine p_cons ?_ | with_reducible refine p_call ?_ | with_reducible refine p_lc ?_ | with_reducible refine p_sl ?_ | with_reducible refine p_on ?_ | with_reducible refine p_os ?_ | with_reducible refine p_fis ?_ | with_reducible refine p_rng1 ?_ | with_reducible refine p_rng2 ?_ | with_reducible refine p_fia ?_ | with_reducible refine p_din ?_ | with_reducible refine p_newT ?_ | with_reducible refine p_newK ?_ | with_reducible refine p_test ?_ | with_reducible refine p_band ?_ | with_reducible refine p_bor ?_ | with_reducible refine p_bnot ?_ | with_reducible refine p_yes ?_ | with_reducible refine p_or ?_ | with_reducible refine p_and ?_ | with_reducible refine p_not ?_ | with_reducible refine bh_t ?_ | with_reducible refine bh_f ?_ | with_reducible refine bh_nt ?_ | with_reducible refine bh_nf ?_ | ((with_reducible refine bh_r ?_); refine Exists.intro _ (And.intro rfl ?_)) | ((with_reducible refine ex_id ?_); first | refine Exists.intro _ (And.intro rfl ?_) | refine Exists.intro _ (Exists.intro _ (And.intro rfl ?_))) | ((with_reducible refine and_id ?_); refine And.intro rfl ?_)))
        refine ⟨_, _, rfl, rfl, hlen, rfl, .inl rfl, some (.imm (.str l)), some (.imm (.int w)), some (.imm (.str (sgn p (l, w)))), ?_⟩
        rw [← fin (pieceL p (ws.take i) ++ [sgn p (l, w)]) (by unfold putL; rw [if_neg (fun q => z2 q.1)]), ← eA]
        rfl
  · rintro ρ S ⟨v3, v4, v5, rfl⟩
    (repeat (first | with_reducible refine p_seq ?_ | with_reducible refine nx_nx ?_ | with_reducible refine nx_rt ?_ | with_reducible refine p_if ?_ | with_reducible refine p_asg ?_ | with_reducible refine p_par ?_ | with_reducible refine p_parN ?_ | with_reducible refine p_ret ?_ | with_reducible refine p_retN ?_ | with_reducible refine p_next ?_ | with_reducible refine p_brk ?_ | with_reducible refine p_cnt ?_ | with_reducible refine p_drop ?_ | with_reducible refine p_appE ?_ | with_reducible refine p_lenE ?_ | with_reducible refine p_setI ?_ | with_reducible refine p_dput ?_ | with_reducible refine p_for ?_ | with_reducible refine p_varE ?_ | with_reducible refine p_frzE ?_ | with_reducible refine p_movE ?_ | with_reducible refine p_c ?_ | with_reducible refine p_op ?_ | with_reducible refine p_un ?_ | with_reducible refine p_ar ?_ | with_reducible refine p_me ?_ | with_reducible refine p_ife ?_ | with_reducible refine p_nil ?_ | with_reducible refine p_cons ?_ | with_reducible refine p_call ?_ | with_reducible refine p_lc ?_ | with_reducible refine p_sl ?_ | with_reducible refine p_on ?_ | with_reducible refine p_os ?_ | with_reducible refine p_fis ?_ | with_reducible refine p_rng1 ?_ | with_reducible refine p_rng2 ?_ | with_reducible refine p_fia ?_ | with_reducible refine p_din ?_ | with_reducible refine p_newT ?_ | with_reducible refine p_newK ?_ | with_reducible refine p_test ?_ | with_reducible refine p_band ?_ | with_reducible refine p_bor ?_ | with_reducible refine p_bnot ?_ | with_reducible refine p_yes ?_ | with_reducible refine p_or ?_ | with_reducible refine p_and ?_ | with_reducible refine p_not ?_ | with_reducible refine bh_t ?_ | with_reducible refine bh_f ?_ | with_reducible refine bh_nt ?_ | with_reducible refine bh_nf ?_ | ((with_reducible refine bh_r ?_); refine Exists.intro _ (And.intro rfl ?_)) | ((with_reducible refine ex_id ?_); first | refine Exists.intro _ (And.intro rfl ?_) | refine Exists.intro _ (Exists.intro _ (And.intro rfl ?_))) | ((with_reducible refine and_id ?_); refine And.intro rfl ?_)))
    rw [show (true, enc ws).2.length = ws.length from enc_len, List.take_length]
end Lw
set_option maxRecDepth 100000
set_option maxHeartbeats 400000
namespace Lw
open PySem PySem.Spec PyProof.Rows L2 DL
theorem encS_len {xs : List Str} : (encS xs).length = xs.length := by simp [encS]
theorem encS_get {xs : List Str} {i : Nat} {d : PyData} (h : (encS xs)[i]? = some d) : ∃ x, xs[i]? = some x ∧ d = .str x := by
  unfold encS at h
  rw [List.getElem?_map] at h
  cases e : xs[i]? with
  | none => rw [e] at h; cases h
  | some q => rw [e] at h; exact ⟨q, rfl, (Option.some.inj h).symm⟩
/-! ### turns told by a piece -/
theorem p_tl {i j l : Nat} {x y z : Str} {ρ : En} {S : Src} {Q : Bd → En → Src → Prop} (e1 : ρ[i]? = some (some (.imm (.str x)))) (e2 : ρ[j]? = some (some (.imm (.str y)))) (e3 : ρ[l]? = some (some (.imm (.str z)))) (h : Q (.imm (.str (if x = y then y else z))) ρ S) :
    (fIf (fTest (fOp (eqB false) (fVar i) (fVar j))) (fFrz j) (fFrz l) ρ S).Post Q := by
  refine p_ife (p_test (p_op (p_var e1 rfl (p_var e2 rfl ⟨_, rfl, _, rfl, bh_d (fun q => p_frz e2 rfl ?_) fun q => p_frz e3 rfl ?_⟩))))
  · rw [if_pos q] at h; exact h
  · rw [if_neg q] at h; exact h
def toldL (a b : Str) (xs : List Str) : List Str := dd (xs.map fun x => if x = a then a else b)
theorem put_dd {acc : List Str} {x : Str} (h : isLR x) : putL acc x = if acc.getLast? = some x then acc else acc ++ [x] := by
  unfold putL
  by_cases z : acc.getLast? = some x
  · rw [if_pos ⟨z, h⟩, if_pos z]
  · rw [if_neg fun q => z q.1, if_neg z]
theorem told_mem {a b : Str} (ha : isLR a) (hb : isLR b) {xs : List Str} {x : Str} (h : x ∈ toldL a b xs) : isLR x := by
  obtain ⟨q, _, rfl⟩ := List.mem_map.mp (dd_mem h)
  split <;> assumption
theorem lr_ok {x : Str} (h : isLR x) : PyData.strOk x = true := by
  rcases h with rfl | rfl <;> decide +kernel
theorem told_len {a b : Str} {xs : List Str} : (toldL a b xs).length ≤ xs.length := by
  have := dd_len (xs.map fun x => if x = a then a else b)
  rwa [List.length_map] at this
theorem told_ok {xs : List Str} {a b : Str} {S : Src} (hl : xs.length ≤ 1000) (ha : isLR a) (hb : isLR b) : ∃ r S', F_turns_told [.imm (.tuple (encS xs)), .imm (.str a), .imm (.str b)] S = some (r, S') ∧ r = .imm (.tuple (encS (toldL a b xs))) := by
  refine run_of rfl rfl ?_
  unfold g_turns_told
  (repeat (first | with_reducible refine p_seq ?_ | with_reducible refine nx_nx ?_ | with_reducible refine nx_rt ?_ | with_reducible refine p_if ?_ | with_reducible refine p_asg ?_ | with_reducible refine p_par ?_ | with_reducible refine p_parN ?_ | with_reducible refine p_ret ?_ | with_reducible refine p_retN ?_ | with_reducible refine p_next ?_ | with_reducible refine p_brk ?_ | with_reducible refine p_cnt ?_ | with_reducible refine p_drop ?_ | with_reducible refine p_appE ?_ | with_reducible refine p_lenE ?_ | with_reducible refine p_setI ?_ | with_reducible refine p_dput ?_ | with_reducible refine p_for ?_ | with_reducible refine p_varE ?_ | with_reducible refine p_frzE ?_ | with_reducible refine p_movE ?_ | with_reducible refine p_c ?_ | with_reducible refine p_op ?_ | with_reducible refine p_un ?_ | with_reducible refine p_ar ?_ | with_reducible refine p_me ?_ | with_reducible refine p_ife ?_ | with_reducible refine p_nil ?_ | with_reducible refine p_cons ?_ | with_reducible refine p_call ?_ | with_reducible refine p_lc ?_ | with_reducible refine p_sl ?_ | with_reducible refine p_on ?_ | with_reducible refine p_os ?_ | with_reducible refine p_fis ?_ | with_reducible refine p_rng1 ?_ | with_reducible refine p_rng2 ?_ | with_reducible refine p_fia ?_ | with_reducible refine p_din ?_ | with_reducible refine p_newT ?_ | with_reducible refine p_newK ?_ | with_reducible refine p_test ?_ | with_reducible refine p_band ?_ | with_reducible refine p_bor ?_ | with_reducible refine p_bnot ?_ | with_reducible refine p_yes ?_ | with_reducible refine p_or ?_ | with_reducible refine p_and ?_ | with_reducible refine p_not ?_ | with_reducible refine bh_t ?_ | with_reducible refine bh_f ?_ | with_reducible refine bh_nt ?_ | with_reducible refine bh_nf ?_ | ((with_reducible refine bh_r ?_); refine Exists.intro _ (And.intro rfl ?_)) | ((with_reducible refine ex_id ?_); first | refine Exists.intro _ (And.intro rfl ?_) | refine Exists.intro _ (Exists.intro _ (And.intro rfl ?_))) | ((with_reducible refine and_id ?_); refine And.intro rfl ?_)))
  refine p_forS (fun i ρ => ∃ v4, ρ = [some (.imm (.tuple (encS xs))), some (.imm (.str a)), some (.imm (.str b)), some (.lst (encS (toldL a b (xs.take i)))), v4]) ⟨_, rfl⟩ ?_ ?_
  · rintro i d ρ S hd ⟨v4, rfl⟩
    obtain ⟨x, hx, rfl⟩ := encS_get hd
    have lr : isLR (if x = a then a else b) := by split <;> assumption
    refine ⟨_, rfl, ?_⟩
    (repeat (first | ((with_reducible refine if_id ?_); refine p_tl rfl rfl rfl ?_) | with_reducible refine p_seq ?_ | with_reducible refine nx_nx ?_ | with_reducible refine nx_rt ?_ | with_reducible refine p_if ?_ | with_reducible refine p_asg ?_ | with_reducible refine p_par ?_ | with_reducible refine p_parN ?_ | with_reducible refine p_ret ?_ | with_reducible refine p_retN ?_ | with_reducible refine p_next ?_ | with_reducible refine p_brk ?_ | with_reducible refine p_cnt ?_ | with_reducible refine p_drop ?_ | with_reducible refine p_appE ?_ | with_reducible refine p_lenE ?_ | with_reducible refine p_setI ?_ | with_reducible refine p_dput ?_ | with_reducible refine p_for ?_ | with_reducible refine p_varE ?_ | with_reducible refine p_frzE ?_ | with_reducible refine p_movE ?_ | with_reducible refine p_c ?_ | with_reducible refine p_op ?_ | with_reducible refine p_un ?_ | with_reducible refine p_ar ?_ | with_reducible refine p_me ?_ | with_reducible refine p_ife ?_ | with_reducible refine p_nil ?_ | with_reducible refine p_cons ?_ | with_reducible refine p_call ?_ | with_reducible refine p_lc ?_ | with_reducible refine p_sl ?_ | with_reducible refine p_on ?_ | with_reducible refine p_os ?_ | with_reducible refine p_fis ?_ | with_reducible refine p_rng1 ?_ | with_reducible refine p_rng2 ?_ | with_reducible refine p_fia ?_ | with_reducible refine p_din ?_ | with_reducible refine p_newT ?_ | with_reducible refine p_newK ?_ | with_reducible refine p_test ?_ | with_reducible refine p_band ?_ | with_reducible refine p_bor ?_ | with_reducible refine p_bnot ?_ | with_reducible refine p_yes ?_ | with_reducible refine p_or ?_ | with_reducible refine p_and ?_ | with_reducible refine p_not ?_ | with_reducible refine bh_t ?_ | with_reducible refine bh_f ?_ | with_reducible refine bh_nt ?_ | with_reducible refine bh_nf ?_ | ((with_reducible refine bh_r ?_); refine Exists.intro _ (And.intro rfl ?_)) | ((with_reducible refine ex_id ?_); first | refine Exists.intro _ (And.intro rfl ?_) | refine Exists.intro _ (Exists.intro _ (And.intro rfl ?_))) | ((with_reducible refine and_id ?_); refine And.intro rfl ?_)))
    refine ⟨_, _, _, rfl, rfl, put_sign_ok (fun y hy => lr_ok (told_mem ha hb hy)) (lr_ok lr) (by have := told_len (a := a) (b := b) (xs := xs.take i); rw [List.length_take] at this; omega), rfl, ?_⟩
    refine ⟨.inl rfl, some (.imm (.str x)), ?_⟩
    rw [put_dd lr, take_get hx]
    unfold toldL
    rw [List.map_append, List.map_cons, List.map_nil, dd_snoc]
    rfl
  · rintro ρ S ⟨v4, rfl⟩
    (repeat (first | with_reducible refine p_seq ?_ | with_reducible refine nx_nx ?_ | with_reducible refine nx_rt ?_ | with_reducible refine p_if ?_ | with_reducible refine p_asg ?_ | with_reducible refine p_par ?_ | with_reducible refine p_parN ?_ | with_reducible refine p_ret ?_ | with_reducible refine p_retN ?_ | with_reducible refine p_next ?_ | with_reducible refine p_brk ?_ | with_reducible refine p_cnt ?_ | with_reducible refine p_drop ?_ | with_reducible refine p_appE ?_ | with_reducible refine p_lenE ?_ | with_reducible refine p_setI ?_ | with_reducible refine p_dput ?_ | with_reducible refine p_for ?_ | with_reducible refine p_varE ?_ | with_reducible refine p_frzE ?_ | with_reducible refine p_movE ?_ | with_reducible refine p_c ?_ | with_reducible refine p_op ?_ | with_reducible refine p_un ?_ | with_reducible refine p_ar ?_ | with_reducible refine p_me ?_ | with_reducible refine p_ife ?_ | with_reducible refine p_nil ?_ | with_reducible refine p_cons ?_ | with_reducible refine p_call ?_ | with_reducible refine p_lc ?_ | with_reducible refine p_sl ?_ | with_reducible refine p_on ?_ | with_reducible refine p_os ?_ | with_reducible refine p_fis ?_ | with_reducible refine p_rng1 ?_ | with_reducible refine p_rng2 ?_ | with_reducible refine p_fia ?_ | with_reducible refine p_din ?_ | with_reducible refine p_newT ?_ | with_reducible refine p_newK ?_ | with_reducible refine p_test ?_ | with_reducible refine p_band ?_ | with_reducible refine p_bor ?_ | with_reducible refine p_bnot ?_ | with_reducible refine p_yes ?_ | with_reducible refine p_or ?_ | with_reducible refine p_and ?_ | with_reducible refine p_not ?_ | with_reducible refine bh_t ?_ | with_reducible refine bh_f ?_ | with_reducible refine bh_nt ?_ | with_reducible refine bh_nf ?_ | ((with_reducible refine bh_r ?_); refine Exists.intro _ (And.intro rfl ?_)) | ((with_reducible refine ex_id ?_); first | refine Exists.intro _ (And.intro rfl ?_) | refine Exists.intro _ (Exists.intro _ (And.intro rfl ?_))) | ((with_reducible refine and_id ?_); refine And.intro rfl ?_)))
    rw [show (true, encS xs).2.length = xs.length from encS_len, List.take_length]
theorem told_none {a b : Str} {S : Src} : ∃ r S', F_turns_told [.imm .none, .imm (.str a), .imm (.str b)] S = some (r, S') ∧ r = .imm .none := by
  refine run_of rfl rfl ?_
  unfold g_turns_told
  (repeat (first | with_reducible refine p_seq ?_ | with_reducible refine nx_nx ?_ | with_reducible refine nx_rt ?_ | with_reducible refine p_if ?_ | with_reducible refine p_asg ?_ | with_reducible refine p_par ?_ | with_reducible refine p_parN ?_ | with_reducible refine p_ret ?_ | with_reducible refine p_retN ?_ | with_reducible refine p_next ?_ | with_reducible refine p_brk ?_ | with_reducible refine p_cnt ?_ | with_reducible refine p_drop ?_ | with_reducible refine p_appE ?_ | with_reducible refine p_lenE ?_ | with_reducible refine p_setI ?_ | with_reducible refine p_dput ?_ | with_reducible refine p_for ?_ | with_reducible refine p_varE ?_ | with_reducible refine p_frzE ?_ | with_reducible refine p_movE ?_ | with_reducible refine p_c ?_ | with_reducible refine p_op ?_ | with_reducible refine p_un ?_ | with_reducible refine p_ar ?_ | with_reducible refine p_me ?_ | with_reducible refine p_ife ?_ | with_reducible refine p_nil ?_ | with_reducible refine p_cons ?_ | with_reducible refine p_call ?_ | with_reducible refine p_lc ?_ | with_reducible refine p_sl ?_ | with_reducible refine p_on ?_ | with_reducible refine p_os ?_ | with_reducible refine p_fis ?_ | with_reducible refine p_rng1 ?_ | with_reducible refine p_rng2 ?_ | with_reducible refine p_fia ?_ | with_reducible refine p_din ?_ | with_reducible refine p_newT ?_ | with_reducible refine p_newK ?_ | with_reducible refine p_test ?_ | with_reducible refine p_band ?_ | with_reducible refine p_bor ?_ | with_reducible refine p_bnot ?_ | with_reducible refine p_yes ?_ | with_reducible refine p_or ?_ | with_reducible refine p_and ?_ | with_reducible refine p_not ?_ | with_reducible refine bh_t ?_ | with_reducible refine bh_f ?_ | with_reducible refine bh_nt ?_ | with_reducible refine bh_nf ?_ | ((with_reducible refine bh_r ?_); refine Exists.intro _ (And.intro rfl ?_)) | ((with_reducible refine ex_id ?_); first | refine Exists.intro _ (And.intro rfl ?_) | refine Exists.intro _ (Exists.intro _ (And.intro rfl ?_))) | ((with_reducible refine and_id ?_); refine And.intro rfl ?_)))
  exact rfl
theorem behind_ok {xs : List Str} {S : Src} (hl : xs.length ≤ 1000) : ∃ r S', F_turns_behind [.imm (.tuple (encS xs))] S = some (r, S') ∧ r = .imm (.tuple (encS (toldL "R" "L" xs))) := by
  refine run_of rfl rfl ?_
  unfold g_turns_behind
  (repeat (first | with_reducible refine p_seq ?_ | with_reducible refine nx_nx ?_ | with_reducible refine nx_rt ?_ | with_reducible refine p_if ?_ | with_reducible refine p_asg ?_ | with_reducible refine p_par ?_ | with_reducible refine p_parN ?_ | with_reducible refine p_ret ?_ | with_reducible refine p_retN ?_ | with_reducible refine p_next ?_ | with_reducible refine p_brk ?_ | with_reducible refine p_cnt ?_ | with_reducible refine p_drop ?_ | with_reducible refine p_appE ?_ | with_reducible refine p_lenE ?_ | with_reducible refine p_setI ?_ | with_reducible refine p_dput ?_ | with_reducible refine p_for ?_ | with_reducible refine p_varE ?_ | with_reducible refine p_frzE ?_ | with_reducible refine p_movE ?_ | with_reducible refine p_c ?_ | with_reducible refine p_op ?_ | with_reducible refine p_un ?_ | with_reducible refine p_ar ?_ | with_reducible refine p_me ?_ | with_reducible refine p_ife ?_ | with_reducible refine p_nil ?_ | with_reducible refine p_cons ?_ | with_reducible refine p_call ?_ | with_reducible refine p_lc ?_ | with_reducible refine p_sl ?_ | with_reducible refine p_on ?_ | with_reducible refine p_os ?_ | with_reducible refine p_fis ?_ | with_reducible refine p_rng1 ?_ | with_reducible refine p_rng2 ?_ | with_reducible refine p_fia ?_ | with_reducible refine p_din ?_ | with_reducible refine p_newT ?_ | with_reducible refine p_newK ?_ | with_reducible refine p_test ?_ | with_reducible refine p_band ?_ | with_reducible refine p_bor ?_ | with_reducible refine p_bnot ?_ | with_reducible refine p_yes ?_ | with_reducible refine p_or ?_ | with_reducible refine p_and ?_ | with_reducible refine p_not ?_ | with_reducible refine bh_t ?_ | with_reducible refine bh_f ?_ | with_reducible refine bh_nt ?_ | with_reducible refine bh_nf ?_ | ((with_reducible refine bh_r ?_); refine Exists.intro _ (And.intro rfl ?_)) | ((with_reducible refine ex_id ?_); first | refine Exists.intro _ (And.intro rfl ?_) | refine Exists.intro _ (Exists.intro _ (And.intro rfl ?_))) | ((with_reducible refine and_id ?_); refine And.intro rfl ?_)))
  obtain ⟨r, S', e, rfl⟩ := told_ok (xs := xs) (a := "R") (b := "L") (S := S) hl (.inr rfl) (.inl rfl)
  exact callP rfl e rfl rfl
theorem ahead_ok {xs : List Str} {S : Src} (hl : xs.length ≤ 1000) : ∃ r S', F_turns_ahead [.imm (.tuple (encS xs))] S = some (r, S') ∧ r = .imm (.tuple (encS (toldL "L" "R" xs))) := by
  refine run_of rfl rfl ?_
  unfold g_turns_ahead
  (repeat (first | with_reducible refine p_seq ?_ | with_reducible refine nx_nx ?_ | with_reducible refine nx_rt ?_ | with_reducible refine p_if ?_ | with_reducible refine p_asg ?_ | with_reducible refine p_par ?_ | with_reducible refine p_parN ?_ | with_reducible refine p_ret ?_ | with_reducible refine p_retN ?_ | with_reducible refine p_next ?_ | with_reducible refine p_brk ?_ | with_reducible refine p_cnt ?_ | with_reducible refine p_drop ?_ | with_reducible refine p_appE ?_ | with_reducible refine p_lenE ?_ | with_reducible refine p_setI ?_ | with_reducible refine p_dput ?_ | with_reducible refine p_for ?_ | with_reducible refine p_varE ?_ | with_reducible refine p_frzE ?_ | with_reducible refine p_movE ?_ | with_reducible refine p_c ?_ | with_reducible refine p_op ?_ | with_reducible refine p_un ?_ | with_reducible refine p_ar ?_ | with_reducible refine p_me ?_ | with_reducible refine p_ife ?_ | with_reducible refine p_nil ?_ | with_reducible refine p_cons ?_ | with_reducible refine p_call ?_ | with_reducible refine p_lc ?_ | with_reducible refine p_sl ?_ | with_reducible refine p_on ?_ | with_reducible refine p_os ?_ | with_reducible refine p_fis ?_ | with_reducible refine p_rng1 ?_ | with_reducible refine p_rng2 ?_ | with_reducible refine p_fia ?_ | with_reducible refine p_din ?_ | with_reducible refine p_newT ?_ | with_reducible refine p_newK ?_ | with_reducible refine p_test ?_ | with_reducible refine p_band ?_ | with_reducible refine p_bor ?_ | with_reducible refine p_bnot ?_ | with_reducible refine p_yes ?_ | with_reducible refine p_or ?_ | with_reducible refine p_and ?_ | with_reducible refine p_not ?_ | with_reducible refine bh_t ?_ | with_reducible refine bh_f ?_ | with_reducible refine bh_nt ?_ | with_reducible refine bh_nf ?_ | ((with_reducible refine bh_r ?_); refine Exists.intro _ (And.intro rfl ?_)) | ((with_reducible refine ex_id ?_); first | refine Exists.intro _ (And.intro rfl ?_) | refine Exists.intro _ (Exists.intro _ (And.intro rfl ?_))) | ((with_reducible refine and_id ?_); refine And.intro rfl ?_)))
  obtain ⟨r, S', e, rfl⟩ := told_ok (xs := xs) (a := "L") (b := "R") (S := S) hl (.inl rfl) (.inr rfl)
  exact callP rfl e rfl rfl
theorem behind_none {S : Src} : ∃ r S', F_turns_behind [.imm .none] S = some (r, S') ∧ r = .imm .none := by
  refine run_of rfl rfl ?_
  unfold g_turns_behind
  (repeat (first | with_reducible refine p_seq ?_ | with_reducible refine nx_nx ?_ | with_reducible refine nx_rt ?_ | with_reducible refine p_if ?_ | with_reducible refine p_asg ?_ | with_reducible refine p_par ?_ | with_reducible refine p_parN ?_ | with_reducible refine p_ret ?_ | with_reducible refine p_retN ?_ | with_reducible refine p_next ?_ | with_reducible refine p_brk ?_ | with_reducible refine p_cnt ?_ | with_reducible refine p_drop ?_ | with_reducible refine p_appE ?_ | with_reducible refine p_lenE ?_ | with_reducible refine p_setI ?_ | with_reducible refine p_dput ?_ | with_reducible refine p_for ?_ | with_reducible refine p_varE ?_ | with_reducible refine p_frzE ?_ | with_reducible refine p_movE ?_ | with_reducible refine p_c ?_ | with_reducible refine p_op ?_ | with_reducible refine p_un ?_ | with_reducible refine p_ar ?_ | with_reducible refine p_me ?_ | with_reducible refine p_ife ?_ | with_reducible refine p_nil ?_ | with_reducible refine p_cons ?_ | with_reducible refine p_call ?_ | with_reducible refine p_lc ?_ | with_reducible refine p_sl ?_ | with_reducible refine p_on ?_ | with_reducible refine p_os ?_ | with_reducible refine p_fis ?_ | with_reducible refine p_rng1 ?_ | with_reducible refine p_rng2 ?_ | with_reducible refine p_fia ?_ | with_reducible refine p_din ?_ | with_reducible refine p_newT ?_ | with_reducible refine p_newK ?_ | with_reducible refine p_test ?_ | with_reducible refine p_band ?_ | with_reducible refine p_bor ?_ | with_reducible refine p_bnot ?_ | with_reducible refine p_yes ?_ | with_reducible refine p_or ?_ | with_reducible refine p_and ?_ | with_reducible refine p_not ?_ | with_reducible refine bh_t ?_ | with_reducible refine bh_f ?_ | with_reducible refine bh_nt ?_ | with_reducible refine bh_nf ?_ | ((with_reducible refine bh_r ?_); refine Exists.intro _ (And.intro rfl ?_)) | ((with_reducible refine ex_id ?_); first | refine Exists.intro _ (And.intro rfl ?_) | refine Exists.intro _ (Exists.intro _ (And.intro rfl ?_))) | ((with_reducible refine and_id ?_); refine And.intro rfl ?_)))
  obtain ⟨r, S', e, rfl⟩ := told_none (a := "R") (b := "L") (S := S)
  exact callP rfl e rfl rfl
theorem ahead_none {S : Src} : ∃ r S', F_turns_ahead [.imm .none] S = some (r, S') ∧ r = .imm .none := by
  refine run_of rfl rfl ?_
  unfold g_turns_ahead
  (repeat (first | with_reducible refine p_seq ?_ | with_reducible refine nx_nx ?_ | with_reducible refine nx_rt ?_ | with_reducible refine p_if ?_ | with_reducible refine p_asg ?_ | with_reducible refine p_par ?_ | with_reducible refine p_parN ?_ | with_reducible refine p_ret ?_ | with_reducible refine p_retN ?_ | with_reducible refine p_next ?_ | with_reducible refine p_brk ?_ | with_reducible refine p_cnt ?_ | with_reducible refine p_drop ?_ | with_reducible refine p_appE ?_ | with_reducible refine p_lenE ?_ | with_reducible refine p_setI ?_ | with_reducible refine p_dput ?_ | with_reducible refine p_for ?_ | with_reducible refine p_varE ?_ | with_reducible refine p_frzE ?_ | with_reducible refine p_movE ?_ | with_reducible refine p_c ?_ | with_reducible refine p_op ?_ | with_reducible refine p_un ?_ | with_reducible refine p_ar ?_ | with_reducible refine p_me ?_ | with_reducible refine p_ife ?_ | with_reducible refine p_nil ?_ | with_reducible refine p_cons ?_ | with_reducible refine p_call ?_ | with_reducible refine p_lc ?_ | with_reducible refine p_sl ?_ | with_reducible refine p_on ?_ | with_reducible refine p_os ?_ | with_reducible refine p_fis ?_ | with_reducible refine p_rng1 ?_ | with_reducible refine p_rng2 ?_ | with_reducible refine p_fia ?_ | with_reducible refine p_din ?_ | with_reducible refine p_newT ?_ | with_reducible refine p_newK ?_ | with_reducible refine p_test ?_ | with_reducible refine p_band ?_ | with_reducible refine p_bor ?_ | with_reducible refine p_bnot ?_ | with_reducible refine p_yes ?_ | with_reducible refine p_or ?_ | with_reducible refine p_and ?_ | with_reducible refine p_not ?_ | with_reducible refine bh_t ?_ | with_reducible refine bh_f ?_ | with_reducible refine bh_nt ?_ | with_reducible refine bh_nf ?_ | ((with_reducible refine bh_r ?_); refine Exists.intro _ (And.intro rfl ?_)) | ((with_reducible refine ex_id ?_); first | refine Exists.intro _ (And.intro rfl ?_) | refine Exists.intro _ (Exists.intro _ (And.intro rfl ?_))) | ((with_reducible refine and_id ?_); refine And.intro rfl ?_)))
  obtain ⟨r, S', e, rfl⟩ := told_none (a := "L") (b := "R") (S := S)
  exact callP rfl e rfl rfl
/-! ### parts -/
theorem in_LR {x : Str} : inB false (.imm (.str x)) (.imm (.tuple [.str "L", .str "R"])) = some (.imm (.bool (decide (isLR x)))) := by
  have : (("L" : Str) == x || ("R" : Str) == x) = decide (isLR x) := by
    rw [Bool.eq_iff_iff, decide_eq_true_iff, Bool.or_eq_true, beq_iff_eq, beq_iff_eq]
    exact ⟨fun z => z.imp Eq.symm Eq.symm, fun z => z.imp Eq.symm Eq.symm⟩
  rw [← this]
  simp [inB, toD, itemsD, flatD, PyData.eqv]
theorem p_pt {i j : Nat} {x z : Str} {ρ : En} {S : Src} {Q : Bd → En → Src → Prop} (e1 : ρ[i]? = some (some (.imm (.str x)))) (e3 : ρ[j]? = some (some (.imm (.str z)))) (h : Q (.imm (.str (if isLR x then x else z))) ρ S) :
    (fIf (fTest (fOp (inB false) (fVar i) (fAr tupB (aCons (fC (.str "L")) (aCons (fC (.str "R")) aNil))))) (fFrz i) (fFrz j) ρ S).Post Q := by
  refine p_ife (p_test (p_op (p_var e1 rfl (p_ar (p_cons (p_c (p_cons (p_c (p_nil ⟨_, rfl, _, in_LR, _, rfl, bh_d (fun q => p_frz e1 rfl ?_) fun q => p_frz e3 rfl ?_⟩)))))))))
  · rw [if_pos q] at h; exact h
  · rw [if_neg q] at h; exact h
def partsL (own : Str) (xs : List Str) : List Str := dd (xs.map fun x => if isLR x then x else own)
theorem parts_ok {xs : List Str} {a : Str} {S : Src} (hl : xs.length ≤ 1000) (ha : isLR a) : ∃ r S', F__law_parts [.imm (.tuple (encS xs)), .imm (.str a)] S = some (r, S') ∧ r = .imm (.tuple (encS (partsL a xs))) := by
  refine run_of rfl rfl ?_
  unfold g__law_parts
  (repeat (first | with_reducible refine p_seq ?_ | with_reducible refine nx_nx ?_ | with_reducible refine nx_rt ?_ | with_reducible refine p_if ?_ | with_reducible refine p_asg ?_ | with_reducible refine p_par ?_ | with_reducible refine p_parN ?_ | with_reducible refine p_ret ?_ | with_reducible refine p_retN ?_ | with_reducible refine p_next ?_ | with_reducible refine p_brk ?_ | with_reducible refine p_cnt ?_ | with_reducible refine p_drop ?_ | with_reducible refine p_appE ?_ | with_reducible refine p_lenE ?_ | with_reducible refine p_setI ?_ | with_reducible refine p_dput ?_ | with_reducible refine p_for ?_ | with_reducible refine p_varE ?_ | with_reducible refine p_frzE ?_ | with_reducible refine p_movE ?_ | with_reducible refine p_c ?_ | with_reducible refine p_op ?_ | with_reducible refine p_un ?_ | with_reducible refine p_ar ?_ | with_reducible refine p_me ?_ | with_reducible refine p_ife ?_ | with_reducible refine p_nil ?_ | with_reducible refine p_cons ?_ | with_reducible refine p_call ?_ | with_reducible refine p_lc ?_ | with_reducible refine p_sl ?_ | with_reducible refine p_on ?_ | with_reducible refine p_os ?_ | with_reducible refine p_fis ?_ | with_reducible refine p_rng1 ?_ | with_reducible refine p_rng2 ?_ | with_reducible refine p_fia ?_ | with_reducible refine p_din ?_ | with_reducible refine p_newT ?_ | with_reducible refine p_newK ?_ | with_reducible refine p_test ?_ | with_reducible refine p_band ?_ | with_reducible refine p_bor ?_ | with_reducible refine p_bnot ?_ | with_reducible refine p_yes ?_ | with_reducible refine p_or ?_ | with_reducible refine p_and ?_ | with_reducible refine p_not ?_ | with_reducible refine bh_t ?_ | with_reducible refine bh_f ?_ | with_reducible refine bh_nt ?_ | with_reducible refine bh_nf ?_ | ((with_reducible refine bh_r ?_); refine Exists.intro _ (And.intro rfl ?_)) | ((with_reducible refine ex_id ?_); first | refine Exists.intro _ (And.intro rfl ?_) | refine Exists.intro _ (Exists.intro _ (And.intro rfl ?_))) | ((with_reducible refine and_id ?_); refine And.intro rfl ?_)))
  refine p_forS (fun i ρ => ∃ v3 v4, ρ = [some (.imm (.tuple (encS xs))), some (.imm (.str a)), some (.lst (encS (partsL a (xs.take i)))), v3, v4]) ⟨_, _, rfl⟩ ?_ ?_
  · rintro i d ρ S hd ⟨v3, v4, rfl⟩
    obtain ⟨x, hx, rfl⟩ := encS_get hd
    have lr : ∀ y : Str, isLR (if isLR y then y else a) := fun y => by split <;> assumption
    have hm : ∀ y ∈ partsL a (xs.take i), PyData.strOk y = true := fun y hy => by
      obtain ⟨q, _, rfl⟩ := List.mem_map.mp (dd_mem hy)
      exact lr_ok (lr q)
    have h3 : (∀ y ∈ partsL a (xs.take i), PyData.strOk y = true) ∧ PyData.strOk (if isLR x then x else a) = true ∧ (partsL a (xs.take i)).length ≤ 10000 := ⟨hm, lr_ok (lr x), by
      have := dd_len ((xs.take i).map fun x => if isLR x then x else a)
      rw [List.length_map, List.length_take] at this
      show (dd _).length ≤ _
      omega⟩
    refine ⟨_, rfl, ?_⟩
    (repeat (first | ((with_reducible refine if_id ?_); refine p_pt rfl rfl ?_) | ((with_reducible refine op_id ?_); refine p_more rfl rfl h3 ?_) | with_reducible refine p_seq ?_ | with_reducible refine nx_nx ?_ | with_reducible refine nx_rt ?_ | with_reducible refine p_if ?_ | with_reducible refine p_asg ?_ | with_reducible refine p_par ?_ | with_reducible refine p_parN ?_ | with_reducible refine p_ret ?_ | with_reducible refine p_retN ?_ | with_reducible refine p_next ?_ | with_reducible refine p_brk ?_ | with_reducible refine p_cnt ?_ | with_reducible refine p_drop ?_ | with_reducible refine p_appE ?_ | with_reducible refine p_lenE ?_ | with_reducible refine p_setI ?_ | with_reducible refine p_dput ?_ | with_reducible refine p_for ?_ | with_reducible refine p_varE ?_ | with_reducible refine p_frzE ?_ | with_reducible refine p_movE ?_ | with_reducible refine p_c ?_ | with_reducible refine p_op ?_ | with_reducible refine p_un ?_ | with_reducible refine p_ar ?_ | with_reducible refine p_me ?_ | with_reducible refine p_ife ?_ | with_reducible refine p_nil ?_ | with_reducible refine p_cons ?_ | with_reducible refine p_call ?_ | with_reducible refine p_lc ?_ | with_reducible refine p_sl ?_ | with_reducible refine p_on ?_ | with_reducible refine p_os ?_ | with_reducible refine p_fis ?_ | with_reducible refine p_rng1 ?_ | with_reducible refine p_rng2 ?_ | with_reducible refine p_fia ?_ | with_reducible refine p_din ?_ | with_reducible refine p_newT ?_ | with_reducible refine p_newK ?_ | with_reducible refine p_test ?_ | with_reducible refine p_band ?_ | with_reducible refine p_bor ?_ | with_reducible refine p_bnot ?_ | with_reducible refine p_yes ?_ | with_reducible refine p_or ?_ | with_reducible refine p_and ?_ | with_reducible refine p_not ?_ | with_reducible refine bh_t ?_ | with_reducible refine bh_f ?_ | with_reducible refine bh_nt ?_ | with_reducible refine bh_nf ?_ | ((with_reducible refine bh_r ?_); refine Exists.intro _ (And.intro rfl ?_)) | ((with_reducible refine ex_id ?_); first | refine Exists.intro _ (And.intro rfl ?_) | refine Exists.intro _ (Exists.intro _ (And.intro rfl ?_))) | ((with_reducible refine and_id ?_); refine And.intro rfl ?_)))
    refine ⟨.inl rfl, some (.imm (.str x)), some (.imm (.str (if isLR x then x else a))), ?_⟩
    rw [take_get hx]
    unfold partsL
    rw [List.map_append, List.map_cons, List.map_nil, dd_snoc]
    rfl
  · rintro ρ S ⟨v3, v4, rfl⟩
    (repeat (first | with_reducible refine p_seq ?_ | with_reducible refine nx_nx ?_ | with_reducible refine nx_rt ?_ | with_reducible refine p_if ?_ | with_reducible refine p_asg ?_ | with_reducible refine p_par ?_ | with_reducible refine p_parN ?_ | with_reducible refine p_ret ?_ | with_reducible refine p_retN ?_ | with_reducible refine p_next ?_ | with_reducible refine p_brk ?_ | with_reducible refine p_cnt ?_ | with_reducible refine p_drop ?_ | with_reducible refine p_appE ?_ | with_reducible refine p_lenE ?_ | with_reducible refine p_setI ?_ | with_reducible refine p_dput ?_ | with_reducible refine p_for ?_ | with_reducible refine p_varE ?_ | with_reducible refine p_frzE ?_ | with_reducible refine p_movE ?_ | with_reducible refine p_c ?_ | with_reducible refine p_op ?_ | with_reducible refine p_un ?_ | with_reducible refine p_ar ?_ | with_reducible refine p_me ?_ | with_reducible refine p_ife ?_ | with_reducible refine p_nil ?_ | with_reducible refine p_cons ?_ | with_reducible refine p_call ?_ | with_reducible refine p_lc ?_ | with_reducible refine p_sl ?_ | with_reducible refine p_on ?_ | with_reducible refine p_os ?_ | with_reducible refine p_fis ?_ | with_reducible refine p_rng1 ?_ | with_reducible refine p_rng2 ?_ | with_reducible refine p_fia ?_ | with_reducible refine p_din ?_ | with_reducible refine p_newT ?_ | with_reducible refine p_newK ?_ | with_reducible refine p_test ?_ | with_reducible refine p_band ?_ | with_reducible refine p_bor ?_ | with_reducible refine p_bnot ?_ | with_reducible refine p_yes ?_ | with_reducible refine p_or ?_ | with_reducible refine p_and ?_ | with_reducible refine p_not ?_ | with_reducible refine bh_t ?_ | with_reducible refine bh_f ?_ | with_reducible refine bh_nt ?_ | with_reducible refine bh_nf ?_ | ((with_reducible refine bh_r ?_); refine Exists.intro _ (And.intro rfl ?_)) | ((with_reducible refine ex_id ?_); first | refine Exists.intro _ (And.intro rfl ?_) | refine Exists.intro _ (Exists.intro _ (And.intro rfl ?_))) | ((with_reducible refine and_id ?_); refine And.intro rfl ?_)))
    rw [show (true, encS xs).2.length = xs.length from encS_len, List.take_length]
theorem parts_none {a : Str} {S : Src} : ∃ r S', F__law_parts [.imm .none, .imm (.str a)] S = some (r, S') ∧ r = .imm .none := by
  refine run_of rfl rfl ?_
  unfold g__law_parts
  (repeat (first | with_reducible refine p_seq ?_ | with_reducible refine nx_nx ?_ | with_reducible refine nx_rt ?_ | with_reducible refine p_if ?_ | with_reducible refine p_asg ?_ | with_reducible refine p_par ?_ | with_reducible refine p_parN ?_ | with_reducible refine p_ret ?_ | with_reducible refine p_retN ?_ | with_reducible refine p_next ?_ | with_reducible refine p_brk ?_ | with_reducible refine p_cnt ?_ | with_reducible refine p_drop ?_ | with_reducible refine p_appE ?_ | with_reducible refine p_lenE ?_ | with_reducible refine p_setI ?_ | with_reducible refine p_dput ?_ | with_reducible refine p_for ?_ | with_reducible refine p_varE ?_ | with_reducible refine p_frzE ?_ | with_reducible refine p_movE ?_ | with_reducible refine p_c ?_ | with_reducible refine p_op ?_ | with_reducible refine p_un ?_ | with_reducible refine p_ar ?_ | with_reducible refine p_me ?_ | with_reducible refine p_ife ?_ | with_reducible refine p_nil ?_ | with_reducible refine p_cons ?_ | with_reducible refine p_call ?_ | with_reducible refine p_lc ?_ | with_reducible refine p_sl ?_ | with_reducible refine p_on ?_ | with_reducible refine p_os ?_ | with_reducible refine p_fis ?_ | with_reducible refine p_rng1 ?_ | with_reducible refine p_rng2 ?_ | with_reducible refine p_fia ?_ | with_reducible refine p_din ?_ | with_reducible refine p_newT ?_ | with_reducible refine p_newK ?_ | with_reducible refine p_test ?_ | with_reducible refine p_band ?_ | with_reducible refine p_bor ?_ | with_reducible refine p_bnot ?_ | with_reducible refine p_yes ?_ | with_reducible refine p_or ?_ | with_reducible refine p_and ?_ | with_reducible refine p_not ?_ | with_reducible refine bh_t ?_ | with_reducible refine bh_f ?_ | with_reducible refine bh_nt ?_ | with_reducible refine bh_nf ?_ | ((with_reducible refine bh_r ?_); refine Exists.intro _ (And.intro rfl ?_)) | ((with_reducible refine ex_id ?_); first | refine Exists.intro _ (And.intro rfl ?_) | refine Exists.intro _ (Exists.intro _ (And.intro rfl ?_))) | ((with_reducible refine and_id ?_); refine And.intro rfl ?_)))
  exact rfl
theorem law_piece_none {p : Int} {S : Src} : ∃ r S', F__law_piece [.imm .none, .imm (.int p)] S = some (r, S') ∧ r = .imm .none := by
  refine run_of rfl rfl ?_
  unfold g__law_piece
  (repeat (first | with_reducible refine p_seq ?_ | with_reducible refine nx_nx ?_ | with_reducible refine nx_rt ?_ | with_reducible refine p_if ?_ | with_reducible refine p_asg ?_ | with_reducible refine p_par ?_ | with_reducible refine p_parN ?_ | with_reducible refine p_ret ?_ | with_reducible refine p_retN ?_ | with_reducible refine p_next ?_ | with_reducible refine p_brk ?_ | with_reducible refine p_cnt ?_ | with_reducible refine p_drop ?_ | with_reducible refine p_appE ?_ | with_reducible refine p_lenE ?_ | with_reducible refine p_setI ?_ | with_reducible refine p_dput ?_ | with_reducible refine p_for ?_ | with_reducible refine p_varE ?_ | with_reducible refine p_frzE ?_ | with_reducible refine p_movE ?_ | with_reducible refine p_c ?_ | with_reducible refine p_op ?_ | with_reducible refine p_un ?_ | with_reducible refine p_ar ?_ | with_reducible refine p_me ?_ | with_reducible refine p_ife ?_ | with_reducible refine p_nil ?_ | with_reducible refine p_cons ?_ | with_reducible refine p_call ?_ | with_reducible refine p_lc ?_ | with_reducible refine p_sl ?_ | with_reducible refine p_on ?_ | with_reducible refine p_os ?_ | with_reducible refine p_fis ?_ | with_reducible refine p_rng1 ?_ | with_reducible refine p_rng2 ?_ | with_reducible refine p_fia ?_ | with_reducible refine p_din ?_ | with_reducible refine p_newT ?_ | with_reducible refine p_newK ?_ | with_reducible refine p_test ?_ | with_reducible refine p_band ?_ | with_reducible refine p_bor ?_ | with_reducible refine p_bnot ?_ | with_reducible refine p_yes ?_ | with_reducible refine p_or ?_ | with_reducible refine p_and ?_ | with_reducible refine p_not ?_ | with_reducible refine bh_t ?_ | with_reducible refine bh_f ?_ | with_reducible refine bh_nt ?_ | with_reducible refine bh_nf ?_ | ((with_reducible refine bh_r ?_); refine Exists.intro _ (And.intro rfl ?_)) | ((with_reducible refine ex_id ?_); first | refine Exists.intro _ (And.intro rfl ?_) | refine Exists.intro _ (Exists.intro _ (And.intro rfl ?_))) | ((with_reducible refine and_id ?_); refine And.intro rfl ?_)))
  exact rfl
theorem piece_none {p : Int} {S : Src} : ∃ r S', F_piece_of [.imm .none, .imm (.int p)] S = some (r, S') ∧ r = .imm .none := by
  refine run_of rfl rfl ?_
  unfold g_piece_of
  (repeat (first | with_reducible refine p_seq ?_ | with_reducible refine nx_nx ?_ | with_reducible refine nx_rt ?_ | with_reducible refine p_if ?_ | with_reducible refine p_asg ?_ | with_reducible refine p_par ?_ | with_reducible refine p_parN ?_ | with_reducible refine p_ret ?_ | with_reducible refine p_retN ?_ | with_reducible refine p_next ?_ | with_reducible refine p_brk ?_ | with_reducible refine p_cnt ?_ | with_reducible refine p_drop ?_ | with_reducible refine p_appE ?_ | with_reducible refine p_lenE ?_ | with_reducible refine p_setI ?_ | with_reducible refine p_dput ?_ | with_reducible refine p_for ?_ | with_reducible refine p_varE ?_ | with_reducible refine p_frzE ?_ | with_reducible refine p_movE ?_ | with_reducible refine p_c ?_ | with_reducible refine p_op ?_ | with_reducible refine p_un ?_ | with_reducible refine p_ar ?_ | with_reducible refine p_me ?_ | with_reducible refine p_ife ?_ | with_reducible refine p_nil ?_ | with_reducible refine p_cons ?_ | with_reducible refine p_call ?_ | with_reducible refine p_lc ?_ | with_reducible refine p_sl ?_ | with_reducible refine p_on ?_ | with_reducible refine p_os ?_ | with_reducible refine p_fis ?_ | with_reducible refine p_rng1 ?_ | with_reducible refine p_rng2 ?_ | with_reducible refine p_fia ?_ | with_reducible refine p_din ?_ | with_reducible refine p_newT ?_ | with_reducible refine p_newK ?_ | with_reducible refine p_test ?_ | with_reducible refine p_band ?_ | with_reducible refine p_bor ?_ | with_reducible refine p_bnot ?_ | with_reducible refine p_yes ?_ | with_reducible refine p_or ?_ | with_reducible refine p_and ?_ | with_reducible refine p_not ?_ | with_reducible refine bh_t ?_ | with_reducible refine bh_f ?_ | with_reducible refine bh_nt ?_ | with_reducible refine bh_nf ?_ | ((with_reducible refine bh_r ?_); refine Exists.intro _ (And.intro rfl ?_)) | ((with_reducible refine ex_id ?_); first | refine Exists.intro _ (And.intro rfl ?_) | refine Exists.intro _ (Exists.intro _ (And.intro rfl ?_))) | ((with_reducible refine and_id ?_); refine And.intro rfl ?_)))
  exact rfl
theorem law_turns_none {p : Int} {S : Src} : ∃ r S', F__law_turns [.imm .none, .imm (.int p)] S = some (r, S') ∧ r = .imm .none := by
  refine run_of rfl rfl ?_
  unfold g__law_turns
  (repeat (first | with_reducible refine p_seq ?_ | with_reducible refine nx_nx ?_ | with_reducible refine nx_rt ?_ | with_reducible refine p_if ?_ | with_reducible refine p_asg ?_ | with_reducible refine p_par ?_ | with_reducible refine p_parN ?_ | with_reducible refine p_ret ?_ | with_reducible refine p_retN ?_ | with_reducible refine p_next ?_ | with_reducible refine p_brk ?_ | with_reducible refine p_cnt ?_ | with_reducible refine p_drop ?_ | with_reducible refine p_appE ?_ | with_reducible refine p_lenE ?_ | with_reducible refine p_setI ?_ | with_reducible refine p_dput ?_ | with_reducible refine p_for ?_ | with_reducible refine p_varE ?_ | with_reducible refine p_frzE ?_ | with_reducible refine p_movE ?_ | with_reducible refine p_c ?_ | with_reducible refine p_op ?_ | with_reducible refine p_un ?_ | with_reducible refine p_ar ?_ | with_reducible refine p_me ?_ | with_reducible refine p_ife ?_ | with_reducible refine p_nil ?_ | with_reducible refine p_cons ?_ | with_reducible refine p_call ?_ | with_reducible refine p_lc ?_ | with_reducible refine p_sl ?_ | with_reducible refine p_on ?_ | with_reducible refine p_os ?_ | with_reducible refine p_fis ?_ | with_reducible refine p_rng1 ?_ | with_reducible refine p_rng2 ?_ | with_reducible refine p_fia ?_ | with_reducible refine p_din ?_ | with_reducible refine p_newT ?_ | with_reducible refine p_newK ?_ | with_reducible refine p_test ?_ | with_reducible refine p_band ?_ | with_reducible refine p_bor ?_ | with_reducible refine p_bnot ?_ | with_reducible refine p_yes ?_ | with_reducible refine p_or ?_ | with_reducible refine p_and ?_ | with_reducible refine p_not ?_ | with_reducible refine bh_t ?_ | with_reducible refine bh_f ?_ | with_reducible refine bh_nt ?_ | with_reducible refine bh_nf ?_ | ((with_reducible refine bh_r ?_); refine Exists.intro _ (And.intro rfl ?_)) | ((with_reducible refine ex_id ?_); first | refine Exists.intro _ (And.intro rfl ?_) | refine Exists.intro _ (Exists.intro _ (And.intro rfl ?_))) | ((with_reducible refine and_id ?_); refine And.intro rfl ?_)))
  exact rfl
theorem law_blocks_none {p : Int} {S : Src} : ∃ r S', F__law_blocks [.imm .none, .imm (.int p)] S = some (r, S') ∧ r = .imm .none := by
  refine run_of rfl rfl ?_
  unfold g__law_blocks
  (repeat (first | with_reducible refine p_seq ?_ | with_reducible refine nx_nx ?_ | with_reducible refine nx_rt ?_ | with_reducible refine p_if ?_ | with_reducible refine p_asg ?_ | with_reducible refine p_par ?_ | with_reducible refine p_parN ?_ | with_reducible refine p_ret ?_ | with_reducible refine p_retN ?_ | with_reducible refine p_next ?_ | with_reducible refine p_brk ?_ | with_reducible refine p_cnt ?_ | with_reducible refine p_drop ?_ | with_reducible refine p_appE ?_ | with_reducible refine p_lenE ?_ | with_reducible refine p_setI ?_ | with_reducible refine p_dput ?_ | with_reducible refine p_for ?_ | with_reducible refine p_varE ?_ | with_reducible refine p_frzE ?_ | with_reducible refine p_movE ?_ | with_reducible refine p_c ?_ | with_reducible refine p_op ?_ | with_reducible refine p_un ?_ | with_reducible refine p_ar ?_ | with_reducible refine p_me ?_ | with_reducible refine p_ife ?_ | with_reducible refine p_nil ?_ | with_reducible refine p_cons ?_ | with_reducible refine p_call ?_ | with_reducible refine p_lc ?_ | with_reducible refine p_sl ?_ | with_reducible refine p_on ?_ | with_reducible refine p_os ?_ | with_reducible refine p_fis ?_ | with_reducible refine p_rng1 ?_ | with_reducible refine p_rng2 ?_ | with_reducible refine p_fia ?_ | with_reducible refine p_din ?_ | with_reducible refine p_newT ?_ | with_reducible refine p_newK ?_ | with_reducible refine p_test ?_ | with_reducible refine p_band ?_ | with_reducible refine p_bor ?_ | with_reducible refine p_bnot ?_ | with_reducible refine p_yes ?_ | with_reducible refine p_or ?_ | with_reducible refine p_and ?_ | with_reducible refine p_not ?_ | with_reducible refine bh_t ?_ | with_reducible refine bh_f ?_ | with_reducible refine bh_nt ?_ | with_reducible refine bh_nf ?_ | ((with_reducible refine bh_r ?_); refine Exists.intro _ (And.intro rfl ?_)) | ((with_reducible refine ex_id ?_); first | refine Exists.intro _ (And.intro rfl ?_) | refine Exists.intro _ (Exists.intro _ (And.intro rfl ?_))) | ((with_reducible refine and_id ?_); refine And.intro rfl ?_)))
  exact rfl
theorem turns_none {p : Int} {S : Src} : ∃ r S', F_turns_of [.imm .none, .imm (.int p)] S = some (r, S') ∧ r = .imm .none := by
  refine run_of rfl rfl ?_
  unfold g_turns_of
  (repeat (first | with_reducible refine p_seq ?_ | with_reducible refine nx_nx ?_ | with_reducible refine nx_rt ?_ | with_reducible refine p_if ?_ | with_reducible refine p_asg ?_ | with_reducible refine p_par ?_ | with_reducible refine p_parN ?_ | with_reducible refine p_ret ?_ | with_reducible refine p_retN ?_ | with_reducible refine p_next ?_ | with_reducible refine p_brk ?_ | with_reducible refine p_cnt ?_ | with_reducible refine p_drop ?_ | with_reducible refine p_appE ?_ | with_reducible refine p_lenE ?_ | with_reducible refine p_setI ?_ | with_reducible refine p_dput ?_ | with_reducible refine p_for ?_ | with_reducible refine p_varE ?_ | with_reducible refine p_frzE ?_ | with_reducible refine p_movE ?_ | with_reducible refine p_c ?_ | with_reducible refine p_op ?_ | with_reducible refine p_un ?_ | with_reducible refine p_ar ?_ | with_reducible refine p_me ?_ | with_reducible refine p_ife ?_ | with_reducible refine p_nil ?_ | with_reducible refine p_cons ?_ | with_reducible refine p_call ?_ | with_reducible refine p_lc ?_ | with_reducible refine p_sl ?_ | with_reducible refine p_on ?_ | with_reducible refine p_os ?_ | with_reducible refine p_fis ?_ | with_reducible refine p_rng1 ?_ | with_reducible refine p_rng2 ?_ | with_reducible refine p_fia ?_ | with_reducible refine p_din ?_ | with_reducible refine p_newT ?_ | with_reducible refine p_newK ?_ | with_reducible refine p_test ?_ | with_reducible refine p_band ?_ | with_reducible refine p_bor ?_ | with_reducible refine p_bnot ?_ | with_reducible refine p_yes ?_ | with_reducible refine p_or ?_ | with_reducible refine p_and ?_ | with_reducible refine p_not ?_ | with_reducible refine bh_t ?_ | with_reducible refine bh_f ?_ | with_reducible refine bh_nt ?_ | with_reducible refine bh_nf ?_ | ((with_reducible refine bh_r ?_); refine Exists.intro _ (And.intro rfl ?_)) | ((with_reducible refine ex_id ?_); first | refine Exists.intro _ (And.intro rfl ?_) | refine Exists.intro _ (Exists.intro _ (And.intro rfl ?_))) | ((with_reducible refine and_id ?_); refine And.intro rfl ?_)))
  exact rfl
/-! ### the plain law of turns -/
theorem lr_str : ("R" : Str) ≠ "L" := by decide +kernel
/-- what a sign tells is told by the piece as by all the letters -/
theorem dd_piece {f : Str → Str} {p : Int} (ws : List (Str × Int)) : dd ((pieceL p ws).map f) = dd (ws.map fun q => f (sgn p q)) := by
  suffices h : ∀ (l : List (Str × Int)) (acc : List Str), dd ((l.foldl (fun acc q => putL acc (sgn p q)) acc).map f) = (l.map fun q => f (sgn p q)).foldl (fun acc x => if acc.getLast? = some x then acc else acc ++ [x]) (dd (acc.map f)) by
    exact h ws []
  intro l
  induction l with
  | nil => intro acc; rfl
  | cons q l ih =>
    intro acc
    rw [List.foldl_cons, ih, List.map_cons, List.foldl_cons]
    congr 1
    unfold putL
    split
    · rename_i h
      rw [dd_last, List.getLast?_map, h.1]
      simp
    · rw [List.map_append, List.map_cons, List.map_nil, dd_snoc]
theorem behind_turns {cut : Int} {ws : List (Str × Int)} (hn : ∀ q ∈ ws, ¬ isLR q.1) : toldL "R" "L" (pieceL cut ws) = turnsL cut ws := by
  unfold toldL turnsL
  rw [dd_piece]
  congr 1
  refine List.map_congr_left fun q hq => ?_
  have hq := hn q hq
  unfold sgn sideS
  by_cases h1 : q.2 = cut
  · rw [if_pos h1, if_neg fun z => hq (.inr z), if_pos (by omega)]
  · rw [if_neg h1]
    by_cases h2 : q.2 < cut
    · rw [if_pos h2, if_neg (Ne.symm lr_str), if_pos (by omega)]
    · rw [if_neg h2, if_pos rfl, if_neg (by omega)]
theorem ahead_turns {cut : Int} {ws : List (Str × Int)} (hn : ∀ q ∈ ws, ¬ isLR q.1) : toldL "L" "R" (pieceL (cut + 1) ws) = turnsL cut ws := by
  unfold toldL turnsL
  rw [dd_piece]
  congr 1
  refine List.map_congr_left fun q hq => ?_
  have hq := hn q hq
  unfold sgn sideS
  by_cases h1 : q.2 = cut + 1
  · rw [if_pos h1, if_neg fun z => hq (.inl z), if_neg (by omega)]
  · rw [if_neg h1]
    by_cases h2 : q.2 < cut + 1
    · rw [if_pos h2, if_pos rfl, if_pos (by omega)]
    · rw [if_neg h2, if_neg lr_str, if_neg (by omega)]
theorem told_partsL {xs : List Str} : toldL "R" "L" xs = partsL "L" xs := by
  unfold toldL partsL
  congr 1
  refine List.map_congr_left fun x _ => ?_
  by_cases h1 : x = "R"
  · rw [if_pos h1, if_pos (.inr h1), h1]
  · rw [if_neg h1]
    by_cases h2 : x = "L"
    · rw [if_pos (.inl h2), h2]
    · rw [if_neg fun z => z.elim h2 h1]
theorem told_partsR {xs : List Str} : toldL "L" "R" xs = partsL "R" xs := by
  unfold toldL partsL
  congr 1
  refine List.map_congr_left fun x _ => ?_
  by_cases h1 : x = "L"
  · rw [if_pos h1, if_pos (.inl h1), h1]
  · rw [if_neg h1]
    by_cases h2 : x = "R"
    · rw [if_pos (.inr h2), h2]
    · rw [if_neg fun z => z.elim h1 h2]
end Lw
set_option maxRecDepth 100000
set_option maxHeartbeats 400000
namespace Lw
open PySem PySem.Spec PyProof.Rows L2 DL
/-! ### is it a piece -/
theorem flat_encS {ls : List Str} : (encS ls).all flatD = true := by
  rw [List.all_eq_true]
  intro d hd
  obtain ⟨x, _, rfl⟩ := List.mem_map.mp hd
  rfl
theorem in_ls {x : Str} {ls : List Str} : inB false (.imm (.str x)) (.imm (.tuple (encS ls))) = some (.imm (.bool (decide (x ∈ ls)))) := by
  have : (encS ls).any (fun z => PyData.eqv z (.str x)) = decide (x ∈ ls) := by
    rw [Bool.eq_iff_iff, decide_eq_true_iff, List.any_eq_true]
    constructor
    · rintro ⟨d, hd, e⟩
      obtain ⟨y, hy, rfl⟩ := List.mem_map.mp hd
      have : y = x := by simpa [PyData.eqv] using e
      exact this ▸ hy
    · intro h
      exact ⟨.str x, List.mem_map.mpr ⟨x, h, rfl⟩, by simp [PyData.eqv]⟩
  show (if (flatD (.str x) && (encS ls).all flatD) = true then some (Bd.imm (.bool ((encS ls).any fun z => PyData.eqv z (.str x)))) else _) = _
  rw [flat_encS, this]
  rfl
theorem all_rep : ∀ n : Nat, DL.allB (.lst (List.replicate n (.bool true))) = some (.imm (.bool true)) := fun n => by
  have h : ∀ n : Nat, boolsD (List.replicate n (.bool true)) = some (List.replicate n true) := fun n => by
    induction n with
    | zero => rfl
    | succ n ih => rw [List.replicate_succ, List.replicate_succ]; show (boolsD _).map _ = _; rw [ih]; rfl
  unfold DL.allB
  simp only [q_toL, Option.bind_some, h, Option.map_some]
  congr
  rw [List.all_eq_true]
  intro x hx
  exact (List.mem_replicate.mp hx).2
theorem rep_snoc {α : Type} {n : Nat} {x : α} : List.replicate n x ++ [x] = List.replicate (n + 1) x := by
  rw [List.replicate_succ']
def Adj (xs : List Str) : Prop := ∀ (i : Nat) (x y : Str), xs[i]? = some x → xs[i + 1]? = some y → y ≠ x ∨ ¬ isLR y
theorem atI_encS {xs : List Str} {i : Nat} {x : Str} (h : xs[i]? = some x) : atI (encS xs) (i : Int) = some (.str x) := atI_nat (by unfold encS; rw [List.getElem?_map, h]; rfl)
theorem rangeD_get {lo : Int} {n i : Nat} {d : PyData} (h : (rangeD lo n)[i]? = some d) : i < n ∧ d = .int (lo + (i : Nat)) := by
  unfold rangeD at h
  rw [List.getElem?_map] at h
  cases e : (List.range n)[i]? with
  | none => rw [e] at h; cases h
  | some j =>
    rw [e] at h
    have := List.getElem?_eq_some_iff.mp e
    obtain ⟨h1, h2⟩ := this
    rw [List.getElem_range] at h2
    subst h2
    exact ⟨by simpa using h1, (Option.some.inj h).symm⟩
theorem rangeD_len {lo : Int} {n : Nat} : (rangeD lo n).length = n := by simp [rangeD]
theorem nin_LR {x : Str} : inB true (.imm (.str x)) (.imm (.tuple [.str "L", .str "R"])) = some (.imm (.bool (!decide (isLR x)))) := by
  have h := in_LR (x := x)
  simp [inB, toD, itemsD, flatD, PyData.eqv] at h ⊢
  rw [← h, Bool.not_or]
theorem is_piece_ok {xs ls : List Str} {S : Src} (hl : xs.length ≤ 1000) (h1 : ∀ x ∈ xs, isLR x ∨ x ∈ ls) (h2 : Adj xs) : ∃ r S', F_is_piece [.imm (.tuple (encS xs)), .imm (.tuple (encS ls))] S = some (r, S') ∧ r = .imm (.bool true) := by
  refine run_of rfl rfl ?_
  unfold g_is_piece
  (repeat (first | with_reducible refine p_seq ?_ | with_reducible refine nx_nx ?_ | with_reducible refine nx_rt ?_ | with_reducible refine p_if ?_ | with_reducible refine p_asg ?_ | with_reducible refine p_par ?_ | with_reducible refine p_parN ?_ | with_reducible refine p_ret ?_ | with_reducible refine p_retN ?_ | with_reducible refine p_next ?_ | with_reducible refine p_brk ?_ | with_reducible refine p_cnt ?_ | with_reducible refine p_drop ?_ | with_reducible refine p_appE ?_ | with_reducible refine p_lenE ?_ | with_reducible refine p_setI ?_ | with_reducible refine p_dput ?_ | with_reducible refine p_for ?_ | with_reducible refine p_varE ?_ | with_reducible refine p_frzE ?_ | with_reducible refine p_movE ?_ | with_reducible refine p_c ?_ | with_reducible refine p_op ?_ | with_reducible refine p_un ?_ | with_reducible refine p_ar ?_ | with_reducible refine p_me ?_ | with_reducible refine p_ife ?_ | with_reducible refine p_nil ?_ | with_reducible refine p_cons ?_ | with_reducible refine p_call ?_ | with_reducible refine p_lc ?_ | with_reducible refine p_sl ?_ | with_reducible refine p_on ?_ | with_reducible refine p_os ?_ | with_reducible refine p_fis ?_ | with_reducible refine p_rng1 ?_ | with_reducible refine p_rng2 ?_ | with_reducible refine p_fia ?_ | with_reducible refine p_din ?_ | with_reducible refine p_newT ?_ | with_reducible refine p_newK ?_ | with_reducible refine p_test ?_ | with_reducible refine p_band ?_ | with_reducible refine p_bor ?_ | with_reducible refine p_bnot ?_ | with_reducible refine p_yes ?_ | with_reducible refine p_or ?_ | with_reducible refine p_and ?_ | with_reducible refine p_not ?_ | with_reducible refine bh_t ?_ | with_reducible refine bh_f ?_ | with_reducible refine bh_nt ?_ | with_reducible refine bh_nf ?_ | ((with_reducible refine bh_r ?_); refine Exists.intro _ (And.intro rfl ?_)) | ((with_reducible refine ex_id ?_); first | refine Exists.intro _ (And.intro rfl ?_) | refine Exists.intro _ (Exists.intro _ (And.intro rfl ?_))) | ((with_reducible refine and_id ?_); refine And.intro rfl ?_)))
  refine p_lcS (fun i acc ρ => i ≤ xs.length ∧ ∃ v2, acc = List.replicate i (.bool true) ∧ ρ = [some (.imm (.tuple (encS xs))), some (.imm (.tuple (encS ls))), v2, none]) ⟨by omega, _, rfl, rfl⟩ ?_ ?_
  · rintro i d acc ρ S hd ⟨hi, v2, rfl, rfl⟩
    obtain ⟨x, hx, rfl⟩ := encS_get hd
    have hi2 : i < xs.length := (List.getElem?_eq_some_iff.mp hx).1
    refine ⟨_, rfl, ?_⟩
    (repeat (first | with_reducible refine p_seq ?_ | with_reducible refine nx_nx ?_ | with_reducible refine nx_rt ?_ | with_reducible refine p_if ?_ | with_reducible refine p_asg ?_ | with_reducible refine p_par ?_ | with_reducible refine p_parN ?_ | with_reducible refine p_ret ?_ | with_reducible refine p_retN ?_ | with_reducible refine p_next ?_ | with_reducible refine p_brk ?_ | with_reducible refine p_cnt ?_ | with_reducible refine p_drop ?_ | with_reducible refine p_appE ?_ | with_reducible refine p_lenE ?_ | with_reducible refine p_setI ?_ | with_reducible refine p_dput ?_ | with_reducible refine p_for ?_ | with_reducible refine p_varE ?_ | with_reducible refine p_frzE ?_ | with_reducible refine p_movE ?_ | with_reducible refine p_c ?_ | with_reducible refine p_op ?_ | with_reducible refine p_un ?_ | with_reducible refine p_ar ?_ | with_reducible refine p_me ?_ | with_reducible refine p_ife ?_ | with_reducible refine p_nil ?_ | with_reducible refine p_cons ?_ | with_reducible refine p_call ?_ | with_reducible refine p_lc ?_ | with_reducible refine p_sl ?_ | with_reducible refine p_on ?_ | with_reducible refine p_os ?_ | with_reducible refine p_fis ?_ | with_reducible refine p_rng1 ?_ | with_reducible refine p_rng2 ?_ | with_reducible refine p_fia ?_ | with_reducible refine p_din ?_ | with_reducible refine p_newT ?_ | with_reducible refine p_newK ?_ | with_reducible refine p_test ?_ | with_reducible refine p_band ?_ | with_reducible refine p_bor ?_ | with_reducible refine p_bnot ?_ | with_reducible refine p_yes ?_ | with_reducible refine p_or ?_ | with_reducible refine p_and ?_ | with_reducible refine p_not ?_ | with_reducible refine bh_t ?_ | with_reducible refine bh_f ?_ | with_reducible refine bh_nt ?_ | with_reducible refine bh_nf ?_ | ((with_reducible refine bh_r ?_); refine Exists.intro _ (And.intro rfl ?_)) | ((with_reducible refine ex_id ?_); first | refine Exists.intro _ (And.intro rfl ?_) | refine Exists.intro _ (Exists.intro _ (And.intro rfl ?_))) | ((with_reducible refine and_id ?_); refine And.intro rfl ?_)))
    refine ⟨by rw [List.length_replicate]; omega, by omega, _, rep_snoc, rfl⟩
  rintro acc ρ S ⟨_, v2, rfl, rfl⟩
  refine p_nil ⟨_, all_rep _, ?_⟩
  (repeat (first | with_reducible refine p_seq ?_ | with_reducible refine nx_nx ?_ | with_reducible refine nx_rt ?_ | with_reducible refine p_if ?_ | with_reducible refine p_asg ?_ | with_reducible refine p_par ?_ | with_reducible refine p_parN ?_ | with_reducible refine p_ret ?_ | with_reducible refine p_retN ?_ | with_reducible refine p_next ?_ | with_reducible refine p_brk ?_ | with_reducible refine p_cnt ?_ | with_reducible refine p_drop ?_ | with_reducible refine p_appE ?_ | with_reducible refine p_lenE ?_ | with_reducible refine p_setI ?_ | with_reducible refine p_dput ?_ | with_reducible refine p_for ?_ | with_reducible refine p_varE ?_ | with_reducible refine p_frzE ?_ | with_reducible refine p_movE ?_ | with_reducible refine p_c ?_ | with_reducible refine p_op ?_ | with_reducible refine p_un ?_ | with_reducible refine p_ar ?_ | with_reducible refine p_me ?_ | with_reducible refine p_ife ?_ | with_reducible refine p_nil ?_ | with_reducible refine p_cons ?_ | with_reducible refine p_call ?_ | with_reducible refine p_lc ?_ | with_reducible refine p_sl ?_ | with_reducible refine p_on ?_ | with_reducible refine p_os ?_ | with_reducible refine p_fis ?_ | with_reducible refine p_rng1 ?_ | with_reducible refine p_rng2 ?_ | with_reducible refine p_fia ?_ | with_reducible refine p_din ?_ | with_reducible refine p_newT ?_ | with_reducible refine p_newK ?_ | with_reducible refine p_test ?_ | with_reducible refine p_band ?_ | with_reducible refine p_bor ?_ | with_reducible refine p_bnot ?_ | with_reducible refine p_yes ?_ | with_reducible refine p_or ?_ | with_reducible refine p_and ?_ | with_reducible refine p_not ?_ | with_reducible refine bh_t ?_ | with_reducible refine bh_f ?_ | with_reducible refine bh_nt ?_ | with_reducible refine bh_nf ?_ | ((with_reducible refine bh_r ?_); refine Exists.intro _ (And.intro rfl ?_)) | ((with_reducible refine ex_id ?_); first | refine Exists.intro _ (And.intro rfl ?_) | refine Exists.intro _ (Exists.intro _ (And.intro rfl ?_))) | ((with_reducible refine and_id ?_); refine And.intro rfl ?_)))
  refine p_lcS (fun i acc ρ => i ≤ xs.length ∧ ∃ v2, acc = List.replicate i (.bool true) ∧ ρ = [some (.imm (.tuple (encS xs))), some (.imm (.tuple (encS ls))), v2, none]) ⟨by omega, _, rfl, rfl⟩ ?_ ?_
  · rintro i d acc ρ S hd ⟨hi, v2, rfl, rfl⟩
    obtain ⟨x, hx, rfl⟩ := encS_get hd
    have hi2 : i < xs.length := (List.getElem?_eq_some_iff.mp hx).1
    refine ⟨_, rfl, ?_⟩
    (repeat (first | with_reducible refine ⟨_, in_LR, ?_⟩ | with_reducible refine p_seq ?_ | with_reducible refine nx_nx ?_ | with_reducible refine nx_rt ?_ | with_reducible refine p_if ?_ | with_reducible refine p_asg ?_ | with_reducible refine p_par ?_ | with_reducible refine p_parN ?_ | with_reducible refine p_ret ?_ | with_reducible refine p_retN ?_ | with_reducible refine p_next ?_ | with_reducible refine p_brk ?_ | with_reducible refine p_cnt ?_ | with_reducible refine p_drop ?_ | with_reducible refine p_appE ?_ | with_reducible refine p_lenE ?_ | with_reducible refine p_setI ?_ | with_reducible refine p_dput ?_ | with_reducible refine p_for ?_ | with_reducible refine p_varE ?_ | with_reducible refine p_frzE ?_ | with_reducible refine p_movE ?_ | with_reducible refine p_c ?_ | with_reducible refine p_op ?_ | with_reducible refine p_un ?_ | with_reducible refine p_ar ?_ | with_reducible refine p_me ?_ | with_reducible refine p_ife ?_ | with_reducible refine p_nil ?_ | with_reducible refine p_cons ?_ | with_reducible refine p_call ?_ | with_reducible refine p_lc ?_ | with_reducible refine p_sl ?_ | with_reducible refine p_on ?_ | with_reducible refine p_os ?_ | with_reducible refine p_fis ?_ | with_reducible refine p_rng1 ?_ | with_reducible refine p_rng2 ?_ | with_reducible refine p_fia ?_ | with_reducible refine p_din ?_ | with_reducible refine p_newT ?_ | with_reducible refine p_newK ?_ | with_reducible refine p_test ?_ | with_reducible refine p_band ?_ | with_reducible refine p_bor ?_ | with_reducible refine p_bnot ?_ | with_reducible refine p_yes ?_ | with_reducible refine p_or ?_ | with_reducible refine p_and ?_ | with_reducible refine p_not ?_ | with_reducible refine bh_t ?_ | with_reducible refine bh_f ?_ | with_reducible refine bh_nt ?_ | with_reducible refine bh_nf ?_ | ((with_reducible refine bh_r ?_); refine Exists.intro _ (And.intro rfl ?_)) | ((with_reducible refine ex_id ?_); first | refine Exists.intro _ (And.intro rfl ?_) | refine Exists.intro _ (Exists.intro _ (And.intro rfl ?_))) | ((with_reducible refine and_id ?_); refine And.intro rfl ?_)))
    refine bh_d (fun z => ?_) fun z => ?_
    · (repeat (first | with_reducible refine p_seq ?_ | with_reducible refine nx_nx ?_ | with_reducible refine nx_rt ?_ | with_reducible refine p_if ?_ | with_reducible refine p_asg ?_ | with_reducible refine p_par ?_ | with_reducible refine p_parN ?_ | with_reducible refine p_ret ?_ | with_reducible refine p_retN ?_ | with_reducible refine p_next ?_ | with_reducible refine p_brk ?_ | with_reducible refine p_cnt ?_ | with_reducible refine p_drop ?_ | with_reducible refine p_appE ?_ | with_reducible refine p_lenE ?_ | with_reducible refine p_setI ?_ | with_reducible refine p_dput ?_ | with_reducible refine p_for ?_ | with_reducible refine p_varE ?_ | with_reducible refine p_frzE ?_ | with_reducible refine p_movE ?_ | with_reducible refine p_c ?_ | with_reducible refine p_op ?_ | with_reducible refine p_un ?_ | with_reducible refine p_ar ?_ | with_reducible refine p_me ?_ | with_reducible refine p_ife ?_ | with_reducible refine p_nil ?_ | with_reducible refine p_cons ?_ | with_reducible refine p_call ?_ | with_reducible refine p_lc ?_ | with_reducible refine p_sl ?_ | with_reducible refine p_on ?_ | with_reducible refine p_os ?_ | with_reducible refine p_fis ?_ | with_reducible refine p_rng1 ?_ | with_reducible refine p_rng2 ?_ | with_reducible refine p_fia ?_ | with_reducible refine p_din ?_ | with_reducible refine p_newT ?_ | with_reducible refine p_newK ?_ | with_reducible refine p_test ?_ | with_reducible refine p_band ?_ | with_reducible refine p_bor ?_ | with_reducible refine p_bnot ?_ | with_reducible refine p_yes ?_ | with_reducible refine p_or ?_ | with_reducible refine p_and ?_ | with_reducible refine p_not ?_ | with_reducible refine bh_t ?_ | with_reducible refine bh_f ?_ | with_reducible refine bh_nt ?_ | with_reducible refine bh_nf ?_ | ((with_reducible refine bh_r ?_); refine Exists.intro _ (And.intro rfl ?_)) | ((with_reducible refine ex_id ?_); first | refine Exists.intro _ (And.intro rfl ?_) | refine Exists.intro _ (Exists.intro _ (And.intro rfl ?_))) | ((with_reducible refine and_id ?_); refine And.intro rfl ?_)))
      refine ⟨by rw [List.length_replicate]; omega, by omega, _, rep_snoc, rfl⟩
    · (repeat (first | with_reducible refine ⟨_, in_ls, ?_⟩ | with_reducible refine p_seq ?_ | with_reducible refine nx_nx ?_ | with_reducible refine nx_rt ?_ | with_reducible refine p_if ?_ | with_reducible refine p_asg ?_ | with_reducible refine p_par ?_ | with_reducible refine p_parN ?_ | with_reducible refine p_ret ?_ | with_reducible refine p_retN ?_ | with_reducible refine p_next ?_ | with_reducible refine p_brk ?_ | with_reducible refine p_cnt ?_ | with_reducible refine p_drop ?_ | with_reducible refine p_appE ?_ | with_reducible refine p_lenE ?_ | with_reducible refine p_setI ?_ | with_reducible refine p_dput ?_ | with_reducible refine p_for ?_ | with_reducible refine p_varE ?_ | with_reducible refine p_frzE ?_ | with_reducible refine p_movE ?_ | with_reducible refine p_c ?_ | with_reducible refine p_op ?_ | with_reducible refine p_un ?_ | with_reducible refine p_ar ?_ | with_reducible refine p_me ?_ | with_reducible refine p_ife ?_ | with_reducible refine p_nil ?_ | with_reducible refine p_cons ?_ | with_reducible refine p_call ?_ | with_reducible refine p_lc ?_ | with_reducible refine p_sl ?_ | with_reducible refine p_on ?_ | with_reducible refine p_os ?_ | with_reducible refine p_fis ?_ | with_reducible refine p_rng1 ?_ | with_reducible refine p_rng2 ?_ | with_reducible refine p_fia ?_ | with_reducible refine p_din ?_ | with_reducible refine p_newT ?_ | with_reducible refine p_newK ?_ | with_reducible refine p_test ?_ | with_reducible refine p_band ?_ | with_reducible refine p_bor ?_ | with_reducible refine p_bnot ?_ | with_reducible refine p_yes ?_ | with_reducible refine p_or ?_ | with_reducible refine p_and ?_ | with_reducible refine p_not ?_ | with_reducible refine bh_t ?_ | with_reducible refine bh_f ?_ | with_reducible refine bh_nt ?_ | with_reducible refine bh_nf ?_ | ((with_reducible refine bh_r ?_); refine Exists.intro _ (And.intro rfl ?_)) | ((with_reducible refine ex_id ?_); first | refine Exists.intro _ (And.intro rfl ?_) | refine Exists.intro _ (Exists.intro _ (And.intro rfl ?_))) | ((with_reducible refine and_id ?_); refine And.intro rfl ?_)))
      rw [decide_eq_true ((h1 x (List.mem_of_getElem? hx)).resolve_left z)]
      refine ⟨by rw [List.length_replicate]; omega, by omega, _, rep_snoc, rfl⟩
  rintro acc ρ S ⟨_, v2, rfl, rfl⟩
  refine p_nil ⟨_, all_rep _, ?_⟩
  have hz : ((encS xs).length : Int) = xs.length := by rw [encS_len]
  (repeat (first | with_reducible refine p_seq ?_ | with_reducible refine nx_nx ?_ | with_reducible refine nx_rt ?_ | with_reducible refine p_if ?_ | with_reducible refine p_asg ?_ | with_reducible refine p_par ?_ | with_reducible refine p_parN ?_ | with_reducible refine p_ret ?_ | with_reducible refine p_retN ?_ | with_reducible refine p_next ?_ | with_reducible refine p_brk ?_ | with_reducible refine p_cnt ?_ | with_reducible refine p_drop ?_ | with_reducible refine p_appE ?_ | with_reducible refine p_lenE ?_ | with_reducible refine p_setI ?_ | with_reducible refine p_dput ?_ | with_reducible refine p_for ?_ | with_reducible refine p_varE ?_ | with_reducible refine p_frzE ?_ | with_reducible refine p_movE ?_ | with_reducible refine p_c ?_ | with_reducible refine p_op ?_ | with_reducible refine p_un ?_ | with_reducible refine p_ar ?_ | with_reducible refine p_me ?_ | with_reducible refine p_ife ?_ | with_reducible refine p_nil ?_ | with_reducible refine p_cons ?_ | with_reducible refine p_call ?_ | with_reducible refine p_lc ?_ | with_reducible refine p_sl ?_ | with_reducible refine p_on ?_ | with_reducible refine p_os ?_ | with_reducible refine p_fis ?_ | with_reducible refine p_rng1 ?_ | with_reducible refine p_rng2 ?_ | with_reducible refine p_fia ?_ | with_reducible refine p_din ?_ | with_reducible refine p_newT ?_ | with_reducible refine p_newK ?_ | with_reducible refine p_test ?_ | with_reducible refine p_band ?_ | with_reducible refine p_bor ?_ | with_reducible refine p_bnot ?_ | with_reducible refine p_yes ?_ | with_reducible refine p_or ?_ | with_reducible refine p_and ?_ | with_reducible refine p_not ?_ | with_reducible refine bh_t ?_ | with_reducible refine bh_f ?_ | with_reducible refine bh_nt ?_ | with_reducible refine bh_nf ?_ | ((with_reducible refine bh_r ?_); refine Exists.intro _ (And.intro rfl ?_)) | ((with_reducible refine ex_id ?_); first | refine Exists.intro _ (And.intro rfl ?_) | refine Exists.intro _ (Exists.intro _ (And.intro rfl ?_))) | ((with_reducible refine and_id ?_); refine And.intro rfl ?_)))
  refine ⟨by omega, ?_⟩
  refine p_lcS (fun i acc ρ => i ≤ xs.length ∧ ∃ v3, acc = List.replicate i (.bool true) ∧ ρ = [some (.imm (.tuple (encS xs))), some (.imm (.tuple (encS ls))), none, v3]) ⟨by omega, _, rfl, rfl⟩ ?_ ?_
  · rintro i d acc ρ S hd ⟨hi, v3, rfl, rfl⟩
    obtain ⟨hi1, rfl⟩ := rangeD_get hd
    have hi2 : i + 1 < xs.length := by omega
    obtain ⟨y, hy⟩ : ∃ y, xs[i + 1]? = some y := ⟨_, List.getElem?_eq_getElem hi2⟩
    obtain ⟨x, hx⟩ : ∃ x, xs[i]? = some x := ⟨_, List.getElem?_eq_getElem (by omega)⟩
    have a1 : atI (encS xs) (1 + (i : Nat) : Int) = some (.str y) := by
      have := atI_encS hy
      rwa [show ((i + 1 : Nat) : Int) = 1 + (i : Nat) by omega] at this
    have a2 : atI (encS xs) (1 + (i : Nat) - 1 : Int) = some (.str x) := by
      have := atI_encS hx
      rwa [show ((i : Nat) : Int) = 1 + (i : Nat) - 1 by omega] at this
    refine ⟨_, rfl, ?_⟩
    have b1 : ixB (.imm (.tuple (encS xs))) (.imm (.int (1 + (i : Nat) : Int))) = some (.imm (.str y)) := by rw [q_ixT, a1]; rfl
    have b2 : ixB (.imm (.tuple (encS xs))) (.imm (.int (1 + (i : Nat) - 1 : Int))) = some (.imm (.str x)) := by rw [q_ixT, a2]; rfl
    (repeat (first | with_reducible refine ⟨_, b1, ?_⟩ | with_reducible refine ⟨_, b2, ?_⟩ | with_reducible refine p_seq ?_ | with_reducible refine nx_nx ?_ | with_reducible refine nx_rt ?_ | with_reducible refine p_if ?_ | with_reducible refine p_asg ?_ | with_reducible refine p_par ?_ | with_reducible refine p_parN ?_ | with_reducible refine p_ret ?_ | with_reducible refine p_retN ?_ | with_reducible refine p_next ?_ | with_reducible refine p_brk ?_ | with_reducible refine p_cnt ?_ | with_reducible refine p_drop ?_ | with_reducible refine p_appE ?_ | with_reducible refine p_lenE ?_ | with_reducible refine p_setI ?_ | with_reducible refine p_dput ?_ | with_reducible refine p_for ?_ | with_reducible refine p_varE ?_ | with_reducible refine p_frzE ?_ | with_reducible refine p_movE ?_ | with_reducible refine p_c ?_ | with_reducible refine p_op ?_ | with_reducible refine p_un ?_ | with_reducible refine p_ar ?_ | with_reducible refine p_me ?_ | with_reducible refine p_ife ?_ | with_reducible refine p_nil ?_ | with_reducible refine p_cons ?_ | with_reducible refine p_call ?_ | with_reducible refine p_lc ?_ | with_reducible refine p_sl ?_ | with_reducible refine p_on ?_ | with_reducible refine p_os ?_ | with_reducible refine p_fis ?_ | with_reducible refine p_rng1 ?_ | with_reducible refine p_rng2 ?_ | with_reducible refine p_fia ?_ | with_reducible refine p_din ?_ | with_reducible refine p_newT ?_ | with_reducible refine p_newK ?_ | with_reducible refine p_test ?_ | with_reducible refine p_band ?_ | with_reducible refine p_bor ?_ | with_reducible refine p_bnot ?_ | with_reducible refine p_yes ?_ | with_reducible refine p_or ?_ | with_reducible refine p_and ?_ | with_reducible refine p_not ?_ | with_reducible refine bh_t ?_ | with_reducible refine bh_f ?_ | with_reducible refine bh_nt ?_ | with_reducible refine bh_nf ?_ | ((with_reducible refine bh_r ?_); refine Exists.intro _ (And.intro rfl ?_)) | ((with_reducible refine ex_id ?_); first | refine Exists.intro _ (And.intro rfl ?_) | refine Exists.intro _ (Exists.intro _ (And.intro rfl ?_))) | ((with_reducible refine and_id ?_); refine And.intro rfl ?_)))
    refine bh_n (bh_d (fun z => ?_) fun z => ?_)
    · (repeat (first | with_reducible refine ⟨_, b1, ?_⟩ | with_reducible refine ⟨_, nin_LR, ?_⟩ | with_reducible refine p_seq ?_ | with_reducible refine nx_nx ?_ | with_reducible refine nx_rt ?_ | with_reducible refine p_if ?_ | with_reducible refine p_asg ?_ | with_reducible refine p_par ?_ | with_reducible refine p_parN ?_ | with_reducible refine p_ret ?_ | with_reducible refine p_retN ?_ | with_reducible refine p_next ?_ | with_reducible refine p_brk ?_ | with_reducible refine p_cnt ?_ | with_reducible refine p_drop ?_ | with_reducible refine p_appE ?_ | with_reducible refine p_lenE ?_ | with_reducible refine p_setI ?_ | with_reducible refine p_dput ?_ | with_reducible refine p_for ?_ | with_reducible refine p_varE ?_ | with_reducible refine p_frzE ?_ | with_reducible refine p_movE ?_ | with_reducible refine p_c ?_ | with_reducible refine p_op ?_ | with_reducible refine p_un ?_ | with_reducible refine p_ar ?_ | with_reducible refine p_me ?_ | with_reducible refine p_ife ?_ | with_reducible refine p_nil ?_ | with_reducible refine p_cons ?_ | with_reducible refine p_call ?_ | with_reducible refine p_lc ?_ | with_reducible refine p_sl ?_ | with_reducible refine p_on ?_ | with_reducible refine p_os ?_ | with_reducible refine p_fis ?_ | with_reducible refine p_rng1 ?_ | with_reducible refine p_rng2 ?_ | with_reducible refine p_fia ?_ | with_reducible refine p_din ?_ | with_reducible refine p_newT ?_ | with_reducible refine p_newK ?_ | with_reducible refine p_test ?_ | with_reducible refine p_band ?_ | with_reducible refine p_bor ?_ | with_reducible refine p_bnot ?_ | with_reducible refine p_yes ?_ | with_reducible refine p_or ?_ | with_reducible refine p_and ?_ | with_reducible refine p_not ?_ | with_reducible refine bh_t ?_ | with_reducible refine bh_f ?_ | with_reducible refine bh_nt ?_ | with_reducible refine bh_nf ?_ | ((with_reducible refine bh_r ?_); refine Exists.intro _ (And.intro rfl ?_)) | ((with_reducible refine ex_id ?_); first | refine Exists.intro _ (And.intro rfl ?_) | refine Exists.intro _ (Exists.intro _ (And.intro rfl ?_))) | ((with_reducible refine and_id ?_); refine And.intro rfl ?_)))
      rw [decide_eq_false ((h2 i x y hx hy).resolve_left fun q => q z)]
      refine ⟨by rw [List.length_replicate]; omega, by omega, _, rep_snoc, rfl⟩
    · (repeat (first | with_reducible refine p_seq ?_ | with_reducible refine nx_nx ?_ | with_reducible refine nx_rt ?_ | with_reducible refine p_if ?_ | with_reducible refine p_asg ?_ | with_reducible refine p_par ?_ | with_reducible refine p_parN ?_ | with_reducible refine p_ret ?_ | with_reducible refine p_retN ?_ | with_reducible refine p_next ?_ | with_reducible refine p_brk ?_ | with_reducible refine p_cnt ?_ | with_reducible refine p_drop ?_ | with_reducible refine p_appE ?_ | with_reducible refine p_lenE ?_ | with_reducible refine p_setI ?_ | with_reducible refine p_dput ?_ | with_reducible refine p_for ?_ | with_reducible refine p_varE ?_ | with_reducible refine p_frzE ?_ | with_reducible refine p_movE ?_ | with_reducible refine p_c ?_ | with_reducible refine p_op ?_ | with_reducible refine p_un ?_ | with_reducible refine p_ar ?_ | with_reducible refine p_me ?_ | with_reducible refine p_ife ?_ | with_reducible refine p_nil ?_ | with_reducible refine p_cons ?_ | with_reducible refine p_call ?_ | with_reducible refine p_lc ?_ | with_reducible refine p_sl ?_ | with_reducible refine p_on ?_ | with_reducible refine p_os ?_ | with_reducible refine p_fis ?_ | with_reducible refine p_rng1 ?_ | with_reducible refine p_rng2 ?_ | with_reducible refine p_fia ?_ | with_reducible refine p_din ?_ | with_reducible refine p_newT ?_ | with_reducible refine p_newK ?_ | with_reducible refine p_test ?_ | with_reducible refine p_band ?_ | with_reducible refine p_bor ?_ | with_reducible refine p_bnot ?_ | with_reducible refine p_yes ?_ | with_reducible refine p_or ?_ | with_reducible refine p_and ?_ | with_reducible refine p_not ?_ | with_reducible refine bh_t ?_ | with_reducible refine bh_f ?_ | with_reducible refine bh_nt ?_ | with_reducible refine bh_nf ?_ | ((with_reducible refine bh_r ?_); refine Exists.intro _ (And.intro rfl ?_)) | ((with_reducible refine ex_id ?_); first | refine Exists.intro _ (And.intro rfl ?_) | refine Exists.intro _ (Exists.intro _ (And.intro rfl ?_))) | ((with_reducible refine and_id ?_); refine And.intro rfl ?_)))
      refine ⟨by rw [List.length_replicate]; omega, by omega, _, rep_snoc, rfl⟩
  rintro acc ρ S ⟨_, v3, rfl, rfl⟩
  refine p_nil ⟨_, all_rep _, ?_⟩
  exact rfl
theorem adj_put {acc : List Str} {x : Str} (h : Adj acc) : Adj (putL acc x) := by
  unfold putL
  by_cases z : acc.getLast? = some x ∧ isLR x
  · rw [if_pos z]; exact h
  · rw [if_neg z]
    intro i a b h1 h2
    by_cases hi : i + 1 < acc.length
    · rw [List.getElem?_append_left (by omega)] at h1
      rw [List.getElem?_append_left hi] at h2
      exact h i a b h1 h2
    · rw [List.getElem?_append_right (by omega)] at h2
      have hj : i + 1 = acc.length := by
        have := (List.getElem?_eq_some_iff.mp h2).1
        simp at this
        omega
      rw [hj, Nat.sub_self] at h2
      have hb : x = b := by simpa using h2
      subst hb
      rw [List.getElem?_append_left (by omega)] at h1
      by_cases e : x = a
      · subst e
        refine .inr fun lr => z ⟨?_, lr⟩
        rw [List.getLast?_eq_getElem?, show acc.length - 1 = i by omega]
        exact h1
      · exact .inl e
theorem adj_piece {p : Int} {ws : List (Str × Int)} : Adj (pieceL p ws) := by
  suffices h : ∀ (l : List (Str × Int)) (acc : List Str), Adj acc → Adj (l.foldl (fun acc q => putL acc (sgn p q)) acc) from h ws [] fun i x y h => by simp at h
  intro l
  induction l with
  | nil => intro acc h; exact h
  | cons q l ih => intro acc h; exact ih _ (adj_put h)
theorem piece_mem {p : Int} {ws : List (Str × Int)} {ls : List Str} (h : ∀ q ∈ ws, q.1 ∈ ls) : ∀ x ∈ pieceL p ws, isLR x ∨ x ∈ ls := by
  refine foldl_mem (fun acc q hq ha y hy => ?_) (fun _ h => nomatch h)
  rcases put_mem hy with z | rfl
  · exact ha y z
  · unfold sgn
    split
    · exact .inr (h q hq)
    · split
      · exact .inl (.inl rfl)
      · exact .inl (.inr rfl)
/-- a sign stands in a piece only if a letter tells it -/
theorem piece_noL {p : Int} {ws : List (Str × Int)} (h : ∀ q ∈ ws, p ≤ q.2) (hn : ∀ q ∈ ws, ¬ isLR q.1) : ("L" : Str) ∉ pieceL p ws := by
  refine fun z => (foldl_mem (P := fun y => y ≠ ("L" : Str)) (fun acc q hq ha y hy => ?_) (acc := []) (fun y h => by cases h) _ z) rfl
  rcases put_mem hy with z | rfl
  · exact ha y z
  · unfold sgn
    split
    · exact fun e => hn q hq (.inl e)
    · rw [if_neg (by have := h q hq; omega)]
      exact lr_str
theorem piece_noR {p : Int} {ws : List (Str × Int)} (h : ∀ q ∈ ws, q.2 ≤ p) (hn : ∀ q ∈ ws, ¬ isLR q.1) : ("R" : Str) ∉ pieceL p ws := by
  refine fun z => (foldl_mem (P := fun y => y ≠ ("R" : Str)) (fun acc q hq ha y hy => ?_) (acc := []) (fun y h => by cases h) _ z) rfl
  rcases put_mem hy with z | rfl
  · exact ha y z
  · unfold sgn
    split
    · exact fun e => hn q hq (.inr e)
    · rw [if_pos (by have := h q hq; omega)]
      exact Ne.symm lr_str
end Lw
set_option maxRecDepth 100000
set_option maxHeartbeats 400000
namespace Lw
open PySem PySem.Spec PyProof.Rows L2 DL
/-! ### blocks -/
theorem blk_turns {cut : Int} : ∀ ws : List (Str × Int), (blkL cut ws).map Prod.fst = turnsL cut ws := by
  refine snoc_ind rfl fun ws q ih => ?_
  have e : turnsL cut (ws ++ [q]) = if (turnsL cut ws).getLast? = some (sideS cut q.2) then turnsL cut ws else turnsL cut ws ++ [sideS cut q.2] := by
    unfold turnsL
    rw [List.map_append, List.map_cons, List.map_nil, dd_snoc]
  rw [blk_snoc, e, ← ih]
  rcases blk_cases (cut := cut) (acc := blkL cut ws) (q := q) with ⟨r, l, h1, h2⟩ | ⟨h1, h2⟩
  · rw [h2, h1]
    simp
  · rw [h2]
    rcases h1 with h1 | ⟨r, s, l, h1, h3⟩
    · rw [h1]; simp
    · rw [h1]; simp [h3]
theorem cmp_enc {ws : List (Str × Int)} (h : StrsOk ws) : ∀ d ∈ enc ws, Cmp 1 d := fun d hd => by
  obtain ⟨q, hq, rfl⟩ := List.mem_map.mp hd
  refine cmp_tup fun d hd => ?_
  simp only [List.mem_cons, List.not_mem_nil, or_false] at hd
  rcases hd with rfl | rfl
  · exact cmp_str (h q hq)
  · exact cmp_int
theorem cmp_blk {cut : Int} {ws : List (Str × Int)} (h : StrsOk ws) : ∀ d ∈ (blkL cut ws).map blkD, Cmp 3 d := fun d hd => by
  obtain ⟨b, hb, rfl⟩ := List.mem_map.mp hd
  obtain ⟨_, ⟨p, e⟩, g⟩ := (blk_ok ws).2 b hb
  refine cmp_tup fun d hd => ?_
  simp only [List.mem_cons, List.not_mem_nil, or_false] at hd
  rcases hd with rfl | rfl
  · rw [e]; exact cmp_str (strOk_side _ _)
  · exact cmp_tup (cmp_enc fun q hq => h q (g q hq))
theorem eq_nil {ds : List PyData} (h : ∀ d ∈ ds, Cmp 3 d) : eqB false (.bor ds) (.lst []) = some (.imm (.bool (decide (ds = [])))) := by
  have h1 : SeqAt.shaped (.list ds) = true := (cmp_lst h).shaped (by decide)
  have h2 : SeqAt.shaped (.list []) = true := by decide +kernel
  have e : eqB false (.bor ds) (.lst []) = some (.imm (.bool (PyData.eqv (.list ds) (.list [])))) := by
    show (if (SeqAt.shaped _ && SeqAt.shaped _) = true then _ else _) = _
    rw [h1, h2]
    rfl
  rw [e]
  cases ds with
  | nil => rfl
  | cons a r => simp [PyData.eqv, PyData.eqvAll]
theorem pairs_enc : ∀ ws : List (Str × Int), pairsD (enc ws) = some ws
  | [] => rfl
  | q :: ws => by
    show (pairsD (enc ws)).map _ = _
    rw [pairs_enc ws]
    rfl
theorem blocks_ok {cut : Int} {ws : List (Str × Int)} {S : Src} (hl : ws.length ≤ 1000) : F_blocks_of [.imm (.tuple (enc ws)), .imm (.int cut)] S = some (.imm (.tuple ((blkL cut ws).map blkD)), S) := by
  show (pairsD (enc ws)).bind _ = _
  rw [pairs_enc, Option.bind_some, if_pos (by rw [enc_len]; exact hl)]
theorem turns_ok {cut : Int} {ws : List (Str × Int)} {S : Src} (hl : ws.length ≤ 1000) : ∃ r S', F_turns_of [.imm (.tuple (enc ws)), .imm (.int cut)] S = some (r, S') ∧ r = .imm (.tuple (encS (turnsL cut ws))) := by
  refine run_of rfl rfl ?_
  unfold g_turns_of
  (repeat (first | with_reducible refine p_seq ?_ | with_reducible refine nx_nx ?_ | with_reducible refine nx_rt ?_ | with_reducible refine p_if ?_ | with_reducible refine p_asg ?_ | with_reducible refine p_par ?_ | with_reducible refine p_parN ?_ | with_reducible refine p_ret ?_ | with_reducible refine p_retN ?_ | with_reducible refine p_next ?_ | with_reducible refine p_brk ?_ | with_reducible refine p_cnt ?_ | with_reducible refine p_drop ?_ | with_reducible refine p_appE ?_ | with_reducible refine p_lenE ?_ | with_reducible refine p_setI ?_ | with_reducible refine p_dput ?_ | with_reducible refine p_for ?_ | with_reducible refine p_varE ?_ | with_reducible refine p_frzE ?_ | with_reducible refine p_movE ?_ | with_reducible refine p_c ?_ | with_reducible refine p_op ?_ | with_reducible refine p_un ?_ | with_reducible refine p_ar ?_ | with_reducible refine p_me ?_ | with_reducible refine p_ife ?_ | with_reducible refine p_nil ?_ | with_reducible refine p_cons ?_ | with_reducible refine p_call ?_ | with_reducible refine p_lc ?_ | with_reducible refine p_sl ?_ | with_reducible refine p_on ?_ | with_reducible refine p_os ?_ | with_reducible refine p_fis ?_ | with_reducible refine p_rng1 ?_ | with_reducible refine p_rng2 ?_ | with_reducible refine p_fia ?_ | with_reducible refine p_din ?_ | with_reducible refine p_newT ?_ | with_reducible refine p_newK ?_ | with_reducible refine p_test ?_ | with_reducible refine p_band ?_ | with_reducible refine p_bor ?_ | with_reducible refine p_bnot ?_ | with_reducible refine p_yes ?_ | with_reducible refine p_or ?_ | with_reducible refine p_and ?_ | with_reducible refine p_not ?_ | with_reducible refine bh_t ?_ | with_reducible refine bh_f ?_ | with_reducible refine bh_nt ?_ | with_reducible refine bh_nf ?_ | ((with_reducible refine bh_r ?_); refine Exists.intro _ (And.intro rfl ?_)) | ((with_reducible refine ex_id ?_); first | refine Exists.intro _ (And.intro rfl ?_) | refine Exists.intro _ (Exists.intro _ (And.intro rfl ?_))) | ((with_reducible refine and_id ?_); refine And.intro rfl ?_)))
  refine callP rfl (blocks_ok hl) rfl ?_
  (repeat (first | with_reducible refine p_seq ?_ | with_reducible refine nx_nx ?_ | with_reducible refine nx_rt ?_ | with_reducible refine p_if ?_ | with_reducible refine p_asg ?_ | with_reducible refine p_par ?_ | with_reducible refine p_parN ?_ | with_reducible refine p_ret ?_ | with_reducible refine p_retN ?_ | with_reducible refine p_next ?_ | with_reducible refine p_brk ?_ | with_reducible refine p_cnt ?_ | with_reducible refine p_drop ?_ | with_reducible refine p_appE ?_ | with_reducible refine p_lenE ?_ | with_reducible refine p_setI ?_ | with_reducible refine p_dput ?_ | with_reducible refine p_for ?_ | with_reducible refine p_varE ?_ | with_reducible refine p_frzE ?_ | with_reducible refine p_movE ?_ | with_reducible refine p_c ?_ | with_reducible refine p_op ?_ | with_reducible refine p_un ?_ | with_reducible refine p_ar ?_ | with_reducible refine p_me ?_ | with_reducible refine p_ife ?_ | with_reducible refine p_nil ?_ | with_reducible refine p_cons ?_ | with_reducible refine p_call ?_ | with_reducible refine p_lc ?_ | with_reducible refine p_sl ?_ | with_reducible refine p_on ?_ | with_reducible refine p_os ?_ | with_reducible refine p_fis ?_ | with_reducible refine p_rng1 ?_ | with_reducible refine p_rng2 ?_ | with_reducible refine p_fia ?_ | with_reducible refine p_din ?_ | with_reducible refine p_newT ?_ | with_reducible refine p_newK ?_ | with_reducible refine p_test ?_ | with_reducible refine p_band ?_ | with_reducible refine p_bor ?_ | with_reducible refine p_bnot ?_ | with_reducible refine p_yes ?_ | with_reducible refine p_or ?_ | with_reducible refine p_and ?_ | with_reducible refine p_not ?_ | with_reducible refine bh_t ?_ | with_reducible refine bh_f ?_ | with_reducible refine bh_nt ?_ | with_reducible refine bh_nf ?_ | ((with_reducible refine bh_r ?_); refine Exists.intro _ (And.intro rfl ?_)) | ((with_reducible refine ex_id ?_); first | refine Exists.intro _ (And.intro rfl ?_) | refine Exists.intro _ (Exists.intro _ (And.intro rfl ?_))) | ((with_reducible refine and_id ?_); refine And.intro rfl ?_)))
  refine p_lcS (fun i acc ρ => i ≤ (blkL cut ws).length ∧ ∃ v2 v3, acc = (((blkL cut ws).take i).map Prod.fst).map PyData.str ∧ ρ = [some (.imm (.tuple (enc ws))), some (.imm (.int cut)), v2, v3]) ⟨by omega, _, _, rfl, rfl⟩ ?_ ?_
  · rintro i d acc ρ S hd ⟨hi, v2, v3, rfl, rfl⟩
    obtain ⟨b, hb, rfl⟩ : ∃ b, (blkL cut ws)[i]? = some b ∧ d = blkD b := by
      rw [List.getElem?_map] at hd
      cases e : (blkL cut ws)[i]? with
      | none => rw [e] at hd; cases hd
      | some b => rw [e] at hd; exact ⟨b, rfl, (Option.some.inj hd).symm⟩
    have hi2 := (List.getElem?_eq_some_iff.mp hb).1
    refine ⟨_, rfl, ?_⟩
    (repeat (first | with_reducible refine p_seq ?_ | with_reducible refine nx_nx ?_ | with_reducible refine nx_rt ?_ | with_reducible refine p_if ?_ | with_reducible refine p_asg ?_ | with_reducible refine p_par ?_ | with_reducible refine p_parN ?_ | with_reducible refine p_ret ?_ | with_reducible refine p_retN ?_ | with_reducible refine p_next ?_ | with_reducible refine p_brk ?_ | with_reducible refine p_cnt ?_ | with_reducible refine p_drop ?_ | with_reducible refine p_appE ?_ | with_reducible refine p_lenE ?_ | with_reducible refine p_setI ?_ | with_reducible refine p_dput ?_ | with_reducible refine p_for ?_ | with_reducible refine p_varE ?_ | with_reducible refine p_frzE ?_ | with_reducible refine p_movE ?_ | with_reducible refine p_c ?_ | with_reducible refine p_op ?_ | with_reducible refine p_un ?_ | with_reducible refine p_ar ?_ | with_reducible refine p_me ?_ | with_reducible refine p_ife ?_ | with_reducible refine p_nil ?_ | with_reducible refine p_cons ?_ | with_reducible refine p_call ?_ | with_reducible refine p_lc ?_ | with_reducible refine p_sl ?_ | with_reducible refine p_on ?_ | with_reducible refine p_os ?_ | with_reducible refine p_fis ?_ | with_reducible refine p_rng1 ?_ | with_reducible refine p_rng2 ?_ | with_reducible refine p_fia ?_ | with_reducible refine p_din ?_ | with_reducible refine p_newT ?_ | with_reducible refine p_newK ?_ | with_reducible refine p_test ?_ | with_reducible refine p_band ?_ | with_reducible refine p_bor ?_ | with_reducible refine p_bnot ?_ | with_reducible refine p_yes ?_ | with_reducible refine p_or ?_ | with_reducible refine p_and ?_ | with_reducible refine p_not ?_ | with_reducible refine bh_t ?_ | with_reducible refine bh_f ?_ | with_reducible refine bh_nt ?_ | with_reducible refine bh_nf ?_ | ((with_reducible refine bh_r ?_); refine Exists.intro _ (And.intro rfl ?_)) | ((with_reducible refine ex_id ?_); first | refine Exists.intro _ (And.intro rfl ?_) | refine Exists.intro _ (Exists.intro _ (And.intro rfl ?_))) | ((with_reducible refine and_id ?_); refine And.intro rfl ?_)))
    refine ⟨?_, by omega, _, _, ?_, rfl⟩
    · rw [List.length_map, List.length_map, List.length_take]
      have := (blk_ok (cut := cut) ws).1
      omega
    · rw [take_get hb, List.map_append, List.map_append]
      rfl
  · rintro acc ρ S ⟨_, v2, v3, rfl, rfl⟩
    (repeat (first | with_reducible refine p_seq ?_ | with_reducible refine nx_nx ?_ | with_reducible refine nx_rt ?_ | with_reducible refine p_if ?_ | with_reducible refine p_asg ?_ | with_reducible refine p_par ?_ | with_reducible refine p_parN ?_ | with_reducible refine p_ret ?_ | with_reducible refine p_retN ?_ | with_reducible refine p_next ?_ | with_reducible refine p_brk ?_ | with_reducible refine p_cnt ?_ | with_reducible refine p_drop ?_ | with_reducible refine p_appE ?_ | with_reducible refine p_lenE ?_ | with_reducible refine p_setI ?_ | with_reducible refine p_dput ?_ | with_reducible refine p_for ?_ | with_reducible refine p_varE ?_ | with_reducible refine p_frzE ?_ | with_reducible refine p_movE ?_ | with_reducible refine p_c ?_ | with_reducible refine p_op ?_ | with_reducible refine p_un ?_ | with_reducible refine p_ar ?_ | with_reducible refine p_me ?_ | with_reducible refine p_ife ?_ | with_reducible refine p_nil ?_ | with_reducible refine p_cons ?_ | with_reducible refine p_call ?_ | with_reducible refine p_lc ?_ | with_reducible refine p_sl ?_ | with_reducible refine p_on ?_ | with_reducible refine p_os ?_ | with_reducible refine p_fis ?_ | with_reducible refine p_rng1 ?_ | with_reducible refine p_rng2 ?_ | with_reducible refine p_fia ?_ | with_reducible refine p_din ?_ | with_reducible refine p_newT ?_ | with_reducible refine p_newK ?_ | with_reducible refine p_test ?_ | with_reducible refine p_band ?_ | with_reducible refine p_bor ?_ | with_reducible refine p_bnot ?_ | with_reducible refine p_yes ?_ | with_reducible refine p_or ?_ | with_reducible refine p_and ?_ | with_reducible refine p_not ?_ | with_reducible refine bh_t ?_ | with_reducible refine bh_f ?_ | with_reducible refine bh_nt ?_ | with_reducible refine bh_nf ?_ | ((with_reducible refine bh_r ?_); refine Exists.intro _ (And.intro rfl ?_)) | ((with_reducible refine ex_id ?_); first | refine Exists.intro _ (And.intro rfl ?_) | refine Exists.intro _ (Exists.intro _ (And.intro rfl ?_))) | ((with_reducible refine and_id ?_); refine And.intro rfl ?_)))
    rw [List.length_map, List.take_length, blk_turns]
    rfl
theorem law_blocks_ok {cut : Int} {ws : List (Str × Int)} {S : Src} (hl : ws.length ≤ 1000) (h : StrsOk ws) : ∃ r S', F__law_blocks [.imm (.tuple (enc ws)), .imm (.int cut)] S = some (r, S') ∧ r = .imm (.tuple ((blkL cut ws).map blkD)) := by
  refine run_of rfl rfl ?_
  unfold g__law_blocks
  (repeat (first | with_reducible refine p_seq ?_ | with_reducible refine nx_nx ?_ | with_reducible refine nx_rt ?_ | with_reducible refine p_if ?_ | with_reducible refine p_asg ?_ | with_reducible refine p_par ?_ | with_reducible refine p_parN ?_ | with_reducible refine p_ret ?_ | with_reducible refine p_retN ?_ | with_reducible refine p_next ?_ | with_reducible refine p_brk ?_ | with_reducible refine p_cnt ?_ | with_reducible refine p_drop ?_ | with_reducible refine p_appE ?_ | with_reducible refine p_lenE ?_ | with_reducible refine p_setI ?_ | with_reducible refine p_dput ?_ | with_reducible refine p_for ?_ | with_reducible refine p_varE ?_ | with_reducible refine p_frzE ?_ | with_reducible refine p_movE ?_ | with_reducible refine p_c ?_ | with_reducible refine p_op ?_ | with_reducible refine p_un ?_ | with_reducible refine p_ar ?_ | with_reducible refine p_me ?_ | with_reducible refine p_ife ?_ | with_reducible refine p_nil ?_ | with_reducible refine p_cons ?_ | with_reducible refine p_call ?_ | with_reducible refine p_lc ?_ | with_reducible refine p_sl ?_ | with_reducible refine p_on ?_ | with_reducible refine p_os ?_ | with_reducible refine p_fis ?_ | with_reducible refine p_rng1 ?_ | with_reducible refine p_rng2 ?_ | with_reducible refine p_fia ?_ | with_reducible refine p_din ?_ | with_reducible refine p_newT ?_ | with_reducible refine p_newK ?_ | with_reducible refine p_test ?_ | with_reducible refine p_band ?_ | with_reducible refine p_bor ?_ | with_reducible refine p_bnot ?_ | with_reducible refine p_yes ?_ | with_reducible refine p_or ?_ | with_reducible refine p_and ?_ | with_reducible refine p_not ?_ | with_reducible refine bh_t ?_ | with_reducible refine bh_f ?_ | with_reducible refine bh_nt ?_ | with_reducible refine bh_nf ?_ | ((with_reducible refine bh_r ?_); refine Exists.intro _ (And.intro rfl ?_)) | ((with_reducible refine ex_id ?_); first | refine Exists.intro _ (And.intro rfl ?_) | refine Exists.intro _ (Exists.intro _ (And.intro rfl ?_))) | ((with_reducible refine and_id ?_); refine And.intro rfl ?_)))
  refine p_forS (fun i ρ => ∃ v3 v4 v5, ρ = [some (.imm (.tuple (enc ws))), some (.imm (.int cut)), some (.lst ((blkL cut (ws.take i)).map blkD)), v3, v4, v5]) ⟨_, _, _, rfl⟩ ?_ ?_
  · rintro i d ρ S hd ⟨v3, v4, v5, rfl⟩
    obtain ⟨l, p, hw, rfl⟩ := enc_get hd
    have fin : ∀ (xs : List (Str × List (Str × Int))), xs = blkStep cut (blkL cut (ws.take i)) (l, p) → xs = blkL cut (ws.take (i + 1)) := fun xs e => by
      rw [take_get hw, blk_snoc]; exact e
    obtain ⟨k1, k2⟩ := blk_ok (cut := cut) (ws.take i)
    have k3 : (ws.take i).length ≤ 1000 := by rw [List.length_take]; omega
    have hE := eq_nil (cmp_blk (cut := cut) (h.take i))
    refine ⟨_, rfl, ?_⟩
    (repeat (first | ((with_reducible refine if_id ?_); refine p_side rfl rfl ?_) | with_reducible refine ⟨_, hE, ?_⟩ | with_reducible refine p_seq ?_ | with_reducible refine nx_nx ?_ | with_reducible refine nx_rt ?_ | with_reducible refine p_if ?_ | with_reducible refine p_asg ?_ | with_reducible refine p_par ?_ | with_reducible refine p_parN ?_ | with_reducible refine p_ret ?_ | with_reducible refine p_retN ?_ | with_reducible refine p_next ?_ | with_reducible refine p_brk ?_ | with_reducible refine p_cnt ?_ | with_reducible refine p_drop ?_ | with_reducible refine p_appE ?_ | with_reducible refine p_lenE ?_ | with_reducible refine p_setI ?_ | with_reducible refine p_dput ?_ | with_reducible refine p_for ?_ | with_reducible refine p_varE ?_ | with_reducible refine p_frzE ?_ | with_reducible refine p_movE ?_ | with_reducible refine p_c ?_ | with_reducible refine p_op ?_ | with_reducible refine p_un ?_ | with_reducible refine p_ar ?_ | with_reducible refine p_me ?_ | with_reducible refine p_ife ?_ | with_reducible refine p_nil ?_ | with_reducible refine p_cons ?_ | with_reducible refine p_call ?_ | with_reducible refine p_lc ?_ | with_reducible refine p_sl ?_ | with_reducible refine p_on ?_ | with_reducible refine p_os ?_ | with_reducible refine p_fis ?_ | with_reducible refine p_rng1 ?_ | with_reducible refine p_rng2 ?_ | with_reducible refine p_fia ?_ | with_reducible refine p_din ?_ | with_reducible refine p_newT ?_ | with_reducible refine p_newK ?_ | with_reducible refine p_test ?_ | with_reducible refine p_band ?_ | with_reducible refine p_bor ?_ | with_reducible refine p_bnot ?_ | with_reducible refine p_yes ?_ | with_reducible refine p_or ?_ | with_reducible refine p_and ?_ | with_reducible refine p_not ?_ | with_reducible refine bh_t ?_ | with_reducible refine bh_f ?_ | with_reducible refine bh_nt ?_ | with_reducible refine bh_nf ?_ | ((with_reducible refine bh_r ?_); refine Exists.intro _ (And.intro rfl ?_)) | ((with_reducible refine ex_id ?_); first | refine Exists.intro _ (And.intro rfl ?_) | refine Exists.intro _ (Exists.intro _ (And.intro rfl ?_))) | ((with_reducible refine and_id ?_); refine And.intro rfl ?_)))
    rcases blk_cases (cut := cut) (acc := blkL cut (ws.take i)) (q := (l, p)) with ⟨r, m, h1, h2⟩ | ⟨h1, h2⟩
    · -- the last one goes on
      refine bh_d (fun z => ?_) fun z => ?_
      · rw [h1] at z; simp at z
      · have b1 : ixB (.bor ((blkL cut (ws.take i)).map blkD)) (.imm (.int (-1))) = some (.imm (blkD (sideS cut p, m))) := by
          rw [q_ixB, h1, List.map_append, List.map_cons, List.map_nil, atI_last]; rfl
        have b2 : ixN ((blkL cut (ws.take i)).map blkD).length (-1) = some r.length := by
          rw [h1]; simp [ixN]; omega
        have hm := (k2 (sideS cut p, m) (by rw [h1]; simp)).1
        have b3 : addB (.imm (.tuple (enc m))) (.imm (.tuple [.tuple [.str l, .int p]])) = some (.imm (.tuple (enc m ++ [.tuple [.str l, .int p]]))) := by
          show (if (enc m).length + 1 ≤ 1000000 then _ else _) = _
          rw [if_pos (by rw [enc_len]; simp at hm; omega)]
        (repeat (first | with_reducible refine ⟨_, b1, ?_⟩ | with_reducible refine p_seq ?_ | with_reducible refine nx_nx ?_ | with_reducible refine nx_rt ?_ | with_reducible refine p_if ?_ | with_reducible refine p_asg ?_ | with_reducible refine p_par ?_ | with_reducible refine p_parN ?_ | with_reducible refine p_ret ?_ | with_reducible refine p_retN ?_ | with_reducible refine p_next ?_ | with_reducible refine p_brk ?_ | with_reducible refine p_cnt ?_ | with_reducible refine p_drop ?_ | with_reducible refine p_appE ?_ | with_reducible refine p_lenE ?_ | with_reducible refine p_setI ?_ | with_reducible refine p_dput ?_ | with_reducible refine p_for ?_ | with_reducible refine p_varE ?_ | with_reducible refine p_frzE ?_ | with_reducible refine p_movE ?_ | with_reducible refine p_c ?_ | with_reducible refine p_op ?_ | with_reducible refine p_un ?_ | with_reducible refine p_ar ?_ | with_reducible refine p_me ?_ | with_reducible refine p_ife ?_ | with_reducible refine p_nil ?_ | with_reducible refine p_cons ?_ | with_reducible refine p_call ?_ | with_reducible refine p_lc ?_ | with_reducible refine p_sl ?_ | with_reducible refine p_on ?_ | with_reducible refine p_os ?_ | with_reducible refine p_fis ?_ | with_reducible refine p_rng1 ?_ | with_reducible refine p_rng2 ?_ | with_reducible refine p_fia ?_ | with_reducible refine p_din ?_ | with_reducible refine p_newT ?_ | with_reducible refine p_newK ?_ | with_reducible refine p_test ?_ | with_reducible refine p_band ?_ | with_reducible refine p_bor ?_ | with_reducible refine p_bnot ?_ | with_reducible refine p_yes ?_ | with_reducible refine p_or ?_ | with_reducible refine p_and ?_ | with_reducible refine p_not ?_ | with_reducible refine bh_t ?_ | with_reducible refine bh_f ?_ | with_reducible refine bh_nt ?_ | with_reducible refine bh_nf ?_ | ((with_reducible refine bh_r ?_); refine Exists.intro _ (And.intro rfl ?_)) | ((with_reducible refine ex_id ?_); first | refine Exists.intro _ (And.intro rfl ?_) | refine Exists.intro _ (Exists.intro _ (And.intro rfl ?_))) | ((with_reducible refine and_id ?_); refine And.intro rfl ?_)))
        refine bh_n (bh_d (fun z => ?_) fun z => absurd rfl z)
        (repeat (first | with_reducible refine ⟨_, b1, ?_⟩ | with_reducible refine ⟨_, b3, ?_⟩ | with_reducible refine p_seq ?_ | with_reducible refine nx_nx ?_ | with_reducible refine nx_rt ?_ | with_reducible refine p_if ?_ | with_reducible refine p_asg ?_ | with_reducible refine p_par ?_ | with_reducible refine p_parN ?_ | with_reducible refine p_ret ?_ | with_reducible refine p_retN ?_ | with_reducible refine p_next ?_ | with_reducible refine p_brk ?_ | with_reducible refine p_cnt ?_ | with_reducible refine p_drop ?_ | with_reducible refine p_appE ?_ | with_reducible refine p_lenE ?_ | with_reducible refine p_setI ?_ | with_reducible refine p_dput ?_ | with_reducible refine p_for ?_ | with_reducible refine p_varE ?_ | with_reducible refine p_frzE ?_ | with_reducible refine p_movE ?_ | with_reducible refine p_c ?_ | with_reducible refine p_op ?_ | with_reducible refine p_un ?_ | with_reducible refine p_ar ?_ | with_reducible refine p_me ?_ | with_reducible refine p_ife ?_ | with_reducible refine p_nil ?_ | with_reducible refine p_cons ?_ | with_reducible refine p_call ?_ | with_reducible refine p_lc ?_ | with_reducible refine p_sl ?_ | with_reducible refine p_on ?_ | with_reducible refine p_os ?_ | with_reducible refine p_fis ?_ | with_reducible refine p_rng1 ?_ | with_reducible refine p_rng2 ?_ | with_reducible refine p_fia ?_ | with_reducible refine p_din ?_ | with_reducible refine p_newT ?_ | with_reducible refine p_newK ?_ | with_reducible refine p_test ?_ | with_reducible refine p_band ?_ | with_reducible refine p_bor ?_ | with_reducible refine p_bnot ?_ | with_reducible refine p_yes ?_ | with_reducible refine p_or ?_ | with_reducible refine p_and ?_ | with_reducible refine p_not ?_ | with_reducible refine bh_t ?_ | with_reducible refine bh_f ?_ | with_reducible refine bh_nt ?_ | with_reducible refine bh_nf ?_ | ((with_reducible refine bh_r ?_); refine Exists.intro _ (And.intro rfl ?_)) | ((with_reducible refine ex_id ?_); first | refine Exists.intro _ (And.intro rfl ?_) | refine Exists.intro _ (Exists.intro _ (And.intro rfl ?_))) | ((with_reducible refine and_id ?_); refine And.intro rfl ?_)))
        refine ⟨_, _, _, _, rfl, rfl, rfl, b2, rfl, .inl rfl, some (.imm (.str l)), some (.imm (.int p)), some (.imm (.str (sideS cut p))), ?_⟩
        rw [← fin _ h2.symm, h1]
        simp [enc, encP, blkD]
    · have b1 : ixB (.bor ((blkL cut (ws.take i)).map blkD ++ [PyData.tuple [.str (sideS cut p), .tuple []]])) (.imm (.int (-1))) = some (.imm (.tuple [.str (sideS cut p), .tuple []])) := by
        rw [q_ixB, atI_last]; rfl
      have b2 : ixN ((blkL cut (ws.take i)).map blkD ++ [PyData.tuple [.str (sideS cut p), .tuple []]]).length (-1) = some ((blkL cut (ws.take i)).map blkD).length := by
        simp [ixN]; omega
      have hlen : ((blkL cut (ws.take i)).map blkD).length < 1000000 := by rw [List.length_map]; omega
      have goal : ∀ (P : En → Prop), P [some (.imm (.tuple (enc ws))), some (.imm (.int cut)), some (.lst ((blkL cut (ws.take (i + 1))).map blkD)), some (.imm (.str l)), some (.imm (.int p)), some (.imm (.str (sideS cut p)))] →
          P [some (.imm (.tuple (enc ws))), some (.imm (.int cut)), some (.lst (((blkL cut (ws.take i)).map blkD ++ [PyData.tuple [.str (sideS cut p), .tuple []]]).set ((blkL cut (ws.take i)).map blkD).length (.tuple [.str (sideS cut p), .tuple [.tuple [.str l, .int p]]]))), some (.imm (.str l)), some (.imm (.int p)), some (.imm (.str (sideS cut p)))] := fun P q => by
        rw [← fin _ h2.symm] at q
        simpa [enc, encP, blkD] using q
      rcases h1 with h1 | ⟨r, s, m, h1, h3⟩
      · refine bh_d (fun z => ?_) fun z => absurd (by rw [h1]; rfl) z
        (repeat (first | with_reducible refine p_seq ?_ | with_reducible refine nx_nx ?_ | with_reducible refine nx_rt ?_ | with_reducible refine p_if ?_ | with_reducible refine p_asg ?_ | with_reducible refine p_par ?_ | with_reducible refine p_parN ?_ | with_reducible refine p_ret ?_ | with_reducible refine p_retN ?_ | with_reducible refine p_next ?_ | with_reducible refine p_brk ?_ | with_reducible refine p_cnt ?_ | with_reducible refine p_drop ?_ | with_reducible refine p_appE ?_ | with_reducible refine p_lenE ?_ | with_reducible refine p_setI ?_ | with_reducible refine p_dput ?_ | with_reducible refine p_for ?_ | with_reducible refine p_varE ?_ | with_reducible refine p_frzE ?_ | with_reducible refine p_movE ?_ | with_reducible refine p_c ?_ | with_reducible refine p_op ?_ | with_reducible refine p_un ?_ | with_reducible refine p_ar ?_ | with_reducible refine p_me ?_ | with_reducible refine p_ife ?_ | with_reducible refine p_nil ?_ | with_reducible refine p_cons ?_ | with_reducible refine p_call ?_ | with_reducible refine p_lc ?_ | with_reducible refine p_sl ?_ | with_reducible refine p_on ?_ | with_reducible refine p_os ?_ | with_reducible refine p_fis ?_ | with_reducible refine p_rng1 ?_ | with_reducible refine p_rng2 ?_ | with_reducible refine p_fia ?_ | with_reducible refine p_din ?_ | with_reducible refine p_newT ?_ | with_reducible refine p_newK ?_ | with_reducible refine p_test ?_ | with_reducible refine p_band ?_ | with_reducible refine p_bor ?_ | with_reducible refine p_bnot ?_ | with_reducible refine p_yes ?_ | with_reducible refine p_or ?_ | with_reducible refine p_and ?_ | with_reducible refine p_not ?_ | with_reducible refine bh_t ?_ | with_reducible refine bh_f ?_ | with_reducible refine bh_nt ?_ | with_reducible refine bh_nf ?_ | ((with_reducible refine bh_r ?_); refine Exists.intro _ (And.intro rfl ?_)) | ((with_reducible refine ex_id ?_); first | refine Exists.intro _ (And.intro rfl ?_) | refine Exists.intro _ (Exists.intro _ (And.intro rfl ?_))) | ((with_reducible refine and_id ?_); refine And.intro rfl ?_)))
        refine ⟨_, _, rfl, rfl, hlen, rfl, ?_⟩
        (repeat (first | with_reducible refine ⟨_, b1, ?_⟩ | with_reducible refine p_seq ?_ | with_reducible refine nx_nx ?_ | with_reducible refine nx_rt ?_ | with_reducible refine p_if ?_ | with_reducible refine p_asg ?_ | with_reducible refine p_par ?_ | with_reducible refine p_parN ?_ | with_reducible refine p_ret ?_ | with_reducible refine p_retN ?_ | with_reducible refine p_next ?_ | with_reducible refine p_brk ?_ | with_reducible refine p_cnt ?_ | with_reducible refine p_drop ?_ | with_reducible refine p_appE ?_ | with_reducible refine p_lenE ?_ | with_reducible refine p_setI ?_ | with_reducible refine p_dput ?_ | with_reducible refine p_for ?_ | with_reducible refine p_varE ?_ | with_reducible refine p_frzE ?_ | with_reducible refine p_movE ?_ | with_reducible refine p_c ?_ | with_reducible refine p_op ?_ | with_reducible refine p_un ?_ | with_reducible refine p_ar ?_ | with_reducible refine p_me ?_ | with_reducible refine p_ife ?_ | with_reducible refine p_nil ?_ | with_reducible refine p_cons ?_ | with_reducible refine p_call ?_ | with_reducible refine p_lc ?_ | with_reducible refine p_sl ?_ | with_reducible refine p_on ?_ | with_reducible refine p_os ?_ | with_reducible refine p_fis ?_ | with_reducible refine p_rng1 ?_ | with_reducible refine p_rng2 ?_ | with_reducible refine p_fia ?_ | with_reducible refine p_din ?_ | with_reducible refine p_newT ?_ | with_reducible refine p_newK ?_ | with_reducible refine p_test ?_ | with_reducible refine p_band ?_ | with_reducible refine p_bor ?_ | with_reducible refine p_bnot ?_ | with_reducible refine p_yes ?_ | with_reducible refine p_or ?_ | with_reducible refine p_and ?_ | with_reducible refine p_not ?_ | with_reducible refine bh_t ?_ | with_reducible refine bh_f ?_ | with_reducible refine bh_nt ?_ | with_reducible refine bh_nf ?_ | ((with_reducible refine bh_r ?_); refine Exists.intro _ (And.intro rfl ?_)) | ((with_reducible refine ex_id ?_); first | refine Exists.intro _ (And.intro rfl ?_) | refine Exists.intro _ (Exists.intro _ (And.intro rfl ?_))) | ((with_reducible refine and_id ?_); refine And.intro rfl ?_)))
        refine ⟨_, _, _, _, rfl, rfl, rfl, b2, rfl, .inl rfl, some (.imm (.str l)), some (.imm (.int p)), some (.imm (.str (sideS cut p))), ?_⟩
        exact goal (fun ρ => ρ = _) rfl
      · refine bh_d (fun z => ?_) fun z => ?_
        · rw [h1] at z; simp at z
        have b0 : ixB (.bor ((blkL cut (ws.take i)).map blkD)) (.imm (.int (-1))) = some (.imm (blkD (s, m))) := by
          rw [q_ixB, h1, List.map_append, List.map_cons, List.map_nil, atI_last]; rfl
        (repeat (first | with_reducible refine ⟨_, b0, ?_⟩ | with_reducible refine p_seq ?_ | with_reducible refine nx_nx ?_ | with_reducible refine nx_rt ?_ | with_reducible refine p_if ?_ | with_reducible refine p_asg ?_ | with_reducible refine p_par ?_ | with_reducible refine p_parN ?_ | with_reducible refine p_ret ?_ | with_reducible refine p_retN ?_ | with_reducible refine p_next ?_ | with_reducible refine p_brk ?_ | with_reducible refine p_cnt ?_ | with_reducible refine p_drop ?_ | with_reducible refine p_appE ?_ | with_reducible refine p_lenE ?_ | with_reducible refine p_setI ?_ | with_reducible refine p_dput ?_ | with_reducible refine p_for ?_ | with_reducible refine p_varE ?_ | with_reducible refine p_frzE ?_ | with_reducible refine p_movE ?_ | with_reducible refine p_c ?_ | with_reducible refine p_op ?_ | with_reducible refine p_un ?_ | with_reducible refine p_ar ?_ | with_reducible refine p_me ?_ | with_reducible refine p_ife ?_ | with_reducible refine p_nil ?_ | with_reducible refine p_cons ?_ | with_reducible refine p_call ?_ | with_reducible refine p_lc ?_ | with_reducible refine p_sl ?_ | with_reducible refine p_on ?_ | with_reducible refine p_os ?_ | with_reducible refine p_fis ?_ | with_reducible refine p_rng1 ?_ | with_reducible refine p_rng2 ?_ | with_reducible refine p_fia ?_ | with_reducible refine p_din ?_ | with_reducible refine p_newT ?_ | with_reducible refine p_newK ?_ | with_reducible refine p_test ?_ | with_reducible refine p_band ?_ | with_reducible refine p_bor ?_ | with_reducible refine p_bnot ?_ | with_reducible refine p_yes ?_ | with_reducible refine p_or ?_ | with_reducible refine p_and ?_ | with_reducible refine p_not ?_ | with_reducible refine bh_t ?_ | with_reducible refine bh_f ?_ | with_reducible refine bh_nt ?_ | with_reducible refine bh_nf ?_ | ((with_reducible refine bh_r ?_); refine Exists.intro _ (And.intro rfl ?_)) | ((with_reducible refine ex_id ?_); first | refine Exists.intro _ (And.intro rfl ?_) | refine Exists.intro _ (Exists.intro _ (And.intro rfl ?_))) | ((with_reducible refine and_id ?_); refine And.intro rfl ?_)))
        refine bh_n (bh_d (fun z => absurd z h3) fun z => ?_)
        (repeat (first | with_reducible refine p_seq ?_ | with_reducible refine nx_nx ?_ | with_reducible refine nx_rt ?_ | with_reducible refine p_if ?_ | with_reducible refine p_asg ?_ | with_reducible refine p_par ?_ | with_reducible refine p_parN ?_ | with_reducible refine p_ret ?_ | with_reducible refine p_retN ?_ | with_reducible refine p_next ?_ | with_reducible refine p_brk ?_ | with_reducible refine p_cnt ?_ | with_reducible refine p_drop ?_ | with_reducible refine p_appE ?_ | with_reducible refine p_lenE ?_ | with_reducible refine p_setI ?_ | with_reducible refine p_dput ?_ | with_reducible refine p_for ?_ | with_reducible refine p_varE ?_ | with_reducible refine p_frzE ?_ | with_reducible refine p_movE ?_ | with_reducible refine p_c ?_ | with_reducible refine p_op ?_ | with_reducible refine p_un ?_ | with_reducible refine p_ar ?_ | with_reducible refine p_me ?_ | with_reducible refine p_ife ?_ | with_reducible refine p_nil ?_ | with_reducible refine p_cons ?_ | with_reducible refine p_call ?_ | with_reducible refine p_lc ?_ | with_reducible refine p_sl ?_ | with_reducible refine p_on ?_ | with_reducible refine p_os ?_ | with_reducible refine p_fis ?_ | with_reducible refine p_rng1 ?_ | with_reducible refine p_rng2 ?_ | with_reducible refine p_fia ?_ | with_reducible refine p_din ?_ | with_reducible refine p_newT ?_ | with_reducible refine p_newK ?_ | with_reducible refine p_test ?_ | with_reducible refine p_band ?_ | with_reducible refine p_bor ?_ | with_reducible refine p_bnot ?_ | with_reducible refine p_yes ?_ | with_reducible refine p_or ?_ | with_reducible refine p_and ?_ | with_reducible refine p_not ?_ | with_reducible refine bh_t ?_ | with_reducible refine bh_f ?_ | with_reducible refine bh_nt ?_ | with_reducible refine bh_nf ?_ | ((with_reducible refine bh_r ?_); refine Exists.intro _ (And.intro rfl ?_)) | ((with_reducible refine ex_id ?_); first | refine Exists.intro _ (And.intro rfl ?_) | refine Exists.intro _ (Exists.intro _ (And.intro rfl ?_))) | ((with_reducible refine and_id ?_); refine And.intro rfl ?_)))
        refine ⟨_, _, rfl, rfl, hlen, rfl, ?_⟩
        (repeat (first | with_reducible refine ⟨_, b1, ?_⟩ | with_reducible refine p_seq ?_ | with_reducible refine nx_nx ?_ | with_reducible refine nx_rt ?_ | with_reducible refine p_if ?_ | with_reducible refine p_asg ?_ | with_reducible refine p_par ?_ | with_reducible refine p_parN ?_ | with_reducible refine p_ret ?_ | with_reducible refine p_retN ?_ | with_reducible refine p_next ?_ | with_reducible refine p_brk ?_ | with_reducible refine p_cnt ?_ | with_reducible refine p_drop ?_ | with_reducible refine p_appE ?_ | with_reducible refine p_lenE ?_ | with_reducible refine p_setI ?_ | with_reducible refine p_dput ?_ | with_reducible refine p_for ?_ | with_reducible refine p_varE ?_ | with_reducible refine p_frzE ?_ | with_reducible refine p_movE ?_ | with_reducible refine p_c ?_ | with_reducible refine p_op ?_ | with_reducible refine p_un ?_ | with_reducible refine p_ar ?_ | with_reducible refine p_me ?_ | with_reducible refine p_ife ?_ | with_reducible refine p_nil ?_ | with_reducible refine p_cons ?_ | with_reducible refine p_call ?_ | with_reducible refine p_lc ?_ | with_reducible refine p_sl ?_ | with_reducible refine p_on ?_ | with_reducible refine p_os ?_ | with_reducible refine p_fis ?_ | with_reducible refine p_rng1 ?_ | with_reducible refine p_rng2 ?_ | with_reducible refine p_fia ?_ | with_reducible refine p_din ?_ | with_reducible refine p_newT ?_ | with_reducible refine p_newK ?_ | with_reducible refine p_test ?_ | with_reducible refine p_band ?_ | with_reducible refine p_bor ?_ | with_reducible refine p_bnot ?_ | with_reducible refine p_yes ?_ | with_reducible refine p_or ?_ | with_reducible refine p_and ?_ | with_reducible refine p_not ?_ | with_reducible refine bh_t ?_ | with_reducible refine bh_f ?_ | with_reducible refine bh_nt ?_ | with_reducible refine bh_nf ?_ | ((with_reducible refine bh_r ?_); refine Exists.intro _ (And.intro rfl ?_)) | ((with_reducible refine ex_id ?_); first | refine Exists.intro _ (And.intro rfl ?_) | refine Exists.intro _ (Exists.intro _ (And.intro rfl ?_))) | ((with_reducible refine and_id ?_); refine And.intro rfl ?_)))
        refine ⟨_, _, _, _, rfl, rfl, rfl, b2, rfl, .inl rfl, some (.imm (.str l)), some (.imm (.int p)), some (.imm (.str (sideS cut p))), ?_⟩
        exact goal (fun ρ => ρ = _) rfl
  · rintro ρ S ⟨v3, v4, v5, rfl⟩
    (repeat (first | with_reducible refine p_seq ?_ | with_reducible refine nx_nx ?_ | with_reducible refine nx_rt ?_ | with_reducible refine p_if ?_ | with_reducible refine p_asg ?_ | with_reducible refine p_par ?_ | with_reducible refine p_parN ?_ | with_reducible refine p_ret ?_ | with_reducible refine p_retN ?_ | with_reducible refine p_next ?_ | with_reducible refine p_brk ?_ | with_reducible refine p_cnt ?_ | with_reducible refine p_drop ?_ | with_reducible refine p_appE ?_ | with_reducible refine p_lenE ?_ | with_reducible refine p_setI ?_ | with_reducible refine p_dput ?_ | with_reducible refine p_for ?_ | with_reducible refine p_varE ?_ | with_reducible refine p_frzE ?_ | with_reducible refine p_movE ?_ | with_reducible refine p_c ?_ | with_reducible refine p_op ?_ | with_reducible refine p_un ?_ | with_reducible refine p_ar ?_ | with_reducible refine p_me ?_ | with_reducible refine p_ife ?_ | with_reducible refine p_nil ?_ | with_reducible refine p_cons ?_ | with_reducible refine p_call ?_ | with_reducible refine p_lc ?_ | with_reducible refine p_sl ?_ | with_reducible refine p_on ?_ | with_reducible refine p_os ?_ | with_reducible refine p_fis ?_ | with_reducible refine p_rng1 ?_ | with_reducible refine p_rng2 ?_ | with_reducible refine p_fia ?_ | with_reducible refine p_din ?_ | with_reducible refine p_newT ?_ | with_reducible refine p_newK ?_ | with_reducible refine p_test ?_ | with_reducible refine p_band ?_ | with_reducible refine p_bor ?_ | with_reducible refine p_bnot ?_ | with_reducible refine p_yes ?_ | with_reducible refine p_or ?_ | with_reducible refine p_and ?_ | with_reducible refine p_not ?_ | with_reducible refine bh_t ?_ | with_reducible refine bh_f ?_ | with_reducible refine bh_nt ?_ | with_reducible refine bh_nf ?_ | ((with_reducible refine bh_r ?_); refine Exists.intro _ (And.intro rfl ?_)) | ((with_reducible refine ex_id ?_); first | refine Exists.intro _ (And.intro rfl ?_) | refine Exists.intro _ (Exists.intro _ (And.intro rfl ?_))) | ((with_reducible refine and_id ?_); refine And.intro rfl ?_)))
    rw [show (true, enc ws).2.length = ws.length from enc_len, List.take_length]
end Lw
set_option maxRecDepth 100000
set_option maxHeartbeats 1000000
namespace Lw
open PySem PySem.Spec PyProof.Rows L2 DL
/-! ### programs in sweeps -/
def Move (x : Str) : Prop := x = "right" ∨ x = "left" ∨ x = "halt"
def IsStep (ls : List Str) (count : Int) (ok : Str → Prop) (d : PyData) : Prop := ∃ w mv late, d = .tuple [w, .str mv, .int late] ∧ (w = .none ∨ ∃ l ∈ ls, w = .str l) ∧ Move mv ∧ ok mv ∧ 0 ≤ late ∧ late < count
def Rim (m j : Nat) (mv : Str) : Prop := (j = m → mv ≠ "left") ∧ (j = m + 1 → mv ≠ "right")
def Steps (ls : List Str) (m : Nat) (count : Int) (ds : List PyData) : Prop := ∀ j s, ds[j]? = some s → IsStep ls count (Rim m j) s
def IsRow (ls : List Str) (m : Nat) (count : Int) (d : PyData) : Prop := ∃ ds, d = .tuple ds ∧ ds.length = m + 2 ∧ Steps ls m count ds
def IsProg (ls : List Str) (m : Nat) (count : Int) (d : PyData) : Prop := ∃ rows, d = .tuple rows ∧ (rows.length : Int) = count ∧ ∀ r ∈ rows, IsRow ls m count r
structure SheetOk (as ls : List Str) : Prop where
  a0 : as ≠ []
  a2 : as.length ≤ 2
  l0 : ls ≠ []
  l2 : ls.length ≤ 2
  let_ : ∀ l ∈ ls, PyData.strOk l = true ∧ ¬ isLR l ∧ (reprText l).length ≤ 12
def sheetD (as ls : List Str) : PyData := T2 (.tuple (encS as)) (.tuple (encS ls))
theorem sheets_ok {d : PyData} (h : d ∈ sheets) : ∃ as ls, d = sheetD as ls ∧ SheetOk as ls := by
  have ok : ∀ l : Str, l ∈ (["a", "b", "x", "y"] : List Str) → PyData.strOk l = true ∧ ¬ isLR l ∧ (reprText l).length ≤ 12 := by decide +kernel
  simp only [sheets, List.mem_cons, List.not_mem_nil, or_false] at h
  rcases h with rfl | rfl | rfl | rfl
  · exact ⟨["a", "b"], ["x", "y"], rfl, by decide, by decide, by decide, by decide, fun l hl => ok l (by revert l; decide +kernel)⟩
  · exact ⟨["a"], ["x"], rfl, by decide, by decide, by decide, by decide, fun l hl => ok l (by revert l; decide +kernel)⟩
  · exact ⟨["a", "b"], ["a", "b"], rfl, by decide, by decide, by decide, by decide, fun l hl => ok l (by revert l; decide +kernel)⟩
  · exact ⟨["a", "b"], ["x"], rfl, by decide, by decide, by decide, by decide, fun l hl => ok l (by revert l; decide +kernel)⟩
theorem mul_ok {x y : Int} (h : -(2 ^ 64) < y ∧ y < 2 ^ 64) : mulB (.imm (.int x)) (.imm (.int y)) = some (.imm (.int (x * y))) := by
  show (if (-(2 ^ 64) < x ∧ x < 2 ^ 64) ∨ (-(2 ^ 64) < y ∧ y < 2 ^ 64) then some (Bd.imm (.int (x * y))) else none) = _
  rw [if_pos (.inr h)]
theorem fdiv_ok {x y : Int} (h : y ≠ 0 ∧ y.natAbs < 1073741824) : fdivB (.imm (.int x)) (.imm (.int y)) = some (.imm (.int (x.fdiv y))) := by
  show (Option.map Bd.imm (if y ≠ 0 ∧ y.natAbs < 1073741824 then some (PyData.int (x.fdiv y)) else none)) = _
  rw [if_pos h]
  rfl
theorem catL_ok {xs ys : List PyData} (h : xs.length + ys.length ≤ 1000000) : addB (.lst xs) (.lst ys) = some (.lst (xs ++ ys)) := by
  show (if xs.length + ys.length ≤ 1000000 then some (Bd.lst (xs ++ ys)) else none) = _
  rw [if_pos h]
theorem catT_ok {xs ys : List PyData} (h : xs.length + ys.length ≤ 1000000) : addB (.imm (.tuple xs)) (.imm (.tuple ys)) = some (.imm (.tuple (xs ++ ys))) := by
  show (if xs.length + ys.length ≤ 1000000 then some (Bd.imm (.tuple (xs ++ ys))) else none) = _
  rw [if_pos h]
theorem lr3_ok {i j : Int} (h0 : 0 ≤ i) (h1 : i < j) (h2 : j ≤ 5) : ∃ ds, lr3B [.imm (.int i), .imm (.int j), .imm (.int 2)] = some (.lst ds) ∧ ds ≠ [] ∧ ds.length ≤ 5 ∧ ∀ d ∈ ds, ∃ z, d = .int z ∧ 0 ≤ z ∧ z < j := by
  have e : Builtin.Range.rangeSize i j 2 = (j - i - 1) / 2 + 1 := by
    unfold Builtin.Range.rangeSize
    rw [if_pos (by decide), if_pos h1]
  have hs : Builtin.Range.small i j 2 = true := by
    unfold Builtin.Range.small
    rw [e]
    simp only [Builtin.Range.rangeFitsLong, Bool.and_eq_true, Bool.or_eq_true, decide_eq_true_eq, beq_iff_eq, show (2 : Int) > 0 by decide, if_true]
    omega
  have hg : rg3 i j 2 = some ((j - i - 1) / 2 + 1).toNat := by
    unfold rg3
    rw [e, if_pos ⟨by decide, by decide, hs, by omega, by omega⟩]
  refine ⟨rangeCD i 2 ((j - i - 1) / 2 + 1).toNat, ?_, ?_, ?_, fun d hd => ?_⟩
  · show (DL.ints3 _).bind _ = _
    rw [show DL.ints3 [.imm (.int i), .imm (.int j), .imm (.int 2)] = some (i, j, 2) from rfl, Option.bind_some, hg]
    rfl
  · intro z
    have : (rangeCD i 2 ((j - i - 1) / 2 + 1).toNat).length = 0 := by rw [z]; rfl
    simp [rangeCD] at this
    omega
  · simp [rangeCD]; omega
  · obtain ⟨m, hm, rfl⟩ := List.mem_map.mp hd
    rw [List.mem_range] at hm
    exact ⟨_, rfl, by omega, by omega⟩
theorem lr2_ok {i j : Int} (h0 : -1000 ≤ i ∧ i ≤ 1000) (h1 : -1000 ≤ j ∧ j ≤ 1000) : lr2B (.imm (.int i)) (.imm (.int j)) = some (.lst (rangeD i (j - i).toNat)) := by
  show (if rgOk i j = true then some (Bd.lst (rangeD i (j - i).toNat)) else none) = _
  rw [if_pos (by unfold rgOk; rw [decide_eq_true_eq]; omega)]
theorem step_noL {ls : List Str} {count : Int} {ok : Str → Prop} {d : PyData} (h : IsStep ls count ok d) : noL d = true := by
  obtain ⟨w, mv, late, rfl, hw, _⟩ := h
  rcases hw with rfl | ⟨l, _, rfl⟩ <;> rfl
theorem some_mem {ls : List Str} {d : PyData} (h : d ∈ PyData.none :: encS ls) : (d = .none ∨ ∃ l ∈ ls, d = .str l) ∧ noL d = true := by
  rcases List.mem_cons.mp h with rfl | h
  · exact ⟨.inl rfl, rfl⟩
  · obtain ⟨l, hl, rfl⟩ := List.mem_map.mp h
    exact ⟨.inr ⟨l, hl, rfl⟩, rfl⟩
theorem side_mod {i : Int} (h : 0 ≤ i) : i - i.fdiv 2 * 2 = i % 2 := by
  rw [Int.fdiv_eq_ediv_of_nonneg _ (by decide)]
  omega
theorem steps_snoc {ls : List Str} {m : Nat} {count : Int} {ds : List PyData} {s : PyData} (h : Steps ls m count ds) (hs : IsStep ls count (Rim m ds.length) s) : Steps ls m count (ds ++ [s]) := fun j x e => by
  by_cases hj : j < ds.length
  · rw [List.getElem?_append_left hj] at e; exact h j x e
  · rw [List.getElem?_append_right (by omega)] at e
    have : j = ds.length := by
      have := (List.getElem?_eq_some_iff.mp e).1
      simp at this
      omega
    subst this
    simp at e
    subst e
    exact hs
theorem rl : ("right" : Str) ≠ "left" := by decide +kernel
theorem hl1 : ("halt" : Str) ≠ "left" := by decide +kernel
theorem hr1 : ("halt" : Str) ≠ "right" := by decide +kernel
theorem nbE_cons {v : Option Bd} {r : En} (h : nbE [v] = true) (h2 : nbE r = true) : nbE (v :: r) = true := by
  cases v with
  | none => exact h2
  | some b => cases b <;> first | exact h2 | cases h
theorem p_ifi {i j l : Nat} {r : Bool} {a b : Int} {ρ : En} {S : Src} {Q : Bd → En → Src → Prop} (e1 : ρ[i]? = some (some (.imm (.bool r)))) (e2 : ρ[j]? = some (some (.imm (.int a)))) (e3 : ρ[l]? = some (some (.imm (.int b)))) (h : Q (.imm (.int (if r = true then a else b))) ρ S) :
    (fIf (fTest (fVar i)) (fVar j) (fVar l) ρ S).Post Q := by
  refine p_ife (p_test (p_var e1 rfl ⟨_, rfl, ?_⟩))
  cases r with
  | true => exact p_var e2 rfl h
  | false => exact p_var e3 rfl h
/-- what the sweeps' loop keeps -/
def SweepJ (as ls : List Str) (count : Int) (round : Bool) (i : Nat) (ρ : En) : Prop := ∃ rows v7 v8 v9 v10 v11 v12 v13 v15, ρ = [some .src, some (.imm (sheetD as ls)), some (.imm (.int (as.length : Nat))), some (.imm (.int count)), some (.lst rows), some (.lst (.none :: encS ls)), some (.imm (.bool round)), v7, v8, v9, v10, v11, v12, v13, none, v15, none] ∧
  rows.length = i ∧ (∀ r ∈ rows, IsRow ls as.length count r) ∧ nbE [v11] = true ∧ nbE [v12] = true ∧ nbE [v13] = true ∧ nbE [v7, v8, v9, v10, v15] = true
theorem sweep_row {as ls : List Str} (ok : SheetOk as ls) {count : Int} {round : Bool} (hc : count ≤ 5) {i : Nat} {ρ : En} {S : Src} (hi : (i : Int) < count) (hJ : SweepJ as ls count round i ρ) : ∃ ρ1, sName 7 (.imm (.int (0 + (i : Nat)))) ρ = some ρ1 ∧ (l__law_sweeps_2 ρ1 S).Post fun fl ρ2 _ => (fl = .nx ∨ fl = .ct) ∧ SweepJ as ls count round (i + 1) ρ2 := by
  obtain ⟨rows, v7, v8, v9, v10, v11, v12, v13, v15, rfl, hn, hr, n11, n12, n13, _⟩ := hJ
  have ha0 : 1 ≤ as.length := List.length_pos_iff.mpr ok.a0
  have hl0 : 1 ≤ ls.length := List.length_pos_iff.mpr ok.l0
  have ha2 := ok.a2
  have hl2 := ok.l2
  have sm : 0 + (i : Int) - (0 + (i : Int)).fdiv 2 * 2 = (0 + (i : Int)) % 2 := side_mod (by omega)
  obtain ⟨mv, b9, hmv⟩ : ∃ mv : Str, ixB (.lst [.str "right", .str "left"]) (.imm (.int (0 + (i : Int) - (0 + (i : Int)).fdiv 2 * 2))) = some (.imm (.str mv)) ∧ (mv = "right" ∨ mv = "left") := by
    rw [sm]
    rcases Int.emod_two_eq (0 + (i : Int)) with h | h
    · rw [h]; exact ⟨_, rfl, .inl rfl⟩
    · rw [h]; exact ⟨_, rfl, .inr rfl⟩
  have hsd : 0 ≤ 0 + (i : Int) - (0 + (i : Int)).fdiv 2 * 2 ∧ 0 + (i : Int) - (0 + (i : Int)).fdiv 2 * 2 ≤ 0 + (i : Int) := by rw [sm]; omega
  obtain ⟨like, b10, like0, like5, likeR⟩ : ∃ ds, lr3B [.imm (.int (if round = true then 0 + (i : Int) - (0 + (i : Int)).fdiv 2 * 2 else 0 + (i : Int))), .imm (.int count), .imm (.int 2)] = some (.lst ds) ∧ ds ≠ [] ∧ ds.length ≤ 5 ∧ ∀ d ∈ ds, ∃ z, d = .int z ∧ 0 ≤ z ∧ z < count := by
    refine lr3_ok ?_ ?_ hc
    · split <;> omega
    · split <;> omega
  have b12 : lr2B (.imm (.int (0 + (i : Int) + 1))) (.imm (.int count)) = some (.lst (rangeD (0 + (i : Int) + 1) (count - (0 + (i : Int) + 1)).toNat)) := lr2_ok (by omega) (by omega)
  have c12 : addB (.lst (rangeD (0 + (i : Int) + 1) (count - (0 + (i : Int) + 1)).toNat)) (.lst [.none]) = some (.lst (rangeD (0 + (i : Int) + 1) (count - (0 + (i : Int) + 1)).toNat ++ [.none])) := catL_ok (by rw [rangeD_len]; simp; omega)
  have someL : ∀ d ∈ PyData.none :: encS ls, noL d = true := fun d hd => (some_mem hd).2
  have someN : (PyData.none :: encS ls).length ≤ 1000 := by rw [List.length_cons, encS_len]; omega
  have f1 : fdivB (.imm (.int (0 + (i : Int)))) (.imm (.int 2)) = some (.imm (.int ((0 + (i : Int)).fdiv 2))) := fdiv_ok (by decide)
  have f2 : mulB (.imm (.int ((0 + (i : Int)).fdiv 2))) (.imm (.int 2)) = some (.imm (.int ((0 + (i : Int)).fdiv 2 * 2))) := mul_ok (by decide)
  refine ⟨_, rfl, ?_⟩
  (repeat (first | with_reducible refine ⟨_, f1, ?_⟩ | with_reducible refine ⟨_, f2, ?_⟩ | with_reducible refine ⟨_, b9, ?_⟩ | ((with_reducible refine if_id ?_); refine p_ifi rfl rfl rfl ?_) | with_reducible refine ⟨_, b10, ?_⟩ | with_reducible refine p_seq ?_ | with_reducible refine nx_nx ?_ | with_reducible refine nx_rt ?_ | with_reducible refine p_if ?_ | with_reducible refine p_asg ?_ | with_reducible refine p_par ?_ | with_reducible refine p_parN ?_ | with_reducible refine p_ret ?_ | with_reducible refine p_retN ?_ | with_reducible refine p_next ?_ | with_reducible refine p_brk ?_ | with_reducible refine p_cnt ?_ | with_reducible refine p_drop ?_ | with_reducible refine p_appE ?_ | with_reducible refine p_lenE ?_ | with_reducible refine p_setI ?_ | with_reducible refine p_dput ?_ | with_reducible refine p_for ?_ | with_reducible refine p_varE ?_ | with_reducible refine p_frzE ?_ | with_reducible refine p_movE ?_ | with_reducible refine p_c ?_ | with_reducible refine p_op ?_ | with_reducible refine p_un ?_ | with_reducible refine p_ar ?_ | with_reducible refine p_me ?_ | with_reducible refine p_ife ?_ | with_reducible refine p_nil ?_ | with_reducible refine p_cons ?_ | with_reducible refine p_call ?_ | with_reducible refine p_lc ?_ | with_reducible refine p_sl ?_ | with_reducible refine p_on ?_ | with_reducible refine p_os ?_ | with_reducible refine p_fis ?_ | with_reducible refine p_rng1 ?_ | with_reducible refine p_rng2 ?_ | with_reducible refine p_fia ?_ | with_reducible refine p_din ?_ | with_reducible refine p_newT ?_ | with_reducible refine p_newK ?_ | with_reducible refine p_test ?_ | with_reducible refine p_band ?_ | with_reducible refine p_bor ?_ | with_reducible refine p_bnot ?_ | with_reducible refine p_yes ?_ | with_reducible refine p_or ?_ | with_reducible refine p_and ?_ | with_reducible refine p_not ?_ | with_reducible refine bh_t ?_ | with_reducible refine bh_f ?_ | with_reducible refine bh_nt ?_ | with_reducible refine bh_nf ?_ | ((with_reducible refine bh_r ?_); refine Exists.intro _ (And.intro rfl ?_)) | ((with_reducible refine ex_id ?_); first | refine Exists.intro _ (And.intro rfl ?_) | refine Exists.intro _ (Exists.intro _ (And.intro rfl ?_))) | ((with_reducible refine and_id ?_); refine And.intro rfl ?_)))
  refine ⟨by omega, ?_⟩
  refine p_lcS (fun j acc ρ => j ≤ as.length ∧ ∃ w15, acc.length = j ∧ (∀ s ∈ acc, IsStep ls count (fun _ => True) s) ∧ ρ = [some .src, some (.imm (sheetD as ls)), some (.imm (.int (as.length : Nat))), some (.imm (.int count)), some (.lst rows), some (.lst (.none :: encS ls)), some (.imm (.bool round)), some (.imm (.int (0 + (i : Nat)))), some (.imm (.int (0 + (i : Int) - (0 + (i : Int)).fdiv 2 * 2))), some (.imm (.str mv)), some (.lst like), v11, v12, v13, none, w15, none]) ⟨by omega, _, rfl, (fun s h => by cases h), rfl⟩ ?_ ?_
  · rintro j d acc ρ S hd ⟨hj, w15, ha, hs, rfl⟩
    obtain ⟨hj1, rfl⟩ := rangeD_get hd
    refine ⟨_, rfl, ?_⟩
    (repeat (first | with_reducible refine p_seq ?_ | with_reducible refine nx_nx ?_ | with_reducible refine nx_rt ?_ | with_reducible refine p_if ?_ | with_reducible refine p_asg ?_ | with_reducible refine p_par ?_ | with_reducible refine p_parN ?_ | with_reducible refine p_ret ?_ | with_reducible refine p_retN ?_ | with_reducible refine p_next ?_ | with_reducible refine p_brk ?_ | with_reducible refine p_cnt ?_ | with_reducible refine p_drop ?_ | with_reducible refine p_appE ?_ | with_reducible refine p_lenE ?_ | with_reducible refine p_setI ?_ | with_reducible refine p_dput ?_ | with_reducible refine p_for ?_ | with_reducible refine p_varE ?_ | with_reducible refine p_frzE ?_ | with_reducible refine p_movE ?_ | with_reducible refine p_c ?_ | with_reducible refine p_op ?_ | with_reducible refine p_un ?_ | with_reducible refine p_ar ?_ | with_reducible refine p_me ?_ | with_reducible refine p_ife ?_ | with_reducible refine p_nil ?_ | with_reducible refine p_cons ?_ | with_reducible refine p_call ?_ | with_reducible refine p_lc ?_ | with_reducible refine p_sl ?_ | with_reducible refine p_on ?_ | with_reducible refine p_os ?_ | with_reducible refine p_fis ?_ | with_reducible refine p_rng1 ?_ | with_reducible refine p_rng2 ?_ | with_reducible refine p_fia ?_ | with_reducible refine p_din ?_ | with_reducible refine p_newT ?_ | with_reducible refine p_newK ?_ | with_reducible refine p_test ?_ | with_reducible refine p_band ?_ | with_reducible refine p_bor ?_ | with_reducible refine p_bnot ?_ | with_reducible refine p_yes ?_ | with_reducible refine p_or ?_ | with_reducible refine p_and ?_ | with_reducible refine p_not ?_ | with_reducible refine bh_t ?_ | with_reducible refine bh_f ?_ | with_reducible refine bh_nt ?_ | with_reducible refine bh_nf ?_ | ((with_reducible refine bh_r ?_); refine Exists.intro _ (And.intro rfl ?_)) | ((with_reducible refine ex_id ?_); first | refine Exists.intro _ (And.intro rfl ?_) | refine Exists.intro _ (Exists.intro _ (And.intro rfl ?_))) | ((with_reducible refine and_id ?_); refine And.intro rfl ?_)))
    refine cp_of rfl (.inr rfl) (by simp) someN (.inr someL) fun d1 S1 h1 => ?_
    (repeat (first | with_reducible refine p_seq ?_ | with_reducible refine nx_nx ?_ | with_reducible refine nx_rt ?_ | with_reducible refine p_if ?_ | with_reducible refine p_asg ?_ | with_reducible refine p_par ?_ | with_reducible refine p_parN ?_ | with_reducible refine p_ret ?_ | with_reducible refine p_retN ?_ | with_reducible refine p_next ?_ | with_reducible refine p_brk ?_ | with_reducible refine p_cnt ?_ | with_reducible refine p_drop ?_ | with_reducible refine p_appE ?_ | with_reducible refine p_lenE ?_ | with_reducible refine p_setI ?_ | with_reducible refine p_dput ?_ | with_reducible refine p_for ?_ | with_reducible refine p_varE ?_ | with_reducible refine p_frzE ?_ | with_reducible refine p_movE ?_ | with_reducible refine p_c ?_ | with_reducible refine p_op ?_ | with_reducible refine p_un ?_ | with_reducible refine p_ar ?_ | with_reducible refine p_me ?_ | with_reducible refine p_ife ?_ | with_reducible refine p_nil ?_ | with_reducible refine p_cons ?_ | with_reducible refine p_call ?_ | with_reducible refine p_lc ?_ | with_reducible refine p_sl ?_ | with_reducible refine p_on ?_ | with_reducible refine p_os ?_ | with_reducible refine p_fis ?_ | with_reducible refine p_rng1 ?_ | with_reducible refine p_rng2 ?_ | with_reducible refine p_fia ?_ | with_reducible refine p_din ?_ | with_reducible refine p_newT ?_ | with_reducible refine p_newK ?_ | with_reducible refine p_test ?_ | with_reducible refine p_band ?_ | with_reducible refine p_bor ?_ | with_reducible refine p_bnot ?_ | with_reducible refine p_yes ?_ | with_reducible refine p_or ?_ | with_reducible refine p_and ?_ | with_reducible refine p_not ?_ | with_reducible refine bh_t ?_ | with_reducible refine bh_f ?_ | with_reducible refine bh_nt ?_ | with_reducible refine bh_nf ?_ | ((with_reducible refine bh_r ?_); refine Exists.intro _ (And.intro rfl ?_)) | ((with_reducible refine ex_id ?_); first | refine Exists.intro _ (And.intro rfl ?_) | refine Exists.intro _ (Exists.intro _ (And.intro rfl ?_))) | ((with_reducible refine and_id ?_); refine And.intro rfl ?_)))
    refine cp_of rfl (.inr rfl) like0 (by omega) (.inr fun d hd => by obtain ⟨z, rfl, _⟩ := likeR d hd; rfl) fun d2 S2 h2 => ?_
    obtain ⟨z, rfl, z0, z1⟩ := likeR d2 h2
    (repeat (first | with_reducible refine p_seq ?_ | with_reducible refine nx_nx ?_ | with_reducible refine nx_rt ?_ | with_reducible refine p_if ?_ | with_reducible refine p_asg ?_ | with_reducible refine p_par ?_ | with_reducible refine p_parN ?_ | with_reducible refine p_ret ?_ | with_reducible refine p_retN ?_ | with_reducible refine p_next ?_ | with_reducible refine p_brk ?_ | with_reducible refine p_cnt ?_ | with_reducible refine p_drop ?_ | with_reducible refine p_appE ?_ | with_reducible refine p_lenE ?_ | with_reducible refine p_setI ?_ | with_reducible refine p_dput ?_ | with_reducible refine p_for ?_ | with_reducible refine p_varE ?_ | with_reducible refine p_frzE ?_ | with_reducible refine p_movE ?_ | with_reducible refine p_c ?_ | with_reducible refine p_op ?_ | with_reducible refine p_un ?_ | with_reducible refine p_ar ?_ | with_reducible refine p_me ?_ | with_reducible refine p_ife ?_ | with_reducible refine p_nil ?_ | with_reducible refine p_cons ?_ | with_reducible refine p_call ?_ | with_reducible refine p_lc ?_ | with_reducible refine p_sl ?_ | with_reducible refine p_on ?_ | with_reducible refine p_os ?_ | with_reducible refine p_fis ?_ | with_reducible refine p_rng1 ?_ | with_reducible refine p_rng2 ?_ | with_reducible refine p_fia ?_ | with_reducible refine p_din ?_ | with_reducible refine p_newT ?_ | with_reducible refine p_newK ?_ | with_reducible refine p_test ?_ | with_reducible refine p_band ?_ | with_reducible refine p_bor ?_ | with_reducible refine p_bnot ?_ | with_reducible refine p_yes ?_ | with_reducible refine p_or ?_ | with_reducible refine p_and ?_ | with_reducible refine p_not ?_ | with_reducible refine bh_t ?_ | with_reducible refine bh_f ?_ | with_reducible refine bh_nt ?_ | with_reducible refine bh_nf ?_ | ((with_reducible refine bh_r ?_); refine Exists.intro _ (And.intro rfl ?_)) | ((with_reducible refine ex_id ?_); first | refine Exists.intro _ (And.intro rfl ?_) | refine Exists.intro _ (Exists.intro _ (And.intro rfl ?_))) | ((with_reducible refine and_id ?_); refine And.intro rfl ?_)))
    refine ⟨?_, by omega, by omega, _, by simp [ha], fun s hs' => ?_, rfl⟩
    · exact nbE_cons rfl (nbE_cons rfl (nbE_cons rfl (nbE_cons rfl (nbE_cons rfl (nbE_cons rfl (nbE_cons rfl (nbE_cons rfl (nbE_cons rfl (nbE_cons rfl (nbE_cons rfl (nbE_cons n11 (nbE_cons n12 (nbE_cons n13 rfl)))))))))))))
    · rw [List.mem_append, List.mem_singleton] at hs'
      rcases hs' with hs' | rfl
      · exact hs s hs'
      · exact ⟨d1, mv, z, rfl, (some_mem h1).1, hmv.elim .inl fun h => .inr (.inl h), trivial, z0, z1⟩
  rintro acc ρ S ⟨_, w15, ha, hs, rfl⟩
  have hal : acc.length = as.length := by rw [ha]; show (rangeD 0 _).length = _; rw [rangeD_len]; omega
  (repeat (first | with_reducible refine ⟨_, b12, ?_⟩ | with_reducible refine ⟨_, c12, ?_⟩ | with_reducible refine p_seq ?_ | with_reducible refine nx_nx ?_ | with_reducible refine nx_rt ?_ | with_reducible refine p_if ?_ | with_reducible refine p_asg ?_ | with_reducible refine p_par ?_ | with_reducible refine p_parN ?_ | with_reducible refine p_ret ?_ | with_reducible refine p_retN ?_ | with_reducible refine p_next ?_ | with_reducible refine p_brk ?_ | with_reducible refine p_cnt ?_ | with_reducible refine p_drop ?_ | with_reducible refine p_appE ?_ | with_reducible refine p_lenE ?_ | with_reducible refine p_setI ?_ | with_reducible refine p_dput ?_ | with_reducible refine p_for ?_ | with_reducible refine p_varE ?_ | with_reducible refine p_frzE ?_ | with_reducible refine p_movE ?_ | with_reducible refine p_c ?_ | with_reducible refine p_op ?_ | with_reducible refine p_un ?_ | with_reducible refine p_ar ?_ | with_reducible refine p_me ?_ | with_reducible refine p_ife ?_ | with_reducible refine p_nil ?_ | with_reducible refine p_cons ?_ | with_reducible refine p_call ?_ | with_reducible refine p_lc ?_ | with_reducible refine p_sl ?_ | with_reducible refine p_on ?_ | with_reducible refine p_os ?_ | with_reducible refine p_fis ?_ | with_reducible refine p_rng1 ?_ | with_reducible refine p_rng2 ?_ | with_reducible refine p_fia ?_ | with_reducible refine p_din ?_ | with_reducible refine p_newT ?_ | with_reducible refine p_newK ?_ | with_reducible refine p_test ?_ | with_reducible refine p_band ?_ | with_reducible refine p_bor ?_ | with_reducible refine p_bnot ?_ | with_reducible refine p_yes ?_ | with_reducible refine p_or ?_ | with_reducible refine p_and ?_ | with_reducible refine p_not ?_ | with_reducible refine bh_t ?_ | with_reducible refine bh_f ?_ | with_reducible refine bh_nt ?_ | with_reducible refine bh_nf ?_ | ((with_reducible refine bh_r ?_); refine Exists.intro _ (And.intro rfl ?_)) | ((with_reducible refine ex_id ?_); first | refine Exists.intro _ (And.intro rfl ?_) | refine Exists.intro _ (Exists.intro _ (And.intro rfl ?_))) | ((with_reducible refine and_id ?_); refine And.intro rfl ?_)))
  refine cp_of (ds := rangeD (0 + (i : Int) + 1) (count - (0 + (i : Int) + 1)).toNat ++ [.none]) rfl (.inr rfl) (by simp) (by rw [List.length_append, rangeD_len]; simp; omega) (.inr fun d hd => by
    rw [List.mem_append] at hd
    rcases hd with hd | hd
    · obtain ⟨z, _, rfl⟩ := List.mem_map.mp hd; rfl
    · simp at hd; subst hd; rfl) fun late S1 h1 => ?_
  have hlate : late = .none ∨ ∃ z, late = .int z ∧ 0 ≤ z ∧ z < count := by
    rw [List.mem_append] at h1
    rcases h1 with h1 | h1
    · obtain ⟨z, hz, rfl⟩ := List.mem_map.mp h1
      rw [List.mem_range] at hz
      exact .inr ⟨_, rfl, by omega, by omega⟩
    · simp at h1; exact .inl h1
  (repeat (first | with_reducible refine p_seq ?_ | with_reducible refine nx_nx ?_ | with_reducible refine nx_rt ?_ | with_reducible refine p_if ?_ | with_reducible refine p_asg ?_ | with_reducible refine p_par ?_ | with_reducible refine p_parN ?_ | with_reducible refine p_ret ?_ | with_reducible refine p_retN ?_ | with_reducible refine p_next ?_ | with_reducible refine p_brk ?_ | with_reducible refine p_cnt ?_ | with_reducible refine p_drop ?_ | with_reducible refine p_appE ?_ | with_reducible refine p_lenE ?_ | with_reducible refine p_setI ?_ | with_reducible refine p_dput ?_ | with_reducible refine p_for ?_ | with_reducible refine p_varE ?_ | with_reducible refine p_frzE ?_ | with_reducible refine p_movE ?_ | with_reducible refine p_c ?_ | with_reducible refine p_op ?_ | with_reducible refine p_un ?_ | with_reducible refine p_ar ?_ | with_reducible refine p_me ?_ | with_reducible refine p_ife ?_ | with_reducible refine p_nil ?_ | with_reducible refine p_cons ?_ | with_reducible refine p_call ?_ | with_reducible refine p_lc ?_ | with_reducible refine p_sl ?_ | with_reducible refine p_on ?_ | with_reducible refine p_os ?_ | with_reducible refine p_fis ?_ | with_reducible refine p_rng1 ?_ | with_reducible refine p_rng2 ?_ | with_reducible refine p_fia ?_ | with_reducible refine p_din ?_ | with_reducible refine p_newT ?_ | with_reducible refine p_newK ?_ | with_reducible refine p_test ?_ | with_reducible refine p_band ?_ | with_reducible refine p_bor ?_ | with_reducible refine p_bnot ?_ | with_reducible refine p_yes ?_ | with_reducible refine p_or ?_ | with_reducible refine p_and ?_ | with_reducible refine p_not ?_ | with_reducible refine bh_t ?_ | with_reducible refine bh_f ?_ | with_reducible refine bh_nt ?_ | with_reducible refine bh_nf ?_ | ((with_reducible refine bh_r ?_); refine Exists.intro _ (And.intro rfl ?_)) | ((with_reducible refine ex_id ?_); first | refine Exists.intro _ (And.intro rfl ?_) | refine Exists.intro _ (Exists.intro _ (And.intro rfl ?_))) | ((with_reducible refine and_id ?_); refine And.intro rfl ?_)))
  refine p_forS (fun j ρ => ∃ steps w13, steps.length = as.length + j ∧ Steps ls as.length count steps ∧ nbE [w13] = true ∧ ρ = [some .src, some (.imm (sheetD as ls)), some (.imm (.int (as.length : Nat))), some (.imm (.int count)), some (.lst rows), some (.lst (.none :: encS ls)), some (.imm (.bool round)), some (.imm (.int (0 + (i : Nat)))), some (.imm (.int (0 + (i : Int) - (0 + (i : Int)).fdiv 2 * 2))), some (.imm (.str mv)), some (.lst like), some (.lst steps), some (.imm late), w13, none, none, none]) ⟨acc, v13, by rw [hal]; rfl, fun j x e => ?_, n13, rfl⟩ ?_ ?_
  · obtain ⟨w, m', l', e1, e2, e3, e4, e5, e6⟩ := hs x (List.mem_of_getElem? e)
    have hj := (List.getElem?_eq_some_iff.mp e).1
    exact ⟨w, m', l', e1, e2, e3, ⟨fun z => by omega, fun z => by omega⟩, e5, e6⟩
  · rintro j d ρ S hd ⟨steps, w13, hl, hst, nw, rfl⟩
    have hL : steps.length < 1000000 := by
      have hd : ([PyData.str "right", PyData.str "left"] : List PyData)[j]? = some d := hd
      have := (List.getElem?_eq_some_iff.mp hd).1
      simp at this
      omega
    obtain ⟨bk, rfl, hbk, hjm⟩ : ∃ bk : Str, d = .str bk ∧ Move bk ∧ Rim as.length (as.length + j) bk := by
      have hd : ([PyData.str "right", PyData.str "left"] : List PyData)[j]? = some d := hd
      match j, hd with
      | 0, hd => exact ⟨_, (Option.some.inj hd).symm, .inl rfl, fun _ => rl, fun z => by omega⟩
      | 1, hd => exact ⟨_, (Option.some.inj hd).symm, .inr (.inl rfl), fun z => by omega, fun _ => Ne.symm rl⟩
      | j + 2, hd => simp at hd
    have nx : ∀ (s : PyData), IsStep ls count (Rim as.length (as.length + j)) s → (steps ++ [s]).length = as.length + (j + 1) ∧ Steps ls as.length count (steps ++ [s]) := fun s h => ⟨by simp [hl]; omega, steps_snoc hst (by rw [hl]; exact h)⟩
    refine ⟨_, rfl, ?_⟩
    (repeat (first | with_reducible refine p_seq ?_ | with_reducible refine nx_nx ?_ | with_reducible refine nx_rt ?_ | with_reducible refine p_if ?_ | with_reducible refine p_asg ?_ | with_reducible refine p_par ?_ | with_reducible refine p_parN ?_ | with_reducible refine p_ret ?_ | with_reducible refine p_retN ?_ | with_reducible refine p_next ?_ | with_reducible refine p_brk ?_ | with_reducible refine p_cnt ?_ | with_reducible refine p_drop ?_ | with_reducible refine p_appE ?_ | with_reducible refine p_lenE ?_ | with_reducible refine p_setI ?_ | with_reducible refine p_dput ?_ | with_reducible refine p_for ?_ | with_reducible refine p_varE ?_ | with_reducible refine p_frzE ?_ | with_reducible refine p_movE ?_ | with_reducible refine p_c ?_ | with_reducible refine p_op ?_ | with_reducible refine p_un ?_ | with_reducible refine p_ar ?_ | with_reducible refine p_me ?_ | with_reducible refine p_ife ?_ | with_reducible refine p_nil ?_ | with_reducible refine p_cons ?_ | with_reducible refine p_call ?_ | with_reducible refine p_lc ?_ | with_reducible refine p_sl ?_ | with_reducible refine p_on ?_ | with_reducible refine p_os ?_ | with_reducible refine p_fis ?_ | with_reducible refine p_rng1 ?_ | with_reducible refine p_rng2 ?_ | with_reducible refine p_fia ?_ | with_reducible refine p_din ?_ | with_reducible refine p_newT ?_ | with_reducible refine p_newK ?_ | with_reducible refine p_test ?_ | with_reducible refine p_band ?_ | with_reducible refine p_bor ?_ | with_reducible refine p_bnot ?_ | with_reducible refine p_yes ?_ | with_reducible refine p_or ?_ | with_reducible refine p_and ?_ | with_reducible refine p_not ?_ | with_reducible refine bh_t ?_ | with_reducible refine bh_f ?_ | with_reducible refine bh_nt ?_ | with_reducible refine bh_nf ?_ | ((with_reducible refine bh_r ?_); refine Exists.intro _ (And.intro rfl ?_)) | ((with_reducible refine ex_id ?_); first | refine Exists.intro _ (And.intro rfl ?_) | refine Exists.intro _ (Exists.intro _ (And.intro rfl ?_))) | ((with_reducible refine and_id ?_); refine And.intro rfl ?_)))
    refine bh_d (fun z => ?_) fun z => ?_
    · (repeat (first | with_reducible refine p_seq ?_ | with_reducible refine nx_nx ?_ | with_reducible refine nx_rt ?_ | with_reducible refine p_if ?_ | with_reducible refine p_asg ?_ | with_reducible refine p_par ?_ | with_reducible refine p_parN ?_ | with_reducible refine p_ret ?_ | with_reducible refine p_retN ?_ | with_reducible refine p_next ?_ | with_reducible refine p_brk ?_ | with_reducible refine p_cnt ?_ | with_reducible refine p_drop ?_ | with_reducible refine p_appE ?_ | with_reducible refine p_lenE ?_ | with_reducible refine p_setI ?_ | with_reducible refine p_dput ?_ | with_reducible refine p_for ?_ | with_reducible refine p_varE ?_ | with_reducible refine p_frzE ?_ | with_reducible refine p_movE ?_ | with_reducible refine p_c ?_ | with_reducible refine p_op ?_ | with_reducible refine p_un ?_ | with_reducible refine p_ar ?_ | with_reducible refine p_me ?_ | with_reducible refine p_ife ?_ | with_reducible refine p_nil ?_ | with_reducible refine p_cons ?_ | with_reducible refine p_call ?_ | with_reducible refine p_lc ?_ | with_reducible refine p_sl ?_ | with_reducible refine p_on ?_ | with_reducible refine p_os ?_ | with_reducible refine p_fis ?_ | with_reducible refine p_rng1 ?_ | with_reducible refine p_rng2 ?_ | with_reducible refine p_fia ?_ | with_reducible refine p_din ?_ | with_reducible refine p_newT ?_ | with_reducible refine p_newK ?_ | with_reducible refine p_test ?_ | with_reducible refine p_band ?_ | with_reducible refine p_bor ?_ | with_reducible refine p_bnot ?_ | with_reducible refine p_yes ?_ | with_reducible refine p_or ?_ | with_reducible refine p_and ?_ | with_reducible refine p_not ?_ | with_reducible refine bh_t ?_ | with_reducible refine bh_f ?_ | with_reducible refine bh_nt ?_ | with_reducible refine bh_nf ?_ | ((with_reducible refine bh_r ?_); refine Exists.intro _ (And.intro rfl ?_)) | ((with_reducible refine ex_id ?_); first | refine Exists.intro _ (And.intro rfl ?_) | refine Exists.intro _ (Exists.intro _ (And.intro rfl ?_))) | ((with_reducible refine and_id ?_); refine And.intro rfl ?_)))
      refine cp_of rfl (.inr rfl) (by simp) someN (.inr someL) fun d1 S1 h1 => ?_
      (repeat (first | with_reducible refine p_seq ?_ | with_reducible refine nx_nx ?_ | with_reducible refine nx_rt ?_ | with_reducible refine p_if ?_ | with_reducible refine p_asg ?_ | with_reducible refine p_par ?_ | with_reducible refine p_parN ?_ | with_reducible refine p_ret ?_ | with_reducible refine p_retN ?_ | with_reducible refine p_next ?_ | with_reducible refine p_brk ?_ | with_reducible refine p_cnt ?_ | with_reducible refine p_drop ?_ | with_reducible refine p_appE ?_ | with_reducible refine p_lenE ?_ | with_reducible refine p_setI ?_ | with_reducible refine p_dput ?_ | with_reducible refine p_for ?_ | with_reducible refine p_varE ?_ | with_reducible refine p_frzE ?_ | with_reducible refine p_movE ?_ | with_reducible refine p_c ?_ | with_reducible refine p_op ?_ | with_reducible refine p_un ?_ | with_reducible refine p_ar ?_ | with_reducible refine p_me ?_ | with_reducible refine p_ife ?_ | with_reducible refine p_nil ?_ | with_reducible refine p_cons ?_ | with_reducible refine p_call ?_ | with_reducible refine p_lc ?_ | with_reducible refine p_sl ?_ | with_reducible refine p_on ?_ | with_reducible refine p_os ?_ | with_reducible refine p_fis ?_ | with_reducible refine p_rng1 ?_ | with_reducible refine p_rng2 ?_ | with_reducible refine p_fia ?_ | with_reducible refine p_din ?_ | with_reducible refine p_newT ?_ | with_reducible refine p_newK ?_ | with_reducible refine p_test ?_ | with_reducible refine p_band ?_ | with_reducible refine p_bor ?_ | with_reducible refine p_bnot ?_ | with_reducible refine p_yes ?_ | with_reducible refine p_or ?_ | with_reducible refine p_and ?_ | with_reducible refine p_not ?_ | with_reducible refine bh_t ?_ | with_reducible refine bh_f ?_ | with_reducible refine bh_nt ?_ | with_reducible refine bh_nf ?_ | ((with_reducible refine bh_r ?_); refine Exists.intro _ (And.intro rfl ?_)) | ((with_reducible refine ex_id ?_); first | refine Exists.intro _ (And.intro rfl ?_) | refine Exists.intro _ (Exists.intro _ (And.intro rfl ?_))) | ((with_reducible refine and_id ?_); refine And.intro rfl ?_)))
      refine ⟨_, _, rfl, rfl, hL, rfl, .inl rfl, _, _, (nx _ ⟨d1, bk, 0 + (i : Int), rfl, (some_mem h1).1, hbk, hjm, by omega, by omega⟩).1, (nx _ ⟨d1, bk, 0 + (i : Int), rfl, (some_mem h1).1, hbk, hjm, by omega, by omega⟩).2, rfl, rfl⟩
    · rcases hlate with rfl | ⟨z2, rfl, z0, z1⟩
      · (repeat (first | with_reducible refine p_seq ?_ | with_reducible refine nx_nx ?_ | with_reducible refine nx_rt ?_ | with_reducible refine p_if ?_ | with_reducible refine p_asg ?_ | with_reducible refine p_par ?_ | with_reducible refine p_parN ?_ | with_reducible refine p_ret ?_ | with_reducible refine p_retN ?_ | with_reducible refine p_next ?_ | with_reducible refine p_brk ?_ | with_reducible refine p_cnt ?_ | with_reducible refine p_drop ?_ | with_reducible refine p_appE ?_ | with_reducible refine p_lenE ?_ | with_reducible refine p_setI ?_ | with_reducible refine p_dput ?_ | with_reducible refine p_for ?_ | with_reducible refine p_varE ?_ | with_reducible refine p_frzE ?_ | with_reducible refine p_movE ?_ | with_reducible refine p_c ?_ | with_reducible refine p_op ?_ | with_reducible refine p_un ?_ | with_reducible refine p_ar ?_ | with_reducible refine p_me ?_ | with_reducible refine p_ife ?_ | with_reducible refine p_nil ?_ | with_reducible refine p_cons ?_ | with_reducible refine p_call ?_ | with_reducible refine p_lc ?_ | with_reducible refine p_sl ?_ | with_reducible refine p_on ?_ | with_reducible refine p_os ?_ | with_reducible refine p_fis ?_ | with_reducible refine p_rng1 ?_ | with_reducible refine p_rng2 ?_ | with_reducible refine p_fia ?_ | with_reducible refine p_din ?_ | with_reducible refine p_newT ?_ | with_reducible refine p_newK ?_ | with_reducible refine p_test ?_ | with_reducible refine p_band ?_ | with_reducible refine p_bor ?_ | with_reducible refine p_bnot ?_ | with_reducible refine p_yes ?_ | with_reducible refine p_or ?_ | with_reducible refine p_and ?_ | with_reducible refine p_not ?_ | with_reducible refine bh_t ?_ | with_reducible refine bh_f ?_ | with_reducible refine bh_nt ?_ | with_reducible refine bh_nf ?_ | ((with_reducible refine bh_r ?_); refine Exists.intro _ (And.intro rfl ?_)) | ((with_reducible refine ex_id ?_); first | refine Exists.intro _ (And.intro rfl ?_) | refine Exists.intro _ (Exists.intro _ (And.intro rfl ?_))) | ((with_reducible refine and_id ?_); refine And.intro rfl ?_)))
        refine cp_of rfl (.inr rfl) (by simp) someN (.inr someL) fun d1 S1 h1 => ?_
        (repeat (first | with_reducible refine p_seq ?_ | with_reducible refine nx_nx ?_ | with_reducible refine nx_rt ?_ | with_reducible refine p_if ?_ | with_reducible refine p_asg ?_ | with_reducible refine p_par ?_ | with_reducible refine p_parN ?_ | with_reducible refine p_ret ?_ | with_reducible refine p_retN ?_ | with_reducible refine p_next ?_ | with_reducible refine p_brk ?_ | with_reducible refine p_cnt ?_ | with_reducible refine p_drop ?_ | with_reducible refine p_appE ?_ | with_reducible refine p_lenE ?_ | with_reducible refine p_setI ?_ | with_reducible refine p_dput ?_ | with_reducible refine p_for ?_ | with_reducible refine p_varE ?_ | with_reducible refine p_frzE ?_ | with_reducible refine p_movE ?_ | with_reducible refine p_c ?_ | with_reducible refine p_op ?_ | with_reducible refine p_un ?_ | with_reducible refine p_ar ?_ | with_reducible refine p_me ?_ | with_reducible refine p_ife ?_ | with_reducible refine p_nil ?_ | with_reducible refine p_cons ?_ | with_reducible refine p_call ?_ | with_reducible refine p_lc ?_ | with_reducible refine p_sl ?_ | with_reducible refine p_on ?_ | with_reducible refine p_os ?_ | with_reducible refine p_fis ?_ | with_reducible refine p_rng1 ?_ | with_reducible refine p_rng2 ?_ | with_reducible refine p_fia ?_ | with_reducible refine p_din ?_ | with_reducible refine p_newT ?_ | with_reducible refine p_newK ?_ | with_reducible refine p_test ?_ | with_reducible refine p_band ?_ | with_reducible refine p_bor ?_ | with_reducible refine p_bnot ?_ | with_reducible refine p_yes ?_ | with_reducible refine p_or ?_ | with_reducible refine p_and ?_ | with_reducible refine p_not ?_ | with_reducible refine bh_t ?_ | with_reducible refine bh_f ?_ | with_reducible refine bh_nt ?_ | with_reducible refine bh_nf ?_ | ((with_reducible refine bh_r ?_); refine Exists.intro _ (And.intro rfl ?_)) | ((with_reducible refine ex_id ?_); first | refine Exists.intro _ (And.intro rfl ?_) | refine Exists.intro _ (Exists.intro _ (And.intro rfl ?_))) | ((with_reducible refine and_id ?_); refine And.intro rfl ?_)))
        have st : IsStep ls count (Rim as.length (as.length + j)) (.tuple [d1, .str "halt", .int 0]) := ⟨d1, "halt", 0, rfl, (some_mem h1).1, .inr (.inr rfl), ⟨fun _ => hl1, fun _ => hr1⟩, by omega, by omega⟩
        exact ⟨_, _, rfl, rfl, hL, rfl, .inl rfl, _, _, (nx _ st).1, (nx _ st).2, rfl, rfl⟩
      · have g1 : fdivB (.imm (.int z2)) (.imm (.int 2)) = some (.imm (.int (z2.fdiv 2))) := fdiv_ok (by decide)
        have g2 : mulB (.imm (.int (z2.fdiv 2))) (.imm (.int 2)) = some (.imm (.int (z2.fdiv 2 * 2))) := mul_ok (by decide)
        (repeat (first | with_reducible refine ⟨_, g1, ?_⟩ | with_reducible refine ⟨_, g2, ?_⟩ | with_reducible refine p_seq ?_ | with_reducible refine nx_nx ?_ | with_reducible refine nx_rt ?_ | with_reducible refine p_if ?_ | with_reducible refine p_asg ?_ | with_reducible refine p_par ?_ | with_reducible refine p_parN ?_ | with_reducible refine p_ret ?_ | with_reducible refine p_retN ?_ | with_reducible refine p_next ?_ | with_reducible refine p_brk ?_ | with_reducible refine p_cnt ?_ | with_reducible refine p_drop ?_ | with_reducible refine p_appE ?_ | with_reducible refine p_lenE ?_ | with_reducible refine p_setI ?_ | with_reducible refine p_dput ?_ | with_reducible refine p_for ?_ | with_reducible refine p_varE ?_ | with_reducible refine p_frzE ?_ | with_reducible refine p_movE ?_ | with_reducible refine p_c ?_ | with_reducible refine p_op ?_ | with_reducible refine p_un ?_ | with_reducible refine p_ar ?_ | with_reducible refine p_me ?_ | with_reducible refine p_ife ?_ | with_reducible refine p_nil ?_ | with_reducible refine p_cons ?_ | with_reducible refine p_call ?_ | with_reducible refine p_lc ?_ | with_reducible refine p_sl ?_ | with_reducible refine p_on ?_ | with_reducible refine p_os ?_ | with_reducible refine p_fis ?_ | with_reducible refine p_rng1 ?_ | with_reducible refine p_rng2 ?_ | with_reducible refine p_fia ?_ | with_reducible refine p_din ?_ | with_reducible refine p_newT ?_ | with_reducible refine p_newK ?_ | with_reducible refine p_test ?_ | with_reducible refine p_band ?_ | with_reducible refine p_bor ?_ | with_reducible refine p_bnot ?_ | with_reducible refine p_yes ?_ | with_reducible refine p_or ?_ | with_reducible refine p_and ?_ | with_reducible refine p_not ?_ | with_reducible refine bh_t ?_ | with_reducible refine bh_f ?_ | with_reducible refine bh_nt ?_ | with_reducible refine bh_nf ?_ | ((with_reducible refine bh_r ?_); refine Exists.intro _ (And.intro rfl ?_)) | ((with_reducible refine ex_id ?_); first | refine Exists.intro _ (And.intro rfl ?_) | refine Exists.intro _ (Exists.intro _ (And.intro rfl ?_))) | ((with_reducible refine and_id ?_); refine And.intro rfl ?_)))
        refine bh_d (fun z3 => ?_) fun z3 => ?_
        · (repeat (first | with_reducible refine p_seq ?_ | with_reducible refine nx_nx ?_ | with_reducible refine nx_rt ?_ | with_reducible refine p_if ?_ | with_reducible refine p_asg ?_ | with_reducible refine p_par ?_ | with_reducible refine p_parN ?_ | with_reducible refine p_ret ?_ | with_reducible refine p_retN ?_ | with_reducible refine p_next ?_ | with_reducible refine p_brk ?_ | with_reducible refine p_cnt ?_ | with_reducible refine p_drop ?_ | with_reducible refine p_appE ?_ | with_reducible refine p_lenE ?_ | with_reducible refine p_setI ?_ | with_reducible refine p_dput ?_ | with_reducible refine p_for ?_ | with_reducible refine p_varE ?_ | with_reducible refine p_frzE ?_ | with_reducible refine p_movE ?_ | with_reducible refine p_c ?_ | with_reducible refine p_op ?_ | with_reducible refine p_un ?_ | with_reducible refine p_ar ?_ | with_reducible refine p_me ?_ | with_reducible refine p_ife ?_ | with_reducible refine p_nil ?_ | with_reducible refine p_cons ?_ | with_reducible refine p_call ?_ | with_reducible refine p_lc ?_ | with_reducible refine p_sl ?_ | with_reducible refine p_on ?_ | with_reducible refine p_os ?_ | with_reducible refine p_fis ?_ | with_reducible refine p_rng1 ?_ | with_reducible refine p_rng2 ?_ | with_reducible refine p_fia ?_ | with_reducible refine p_din ?_ | with_reducible refine p_newT ?_ | with_reducible refine p_newK ?_ | with_reducible refine p_test ?_ | with_reducible refine p_band ?_ | with_reducible refine p_bor ?_ | with_reducible refine p_bnot ?_ | with_reducible refine p_yes ?_ | with_reducible refine p_or ?_ | with_reducible refine p_and ?_ | with_reducible refine p_not ?_ | with_reducible refine bh_t ?_ | with_reducible refine bh_f ?_ | with_reducible refine bh_nt ?_ | with_reducible refine bh_nf ?_ | ((with_reducible refine bh_r ?_); refine Exists.intro _ (And.intro rfl ?_)) | ((with_reducible refine ex_id ?_); first | refine Exists.intro _ (And.intro rfl ?_) | refine Exists.intro _ (Exists.intro _ (And.intro rfl ?_))) | ((with_reducible refine and_id ?_); refine And.intro rfl ?_)))
          refine cp_of rfl (.inr rfl) (by simp) someN (.inr someL) fun d1 S1 h1 => ?_
          (repeat (first | with_reducible refine p_seq ?_ | with_reducible refine nx_nx ?_ | with_reducible refine nx_rt ?_ | with_reducible refine p_if ?_ | with_reducible refine p_asg ?_ | with_reducible refine p_par ?_ | with_reducible refine p_parN ?_ | with_reducible refine p_ret ?_ | with_reducible refine p_retN ?_ | with_reducible refine p_next ?_ | with_reducible refine p_brk ?_ | with_reducible refine p_cnt ?_ | with_reducible refine p_drop ?_ | with_reducible refine p_appE ?_ | with_reducible refine p_lenE ?_ | with_reducible refine p_setI ?_ | with_reducible refine p_dput ?_ | with_reducible refine p_for ?_ | with_reducible refine p_varE ?_ | with_reducible refine p_frzE ?_ | with_reducible refine p_movE ?_ | with_reducible refine p_c ?_ | with_reducible refine p_op ?_ | with_reducible refine p_un ?_ | with_reducible refine p_ar ?_ | with_reducible refine p_me ?_ | with_reducible refine p_ife ?_ | with_reducible refine p_nil ?_ | with_reducible refine p_cons ?_ | with_reducible refine p_call ?_ | with_reducible refine p_lc ?_ | with_reducible refine p_sl ?_ | with_reducible refine p_on ?_ | with_reducible refine p_os ?_ | with_reducible refine p_fis ?_ | with_reducible refine p_rng1 ?_ | with_reducible refine p_rng2 ?_ | with_reducible refine p_fia ?_ | with_reducible refine p_din ?_ | with_reducible refine p_newT ?_ | with_reducible refine p_newK ?_ | with_reducible refine p_test ?_ | with_reducible refine p_band ?_ | with_reducible refine p_bor ?_ | with_reducible refine p_bnot ?_ | with_reducible refine p_yes ?_ | with_reducible refine p_or ?_ | with_reducible refine p_and ?_ | with_reducible refine p_not ?_ | with_reducible refine bh_t ?_ | with_reducible refine bh_f ?_ | with_reducible refine bh_nt ?_ | with_reducible refine bh_nf ?_ | ((with_reducible refine bh_r ?_); refine Exists.intro _ (And.intro rfl ?_)) | ((with_reducible refine ex_id ?_); first | refine Exists.intro _ (And.intro rfl ?_) | refine Exists.intro _ (Exists.intro _ (And.intro rfl ?_))) | ((with_reducible refine and_id ?_); refine And.intro rfl ?_)))
          have st : IsStep ls count (Rim as.length (as.length + j)) (.tuple [d1, .str "halt", .int 0]) := ⟨d1, "halt", 0, rfl, (some_mem h1).1, .inr (.inr rfl), ⟨fun _ => hl1, fun _ => hr1⟩, by omega, by omega⟩
          exact ⟨_, _, rfl, rfl, hL, rfl, .inl rfl, _, _, (nx _ st).1, (nx _ st).2, rfl, rfl⟩
        · (repeat (first | with_reducible refine p_seq ?_ | with_reducible refine nx_nx ?_ | with_reducible refine nx_rt ?_ | with_reducible refine p_if ?_ | with_reducible refine p_asg ?_ | with_reducible refine p_par ?_ | with_reducible refine p_parN ?_ | with_reducible refine p_ret ?_ | with_reducible refine p_retN ?_ | with_reducible refine p_next ?_ | with_reducible refine p_brk ?_ | with_reducible refine p_cnt ?_ | with_reducible refine p_drop ?_ | with_reducible refine p_appE ?_ | with_reducible refine p_lenE ?_ | with_reducible refine p_setI ?_ | with_reducible refine p_dput ?_ | with_reducible refine p_for ?_ | with_reducible refine p_varE ?_ | with_reducible refine p_frzE ?_ | with_reducible refine p_movE ?_ | with_reducible refine p_c ?_ | with_reducible refine p_op ?_ | with_reducible refine p_un ?_ | with_reducible refine p_ar ?_ | with_reducible refine p_me ?_ | with_reducible refine p_ife ?_ | with_reducible refine p_nil ?_ | with_reducible refine p_cons ?_ | with_reducible refine p_call ?_ | with_reducible refine p_lc ?_ | with_reducible refine p_sl ?_ | with_reducible refine p_on ?_ | with_reducible refine p_os ?_ | with_reducible refine p_fis ?_ | with_reducible refine p_rng1 ?_ | with_reducible refine p_rng2 ?_ | with_reducible refine p_fia ?_ | with_reducible refine p_din ?_ | with_reducible refine p_newT ?_ | with_reducible refine p_newK ?_ | with_reducible refine p_test ?_ | with_reducible refine p_band ?_ | with_reducible refine p_bor ?_ | with_reducible refine p_bnot ?_ | with_reducible refine p_yes ?_ | with_reducible refine p_or ?_ | with_reducible refine p_and ?_ | with_reducible refine p_not ?_ | with_reducible refine bh_t ?_ | with_reducible refine bh_f ?_ | with_reducible refine bh_nt ?_ | with_reducible refine bh_nf ?_ | ((with_reducible refine bh_r ?_); refine Exists.intro _ (And.intro rfl ?_)) | ((with_reducible refine ex_id ?_); first | refine Exists.intro _ (And.intro rfl ?_) | refine Exists.intro _ (Exists.intro _ (And.intro rfl ?_))) | ((with_reducible refine and_id ?_); refine And.intro rfl ?_)))
          refine cp_of rfl (.inr rfl) (by simp) someN (.inr someL) fun d1 S1 h1 => ?_
          (repeat (first | with_reducible refine p_seq ?_ | with_reducible refine nx_nx ?_ | with_reducible refine nx_rt ?_ | with_reducible refine p_if ?_ | with_reducible refine p_asg ?_ | with_reducible refine p_par ?_ | with_reducible refine p_parN ?_ | with_reducible refine p_ret ?_ | with_reducible refine p_retN ?_ | with_reducible refine p_next ?_ | with_reducible refine p_brk ?_ | with_reducible refine p_cnt ?_ | with_reducible refine p_drop ?_ | with_reducible refine p_appE ?_ | with_reducible refine p_lenE ?_ | with_reducible refine p_setI ?_ | with_reducible refine p_dput ?_ | with_reducible refine p_for ?_ | with_reducible refine p_varE ?_ | with_reducible refine p_frzE ?_ | with_reducible refine p_movE ?_ | with_reducible refine p_c ?_ | with_reducible refine p_op ?_ | with_reducible refine p_un ?_ | with_reducible refine p_ar ?_ | with_reducible refine p_me ?_ | with_reducible refine p_ife ?_ | with_reducible refine p_nil ?_ | with_reducible refine p_cons ?_ | with_reducible refine p_call ?_ | with_reducible refine p_lc ?_ | with_reducible refine p_sl ?_ | with_reducible refine p_on ?_ | with_reducible refine p_os ?_ | with_reducible refine p_fis ?_ | with_reducible refine p_rng1 ?_ | with_reducible refine p_rng2 ?_ | with_reducible refine p_fia ?_ | with_reducible refine p_din ?_ | with_reducible refine p_newT ?_ | with_reducible refine p_newK ?_ | with_reducible refine p_test ?_ | with_reducible refine p_band ?_ | with_reducible refine p_bor ?_ | with_reducible refine p_bnot ?_ | with_reducible refine p_yes ?_ | with_reducible refine p_or ?_ | with_reducible refine p_and ?_ | with_reducible refine p_not ?_ | with_reducible refine bh_t ?_ | with_reducible refine bh_f ?_ | with_reducible refine bh_nt ?_ | with_reducible refine bh_nf ?_ | ((with_reducible refine bh_r ?_); refine Exists.intro _ (And.intro rfl ?_)) | ((with_reducible refine ex_id ?_); first | refine Exists.intro _ (And.intro rfl ?_) | refine Exists.intro _ (Exists.intro _ (And.intro rfl ?_))) | ((with_reducible refine and_id ?_); refine And.intro rfl ?_)))
          have st : IsStep ls count (Rim as.length (as.length + j)) (.tuple [d1, .str bk, .int z2]) := ⟨d1, bk, z2, rfl, (some_mem h1).1, hbk, hjm, z0, z1⟩
          exact ⟨_, _, rfl, rfl, hL, rfl, .inl rfl, _, _, (nx _ st).1, (nx _ st).2, rfl, rfl⟩
  · rintro ρ S ⟨steps, w13, hl, hst, nw, rfl⟩
    (repeat (first | with_reducible refine p_seq ?_ | with_reducible refine nx_nx ?_ | with_reducible refine nx_rt ?_ | with_reducible refine p_if ?_ | with_reducible refine p_asg ?_ | with_reducible refine p_par ?_ | with_reducible refine p_parN ?_ | with_reducible refine p_ret ?_ | with_reducible refine p_retN ?_ | with_reducible refine p_next ?_ | with_reducible refine p_brk ?_ | with_reducible refine p_cnt ?_ | with_reducible refine p_drop ?_ | with_reducible refine p_appE ?_ | with_reducible refine p_lenE ?_ | with_reducible refine p_setI ?_ | with_reducible refine p_dput ?_ | with_reducible refine p_for ?_ | with_reducible refine p_varE ?_ | with_reducible refine p_frzE ?_ | with_reducible refine p_movE ?_ | with_reducible refine p_c ?_ | with_reducible refine p_op ?_ | with_reducible refine p_un ?_ | with_reducible refine p_ar ?_ | with_reducible refine p_me ?_ | with_reducible refine p_ife ?_ | with_reducible refine p_nil ?_ | with_reducible refine p_cons ?_ | with_reducible refine p_call ?_ | with_reducible refine p_lc ?_ | with_reducible refine p_sl ?_ | with_reducible refine p_on ?_ | with_reducible refine p_os ?_ | with_reducible refine p_fis ?_ | with_reducible refine p_rng1 ?_ | with_reducible refine p_rng2 ?_ | with_reducible refine p_fia ?_ | with_reducible refine p_din ?_ | with_reducible refine p_newT ?_ | with_reducible refine p_newK ?_ | with_reducible refine p_test ?_ | with_reducible refine p_band ?_ | with_reducible refine p_bor ?_ | with_reducible refine p_bnot ?_ | with_reducible refine p_yes ?_ | with_reducible refine p_or ?_ | with_reducible refine p_and ?_ | with_reducible refine p_not ?_ | with_reducible refine bh_t ?_ | with_reducible refine bh_f ?_ | with_reducible refine bh_nt ?_ | with_reducible refine bh_nf ?_ | ((with_reducible refine bh_r ?_); refine Exists.intro _ (And.intro rfl ?_)) | ((with_reducible refine ex_id ?_); first | refine Exists.intro _ (And.intro rfl ?_) | refine Exists.intro _ (Exists.intro _ (And.intro rfl ?_))) | ((with_reducible refine and_id ?_); refine And.intro rfl ?_)))
    refine ⟨_, _, rfl, rfl, by omega, ?_, .inl rfl, rows ++ [.tuple steps], _, _, _, _, _, _, _, _, rfl, by simp [hn], fun r hr' => ?_, rfl, rfl, nw, rfl⟩
    · exact nbE_cons rfl (nbE_cons rfl (nbE_cons rfl (nbE_cons rfl (nbE_cons rfl (nbE_cons rfl (nbE_cons rfl (nbE_cons rfl (nbE_cons rfl (nbE_cons rfl (nbE_cons rfl (nbE_cons rfl (nbE_cons rfl (nbE_cons nw rfl)))))))))))))
    · rw [List.mem_append, List.mem_singleton] at hr'
      rcases hr' with hr' | rfl
      · exact hr r hr'
      · exact ⟨steps, rfl, hl, hst⟩
end Lw
set_option maxRecDepth 100000
set_option maxHeartbeats 1000000
namespace Lw
open PySem PySem.Spec PyProof.Rows L2 DL
theorem cutA {α : Type} {xs : List α} {k : Nat} (h : k ≤ xs.length) : cutG xs none (some (k : Int)) = xs.take k := by
  unfold cutG
  rw [HT.sIx_none, HT.sIx_nat, List.drop_zero, Nat.sub_zero, Nat.min_eq_left h]
theorem cutB {α : Type} {xs : List α} {k : Nat} (h : k ≤ xs.length) : cutG xs (some (k : Int)) none = xs.drop k := by
  unfold cutG
  rw [HT.sIx_nat, HT.sIx_none, Nat.min_eq_left h, List.take_of_length_le (by simp)]
theorem set_cut {α : Type} {xs : List α} {k : Nat} {x : α} (h : k < xs.length) : xs.take k ++ [x] ++ xs.drop (k + 1) = xs.set k x := by
  rw [List.set_eq_take_append_cons_drop, if_pos h, List.append_assoc]
  rfl
theorem steps_set {ls : List Str} {m : Nat} {count : Int} {ds : List PyData} {s : PyData} {k : Nat} (h : Steps ls m count ds) (hk : k < m) (hs : IsStep ls count (fun _ => True) s) : Steps ls m count (ds.set k s) := fun j x e => by
  by_cases hj : k = j
  · subst hj
    have hl : k < ds.length := by have := (List.getElem?_eq_some_iff.mp e).1; simpa using this
    rw [List.getElem?_set_self hl] at e
    cases e
    obtain ⟨w, mv, l, e1, e2, e3, _, e5, e6⟩ := hs
    exact ⟨w, mv, l, e1, e2, e3, ⟨fun z => by omega, fun z => by omega⟩, e5, e6⟩
  · rw [List.getElem?_set_ne hj] at e
    exact h j x e
theorem ixN_nat {n j : Nat} (h : j < n) : ixN n (j : Int) = some j := by
  unfold ixN
  rw [if_pos (by omega), if_pos (by omega)]
  rfl
theorem nb1 {ρ : En} {v : Option Bd} (h : nbE ρ = true) (hv : v ∈ ρ) : nbE [v] = true := by
  cases v with
  | none => rfl
  | some b => have := nbE_nb h b hv; simp only [nbE, this]; rfl
theorem sweep_ok {as ls : List Str} (ok : SheetOk as ls) {S : Src} : ∃ b S', F__law_sweeps [.src, .imm (sheetD as ls)] S = some (b, S') ∧ ∃ d count, b = .imm d ∧ 1 ≤ count ∧ count ≤ 5 ∧ IsProg ls as.length count d := by
  have ha0 : 1 ≤ as.length := List.length_pos_iff.mpr ok.a0
  have hl0 : 1 ≤ ls.length := List.length_pos_iff.mpr ok.l0
  have ha2 := ok.a2
  have hl2 := ok.l2
  have c1 : addB (.lst [.none]) (.lst (encS ls)) = some (.lst (.none :: encS ls)) := catL_ok (by rw [encS_len]; simp; omega)
  have hal : ((encS as).length : Int) = (as.length : Nat) := by rw [encS_len]
  have someL : ∀ d ∈ PyData.none :: encS ls, noL d = true := fun d hd => (some_mem hd).2
  have someN : (PyData.none :: encS ls).length ≤ 1000 := by rw [List.length_cons, encS_len]; omega
  refine run_of rfl rfl ?_
  unfold g__law_sweeps
  (repeat (first | with_reducible refine p_seq ?_ | with_reducible refine nx_nx ?_ | with_reducible refine nx_rt ?_ | with_reducible refine p_if ?_ | with_reducible refine p_asg ?_ | with_reducible refine p_par ?_ | with_reducible refine p_parN ?_ | with_reducible refine p_ret ?_ | with_reducible refine p_retN ?_ | with_reducible refine p_next ?_ | with_reducible refine p_brk ?_ | with_reducible refine p_cnt ?_ | with_reducible refine p_drop ?_ | with_reducible refine p_appE ?_ | with_reducible refine p_lenE ?_ | with_reducible refine p_setI ?_ | with_reducible refine p_dput ?_ | with_reducible refine p_for ?_ | with_reducible refine p_varE ?_ | with_reducible refine p_frzE ?_ | with_reducible refine p_movE ?_ | with_reducible refine p_c ?_ | with_reducible refine p_op ?_ | with_reducible refine p_un ?_ | with_reducible refine p_ar ?_ | with_reducible refine p_me ?_ | with_reducible refine p_ife ?_ | with_reducible refine p_nil ?_ | with_reducible refine p_cons ?_ | with_reducible refine p_call ?_ | with_reducible refine p_lc ?_ | with_reducible refine p_sl ?_ | with_reducible refine p_on ?_ | with_reducible refine p_os ?_ | with_reducible refine p_fis ?_ | with_reducible refine p_rng1 ?_ | with_reducible refine p_rng2 ?_ | with_reducible refine p_fia ?_ | with_reducible refine p_din ?_ | with_reducible refine p_newT ?_ | with_reducible refine p_newK ?_ | with_reducible refine p_test ?_ | with_reducible refine p_band ?_ | with_reducible refine p_bor ?_ | with_reducible refine p_bnot ?_ | with_reducible refine p_yes ?_ | with_reducible refine p_or ?_ | with_reducible refine p_and ?_ | with_reducible refine p_not ?_ | with_reducible refine bh_t ?_ | with_reducible refine bh_f ?_ | with_reducible refine bh_nt ?_ | with_reducible refine bh_nf ?_ | ((with_reducible refine bh_r ?_); refine Exists.intro _ (And.intro rfl ?_)) | ((with_reducible refine ex_id ?_); first | refine Exists.intro _ (And.intro rfl ?_) | refine Exists.intro _ (Exists.intro _ (And.intro rfl ?_))) | ((with_reducible refine and_id ?_); refine And.intro rfl ?_)))
  refine cp_pick rfl (by decide) (by decide) fun k0 S0 k00 k01 => ?_
  (repeat (first | with_reducible refine ⟨_, c1, ?_⟩ | with_reducible refine p_seq ?_ | with_reducible refine nx_nx ?_ | with_reducible refine nx_rt ?_ | with_reducible refine p_if ?_ | with_reducible refine p_asg ?_ | with_reducible refine p_par ?_ | with_reducible refine p_parN ?_ | with_reducible refine p_ret ?_ | with_reducible refine p_retN ?_ | with_reducible refine p_next ?_ | with_reducible refine p_brk ?_ | with_reducible refine p_cnt ?_ | with_reducible refine p_drop ?_ | with_reducible refine p_appE ?_ | with_reducible refine p_lenE ?_ | with_reducible refine p_setI ?_ | with_reducible refine p_dput ?_ | with_reducible refine p_for ?_ | with_reducible refine p_varE ?_ | with_reducible refine p_frzE ?_ | with_reducible refine p_movE ?_ | with_reducible refine p_c ?_ | with_reducible refine p_op ?_ | with_reducible refine p_un ?_ | with_reducible refine p_ar ?_ | with_reducible refine p_me ?_ | with_reducible refine p_ife ?_ | with_reducible refine p_nil ?_ | with_reducible refine p_cons ?_ | with_reducible refine p_call ?_ | with_reducible refine p_lc ?_ | with_reducible refine p_sl ?_ | with_reducible refine p_on ?_ | with_reducible refine p_os ?_ | with_reducible refine p_fis ?_ | with_reducible refine p_rng1 ?_ | with_reducible refine p_rng2 ?_ | with_reducible refine p_fia ?_ | with_reducible refine p_din ?_ | with_reducible refine p_newT ?_ | with_reducible refine p_newK ?_ | with_reducible refine p_test ?_ | with_reducible refine p_band ?_ | with_reducible refine p_bor ?_ | with_reducible refine p_bnot ?_ | with_reducible refine p_yes ?_ | with_reducible refine p_or ?_ | with_reducible refine p_and ?_ | with_reducible refine p_not ?_ | with_reducible refine bh_t ?_ | with_reducible refine bh_f ?_ | with_reducible refine bh_nt ?_ | with_reducible refine bh_nf ?_ | ((with_reducible refine bh_r ?_); refine Exists.intro _ (And.intro rfl ?_)) | ((with_reducible refine ex_id ?_); first | refine Exists.intro _ (And.intro rfl ?_) | refine Exists.intro _ (Exists.intro _ (And.intro rfl ?_))) | ((with_reducible refine and_id ?_); refine And.intro rfl ?_)))
  refine cp_pick rfl (by decide) (by decide) fun k1 S1 k10 k11 => ?_
  (repeat (first | with_reducible refine p_seq ?_ | with_reducible refine nx_nx ?_ | with_reducible refine nx_rt ?_ | with_reducible refine p_if ?_ | with_reducible refine p_asg ?_ | with_reducible refine p_par ?_ | with_reducible refine p_parN ?_ | with_reducible refine p_ret ?_ | with_reducible refine p_retN ?_ | with_reducible refine p_next ?_ | with_reducible refine p_brk ?_ | with_reducible refine p_cnt ?_ | with_reducible refine p_drop ?_ | with_reducible refine p_appE ?_ | with_reducible refine p_lenE ?_ | with_reducible refine p_setI ?_ | with_reducible refine p_dput ?_ | with_reducible refine p_for ?_ | with_reducible refine p_varE ?_ | with_reducible refine p_frzE ?_ | with_reducible refine p_movE ?_ | with_reducible refine p_c ?_ | with_reducible refine p_op ?_ | with_reducible refine p_un ?_ | with_reducible refine p_ar ?_ | with_reducible refine p_me ?_ | with_reducible refine p_ife ?_ | with_reducible refine p_nil ?_ | with_reducible refine p_cons ?_ | with_reducible refine p_call ?_ | with_reducible refine p_lc ?_ | with_reducible refine p_sl ?_ | with_reducible refine p_on ?_ | with_reducible refine p_os ?_ | with_reducible refine p_fis ?_ | with_reducible refine p_rng1 ?_ | with_reducible refine p_rng2 ?_ | with_reducible refine p_fia ?_ | with_reducible refine p_din ?_ | with_reducible refine p_newT ?_ | with_reducible refine p_newK ?_ | with_reducible refine p_test ?_ | with_reducible refine p_band ?_ | with_reducible refine p_bor ?_ | with_reducible refine p_bnot ?_ | with_reducible refine p_yes ?_ | with_reducible refine p_or ?_ | with_reducible refine p_and ?_ | with_reducible refine p_not ?_ | with_reducible refine bh_t ?_ | with_reducible refine bh_f ?_ | with_reducible refine bh_nt ?_ | with_reducible refine bh_nf ?_ | ((with_reducible refine bh_r ?_); refine Exists.intro _ (And.intro rfl ?_)) | ((with_reducible refine ex_id ?_); first | refine Exists.intro _ (And.intro rfl ?_) | refine Exists.intro _ (Exists.intro _ (And.intro rfl ?_))) | ((with_reducible refine and_id ?_); refine And.intro rfl ?_)))
  refine ⟨by omega, rfl, ?_⟩
  refine p_forS (fun i ρ => SweepJ as ls (1 + k0) (decide (k1 = 0)) i ρ) ⟨[], none, none, none, none, none, none, none, none, by rw [← hal]; rfl, rfl, (fun r h => by cases h), rfl, rfl, rfl, rfl⟩ ?_ ?_
  · intro i d ρ S hd hJ
    obtain ⟨hi, rfl⟩ := rangeD_get hd
    exact sweep_row ok (by omega) (by omega) hJ
  rintro ρ S ⟨rows, v7, v8, v9, v10, v11, v12, v13, v15, rfl, hn, hr, n11, n12, n13, nR⟩
  have hn : (rows.length : Int) = 1 + k0 := by rw [hn]; show (((rangeD 0 _).length : Nat) : Int) = _; rw [rangeD_len]; omega
  (repeat (first | with_reducible refine p_seq ?_ | with_reducible refine nx_nx ?_ | with_reducible refine nx_rt ?_ | with_reducible refine p_if ?_ | with_reducible refine p_asg ?_ | with_reducible refine p_par ?_ | with_reducible refine p_parN ?_ | with_reducible refine p_ret ?_ | with_reducible refine p_retN ?_ | with_reducible refine p_next ?_ | with_reducible refine p_brk ?_ | with_reducible refine p_cnt ?_ | with_reducible refine p_drop ?_ | with_reducible refine p_appE ?_ | with_reducible refine p_lenE ?_ | with_reducible refine p_setI ?_ | with_reducible refine p_dput ?_ | with_reducible refine p_for ?_ | with_reducible refine p_varE ?_ | with_reducible refine p_frzE ?_ | with_reducible refine p_movE ?_ | with_reducible refine p_c ?_ | with_reducible refine p_op ?_ | with_reducible refine p_un ?_ | with_reducible refine p_ar ?_ | with_reducible refine p_me ?_ | with_reducible refine p_ife ?_ | with_reducible refine p_nil ?_ | with_reducible refine p_cons ?_ | with_reducible refine p_call ?_ | with_reducible refine p_lc ?_ | with_reducible refine p_sl ?_ | with_reducible refine p_on ?_ | with_reducible refine p_os ?_ | with_reducible refine p_fis ?_ | with_reducible refine p_rng1 ?_ | with_reducible refine p_rng2 ?_ | with_reducible refine p_fia ?_ | with_reducible refine p_din ?_ | with_reducible refine p_newT ?_ | with_reducible refine p_newK ?_ | with_reducible refine p_test ?_ | with_reducible refine p_band ?_ | with_reducible refine p_bor ?_ | with_reducible refine p_bnot ?_ | with_reducible refine p_yes ?_ | with_reducible refine p_or ?_ | with_reducible refine p_and ?_ | with_reducible refine p_not ?_ | with_reducible refine bh_t ?_ | with_reducible refine bh_f ?_ | with_reducible refine bh_nt ?_ | with_reducible refine bh_nf ?_ | ((with_reducible refine bh_r ?_); refine Exists.intro _ (And.intro rfl ?_)) | ((with_reducible refine ex_id ?_); first | refine Exists.intro _ (And.intro rfl ?_) | refine Exists.intro _ (Exists.intro _ (And.intro rfl ?_))) | ((with_reducible refine and_id ?_); refine And.intro rfl ?_)))
  refine cp_pick rfl (by decide) (by decide) fun k2 S2 k20 k21 => ?_
  (repeat (first | with_reducible refine p_seq ?_ | with_reducible refine nx_nx ?_ | with_reducible refine nx_rt ?_ | with_reducible refine p_if ?_ | with_reducible refine p_asg ?_ | with_reducible refine p_par ?_ | with_reducible refine p_parN ?_ | with_reducible refine p_ret ?_ | with_reducible refine p_retN ?_ | with_reducible refine p_next ?_ | with_reducible refine p_brk ?_ | with_reducible refine p_cnt ?_ | with_reducible refine p_drop ?_ | with_reducible refine p_appE ?_ | with_reducible refine p_lenE ?_ | with_reducible refine p_setI ?_ | with_reducible refine p_dput ?_ | with_reducible refine p_for ?_ | with_reducible refine p_varE ?_ | with_reducible refine p_frzE ?_ | with_reducible refine p_movE ?_ | with_reducible refine p_c ?_ | with_reducible refine p_op ?_ | with_reducible refine p_un ?_ | with_reducible refine p_ar ?_ | with_reducible refine p_me ?_ | with_reducible refine p_ife ?_ | with_reducible refine p_nil ?_ | with_reducible refine p_cons ?_ | with_reducible refine p_call ?_ | with_reducible refine p_lc ?_ | with_reducible refine p_sl ?_ | with_reducible refine p_on ?_ | with_reducible refine p_os ?_ | with_reducible refine p_fis ?_ | with_reducible refine p_rng1 ?_ | with_reducible refine p_rng2 ?_ | with_reducible refine p_fia ?_ | with_reducible refine p_din ?_ | with_reducible refine p_newT ?_ | with_reducible refine p_newK ?_ | with_reducible refine p_test ?_ | with_reducible refine p_band ?_ | with_reducible refine p_bor ?_ | with_reducible refine p_bnot ?_ | with_reducible refine p_yes ?_ | with_reducible refine p_or ?_ | with_reducible refine p_and ?_ | with_reducible refine p_not ?_ | with_reducible refine bh_t ?_ | with_reducible refine bh_f ?_ | with_reducible refine bh_nt ?_ | with_reducible refine bh_nf ?_ | ((with_reducible refine bh_r ?_); refine Exists.intro _ (And.intro rfl ?_)) | ((with_reducible refine ex_id ?_); first | refine Exists.intro _ (And.intro rfl ?_) | refine Exists.intro _ (Exists.intro _ (And.intro rfl ?_))) | ((with_reducible refine and_id ?_); refine And.intro rfl ?_)))
  refine bh_d (fun z => ?_) fun z => ?_
  · (repeat (first | with_reducible refine p_seq ?_ | with_reducible refine nx_nx ?_ | with_reducible refine nx_rt ?_ | with_reducible refine p_if ?_ | with_reducible refine p_asg ?_ | with_reducible refine p_par ?_ | with_reducible refine p_parN ?_ | with_reducible refine p_ret ?_ | with_reducible refine p_retN ?_ | with_reducible refine p_next ?_ | with_reducible refine p_brk ?_ | with_reducible refine p_cnt ?_ | with_reducible refine p_drop ?_ | with_reducible refine p_appE ?_ | with_reducible refine p_lenE ?_ | with_reducible refine p_setI ?_ | with_reducible refine p_dput ?_ | with_reducible refine p_for ?_ | with_reducible refine p_varE ?_ | with_reducible refine p_frzE ?_ | with_reducible refine p_movE ?_ | with_reducible refine p_c ?_ | with_reducible refine p_op ?_ | with_reducible refine p_un ?_ | with_reducible refine p_ar ?_ | with_reducible refine p_me ?_ | with_reducible refine p_ife ?_ | with_reducible refine p_nil ?_ | with_reducible refine p_cons ?_ | with_reducible refine p_call ?_ | with_reducible refine p_lc ?_ | with_reducible refine p_sl ?_ | with_reducible refine p_on ?_ | with_reducible refine p_os ?_ | with_reducible refine p_fis ?_ | with_reducible refine p_rng1 ?_ | with_reducible refine p_rng2 ?_ | with_reducible refine p_fia ?_ | with_reducible refine p_din ?_ | with_reducible refine p_newT ?_ | with_reducible refine p_newK ?_ | with_reducible refine p_test ?_ | with_reducible refine p_band ?_ | with_reducible refine p_bor ?_ | with_reducible refine p_bnot ?_ | with_reducible refine p_yes ?_ | with_reducible refine p_or ?_ | with_reducible refine p_and ?_ | with_reducible refine p_not ?_ | with_reducible refine bh_t ?_ | with_reducible refine bh_f ?_ | with_reducible refine bh_nt ?_ | with_reducible refine bh_nf ?_ | ((with_reducible refine bh_r ?_); refine Exists.intro _ (And.intro rfl ?_)) | ((with_reducible refine ex_id ?_); first | refine Exists.intro _ (And.intro rfl ?_) | refine Exists.intro _ (Exists.intro _ (And.intro rfl ?_))) | ((with_reducible refine and_id ?_); refine And.intro rfl ?_)))
    refine cp_pick rfl (by omega) (by omega) fun k3 S3 k30 k31 => ?_
    (repeat (first | with_reducible refine p_seq ?_ | with_reducible refine nx_nx ?_ | with_reducible refine nx_rt ?_ | with_reducible refine p_if ?_ | with_reducible refine p_asg ?_ | with_reducible refine p_par ?_ | with_reducible refine p_parN ?_ | with_reducible refine p_ret ?_ | with_reducible refine p_retN ?_ | with_reducible refine p_next ?_ | with_reducible refine p_brk ?_ | with_reducible refine p_cnt ?_ | with_reducible refine p_drop ?_ | with_reducible refine p_appE ?_ | with_reducible refine p_lenE ?_ | with_reducible refine p_setI ?_ | with_reducible refine p_dput ?_ | with_reducible refine p_for ?_ | with_reducible refine p_varE ?_ | with_reducible refine p_frzE ?_ | with_reducible refine p_movE ?_ | with_reducible refine p_c ?_ | with_reducible refine p_op ?_ | with_reducible refine p_un ?_ | with_reducible refine p_ar ?_ | with_reducible refine p_me ?_ | with_reducible refine p_ife ?_ | with_reducible refine p_nil ?_ | with_reducible refine p_cons ?_ | with_reducible refine p_call ?_ | with_reducible refine p_lc ?_ | with_reducible refine p_sl ?_ | with_reducible refine p_on ?_ | with_reducible refine p_os ?_ | with_reducible refine p_fis ?_ | with_reducible refine p_rng1 ?_ | with_reducible refine p_rng2 ?_ | with_reducible refine p_fia ?_ | with_reducible refine p_din ?_ | with_reducible refine p_newT ?_ | with_reducible refine p_newK ?_ | with_reducible refine p_test ?_ | with_reducible refine p_band ?_ | with_reducible refine p_bor ?_ | with_reducible refine p_bnot ?_ | with_reducible refine p_yes ?_ | with_reducible refine p_or ?_ | with_reducible refine p_and ?_ | with_reducible refine p_not ?_ | with_reducible refine bh_t ?_ | with_reducible refine bh_f ?_ | with_reducible refine bh_nt ?_ | with_reducible refine bh_nf ?_ | ((with_reducible refine bh_r ?_); refine Exists.intro _ (And.intro rfl ?_)) | ((with_reducible refine ex_id ?_); first | refine Exists.intro _ (And.intro rfl ?_) | refine Exists.intro _ (Exists.intro _ (And.intro rfl ?_))) | ((with_reducible refine and_id ?_); refine And.intro rfl ?_)))
    refine cp_pick rfl (by omega) (by omega) fun k4 S4 k40 k41 => ?_
    (repeat (first | with_reducible refine p_seq ?_ | with_reducible refine nx_nx ?_ | with_reducible refine nx_rt ?_ | with_reducible refine p_if ?_ | with_reducible refine p_asg ?_ | with_reducible refine p_par ?_ | with_reducible refine p_parN ?_ | with_reducible refine p_ret ?_ | with_reducible refine p_retN ?_ | with_reducible refine p_next ?_ | with_reducible refine p_brk ?_ | with_reducible refine p_cnt ?_ | with_reducible refine p_drop ?_ | with_reducible refine p_appE ?_ | with_reducible refine p_lenE ?_ | with_reducible refine p_setI ?_ | with_reducible refine p_dput ?_ | with_reducible refine p_for ?_ | with_reducible refine p_varE ?_ | with_reducible refine p_frzE ?_ | with_reducible refine p_movE ?_ | with_reducible refine p_c ?_ | with_reducible refine p_op ?_ | with_reducible refine p_un ?_ | with_reducible refine p_ar ?_ | with_reducible refine p_me ?_ | with_reducible refine p_ife ?_ | with_reducible refine p_nil ?_ | with_reducible refine p_cons ?_ | with_reducible refine p_call ?_ | with_reducible refine p_lc ?_ | with_reducible refine p_sl ?_ | with_reducible refine p_on ?_ | with_reducible refine p_os ?_ | with_reducible refine p_fis ?_ | with_reducible refine p_rng1 ?_ | with_reducible refine p_rng2 ?_ | with_reducible refine p_fia ?_ | with_reducible refine p_din ?_ | with_reducible refine p_newT ?_ | with_reducible refine p_newK ?_ | with_reducible refine p_test ?_ | with_reducible refine p_band ?_ | with_reducible refine p_bor ?_ | with_reducible refine p_bnot ?_ | with_reducible refine p_yes ?_ | with_reducible refine p_or ?_ | with_reducible refine p_and ?_ | with_reducible refine p_not ?_ | with_reducible refine bh_t ?_ | with_reducible refine bh_f ?_ | with_reducible refine bh_nt ?_ | with_reducible refine bh_nf ?_ | ((with_reducible refine bh_r ?_); refine Exists.intro _ (And.intro rfl ?_)) | ((with_reducible refine ex_id ?_); first | refine Exists.intro _ (And.intro rfl ?_) | refine Exists.intro _ (Exists.intro _ (And.intro rfl ?_))) | ((with_reducible refine and_id ?_); refine And.intro rfl ?_)))
    obtain ⟨m3, rfl⟩ := Int.eq_ofNat_of_zero_le k30
    obtain ⟨m4, rfl⟩ := Int.eq_ofNat_of_zero_le k40
    have hm3 : m3 < rows.length := by omega
    obtain ⟨steps, e3, hs2, hst⟩ := hr rows[m3] (List.getElem_mem _)
    have bx : ixB (.bor rows) (.imm (.int (m3 : Nat))) = some (.imm (.tuple steps)) := by
      rw [q_ixB, atI_nat (List.getElem?_eq_getElem hm3), e3]; rfl
    refine cp_of (ds := [.str "left", .str "right", .str "halt"]) rfl (.inr rfl) (by simp) (by simp) (.inr (by decide +kernel)) fun dm S5 hdm => ?_
    obtain ⟨mv, rfl, hmv⟩ : ∃ mv : Str, dm = .str mv ∧ Move mv := by
      simp only [List.mem_cons, List.not_mem_nil, or_false] at hdm
      rcases hdm with rfl | rfl | rfl
      · exact ⟨_, rfl, .inr (.inl rfl)⟩
      · exact ⟨_, rfl, .inl rfl⟩
      · exact ⟨_, rfl, .inr (.inr rfl)⟩
    (repeat (first | with_reducible refine p_seq ?_ | with_reducible refine nx_nx ?_ | with_reducible refine nx_rt ?_ | with_reducible refine p_if ?_ | with_reducible refine p_asg ?_ | with_reducible refine p_par ?_ | with_reducible refine p_parN ?_ | with_reducible refine p_ret ?_ | with_reducible refine p_retN ?_ | with_reducible refine p_next ?_ | with_reducible refine p_brk ?_ | with_reducible refine p_cnt ?_ | with_reducible refine p_drop ?_ | with_reducible refine p_appE ?_ | with_reducible refine p_lenE ?_ | with_reducible refine p_setI ?_ | with_reducible refine p_dput ?_ | with_reducible refine p_for ?_ | with_reducible refine p_varE ?_ | with_reducible refine p_frzE ?_ | with_reducible refine p_movE ?_ | with_reducible refine p_c ?_ | with_reducible refine p_op ?_ | with_reducible refine p_un ?_ | with_reducible refine p_ar ?_ | with_reducible refine p_me ?_ | with_reducible refine p_ife ?_ | with_reducible refine p_nil ?_ | with_reducible refine p_cons ?_ | with_reducible refine p_call ?_ | with_reducible refine p_lc ?_ | with_reducible refine p_sl ?_ | with_reducible refine p_on ?_ | with_reducible refine p_os ?_ | with_reducible refine p_fis ?_ | with_reducible refine p_rng1 ?_ | with_reducible refine p_rng2 ?_ | with_reducible refine p_fia ?_ | with_reducible refine p_din ?_ | with_reducible refine p_newT ?_ | with_reducible refine p_newK ?_ | with_reducible refine p_test ?_ | with_reducible refine p_band ?_ | with_reducible refine p_bor ?_ | with_reducible refine p_bnot ?_ | with_reducible refine p_yes ?_ | with_reducible refine p_or ?_ | with_reducible refine p_and ?_ | with_reducible refine p_not ?_ | with_reducible refine bh_t ?_ | with_reducible refine bh_f ?_ | with_reducible refine bh_nt ?_ | with_reducible refine bh_nf ?_ | ((with_reducible refine bh_r ?_); refine Exists.intro _ (And.intro rfl ?_)) | ((with_reducible refine ex_id ?_); first | refine Exists.intro _ (And.intro rfl ?_) | refine Exists.intro _ (Exists.intro _ (And.intro rfl ?_))) | ((with_reducible refine and_id ?_); refine And.intro rfl ?_)))
    refine cp_of rfl (.inr rfl) (by simp) someN (.inr someL) fun d1 S6 h1 => ?_
    have c3 : ∀ late : Int, addB (.imm (.tuple (cutG steps none (some ((m4 : Nat) : Int))))) (.imm (.tuple [.tuple [d1, .str mv, .int late]])) = some (.imm (.tuple (cutG steps none (some ((m4 : Nat) : Int)) ++ [.tuple [d1, .str mv, .int late]]))) := fun late => catT_ok (by rw [cutA (by omega), List.length_take]; simp; omega)
    have c4 : ∀ late : Int, addB (.imm (.tuple (cutG steps none (some ((m4 : Nat) : Int)) ++ [.tuple [d1, .str mv, .int late]]))) (.imm (.tuple (cutG steps (some (((m4 : Nat) : Int) + 1)) none))) = some (.imm (.tuple (cutG steps none (some ((m4 : Nat) : Int)) ++ [.tuple [d1, .str mv, .int late]] ++ cutG steps (some (((m4 : Nat) : Int) + 1)) none))) := fun late => catT_ok (by
      rw [cutA (by omega), show ((m4 : Nat) : Int) + 1 = ((m4 + 1 : Nat) : Int) by omega, cutB (by omega)]
      simp
      omega)
    have fin : ∀ late : Int, 0 ≤ late → late < 1 + k0 → ∃ d count, Bd.imm (.tuple (rows.set m3 (.tuple (cutG steps none (some ((m4 : Nat) : Int)) ++ [.tuple [d1, .str mv, .int late]] ++ cutG steps (some (((m4 : Nat) : Int) + 1)) none)))) = .imm d ∧ 1 ≤ count ∧ count ≤ 5 ∧ IsProg ls as.length count d := fun late l0 l1 => by
      refine ⟨_, 1 + k0, rfl, by omega, by omega, _, rfl, by rw [List.length_set]; exact hn, fun r hr' => ?_⟩
      rcases List.mem_or_eq_of_mem_set hr' with h | rfl
      · exact hr r h
      · refine ⟨_, rfl, ?_, ?_⟩
        · rw [cutA (by omega), show ((m4 : Nat) : Int) + 1 = ((m4 + 1 : Nat) : Int) by omega, cutB (by omega), set_cut (by omega), List.length_set]; exact hs2
        · rw [cutA (by omega), show ((m4 : Nat) : Int) + 1 = ((m4 + 1 : Nat) : Int) by omega, cutB (by omega), set_cut (by omega)]
          exact steps_set hst (by omega) ⟨d1, mv, late, rfl, (some_mem h1).1, hmv, trivial, l0, l1⟩
    (repeat (first | with_reducible refine p_seq ?_ | with_reducible refine nx_nx ?_ | with_reducible refine nx_rt ?_ | with_reducible refine p_if ?_ | with_reducible refine p_asg ?_ | with_reducible refine p_par ?_ | with_reducible refine p_parN ?_ | with_reducible refine p_ret ?_ | with_reducible refine p_retN ?_ | with_reducible refine p_next ?_ | with_reducible refine p_brk ?_ | with_reducible refine p_cnt ?_ | with_reducible refine p_drop ?_ | with_reducible refine p_appE ?_ | with_reducible refine p_lenE ?_ | with_reducible refine p_setI ?_ | with_reducible refine p_dput ?_ | with_reducible refine p_for ?_ | with_reducible refine p_varE ?_ | with_reducible refine p_frzE ?_ | with_reducible refine p_movE ?_ | with_reducible refine p_c ?_ | with_reducible refine p_op ?_ | with_reducible refine p_un ?_ | with_reducible refine p_ar ?_ | with_reducible refine p_me ?_ | with_reducible refine p_ife ?_ | with_reducible refine p_nil ?_ | with_reducible refine p_cons ?_ | with_reducible refine p_call ?_ | with_reducible refine p_lc ?_ | with_reducible refine p_sl ?_ | with_reducible refine p_on ?_ | with_reducible refine p_os ?_ | with_reducible refine p_fis ?_ | with_reducible refine p_rng1 ?_ | with_reducible refine p_rng2 ?_ | with_reducible refine p_fia ?_ | with_reducible refine p_din ?_ | with_reducible refine p_newT ?_ | with_reducible refine p_newK ?_ | with_reducible refine p_test ?_ | with_reducible refine p_band ?_ | with_reducible refine p_bor ?_ | with_reducible refine p_bnot ?_ | with_reducible refine p_yes ?_ | with_reducible refine p_or ?_ | with_reducible refine p_and ?_ | with_reducible refine p_not ?_ | with_reducible refine bh_t ?_ | with_reducible refine bh_f ?_ | with_reducible refine bh_nt ?_ | with_reducible refine bh_nf ?_ | ((with_reducible refine bh_r ?_); refine Exists.intro _ (And.intro rfl ?_)) | ((with_reducible refine ex_id ?_); first | refine Exists.intro _ (And.intro rfl ?_) | refine Exists.intro _ (Exists.intro _ (And.intro rfl ?_))) | ((with_reducible refine and_id ?_); refine And.intro rfl ?_)))
    refine bh_d (fun z => ?_) fun z => ?_
    · subst z
      (repeat (first | with_reducible refine ⟨_, bx, ?_⟩ | with_reducible refine ⟨_, c3 (0), ?_⟩ | with_reducible refine ⟨_, c4 (0), ?_⟩ | with_reducible refine p_seq ?_ | with_reducible refine nx_nx ?_ | with_reducible refine nx_rt ?_ | with_reducible refine p_if ?_ | with_reducible refine p_asg ?_ | with_reducible refine p_par ?_ | with_reducible refine p_parN ?_ | with_reducible refine p_ret ?_ | with_reducible refine p_retN ?_ | with_reducible refine p_next ?_ | with_reducible refine p_brk ?_ | with_reducible refine p_cnt ?_ | with_reducible refine p_drop ?_ | with_reducible refine p_appE ?_ | with_reducible refine p_lenE ?_ | with_reducible refine p_setI ?_ | with_reducible refine p_dput ?_ | with_reducible refine p_for ?_ | with_reducible refine p_varE ?_ | with_reducible refine p_frzE ?_ | with_reducible refine p_movE ?_ | with_reducible refine p_c ?_ | with_reducible refine p_op ?_ | with_reducible refine p_un ?_ | with_reducible refine p_ar ?_ | with_reducible refine p_me ?_ | with_reducible refine p_ife ?_ | with_reducible refine p_nil ?_ | with_reducible refine p_cons ?_ | with_reducible refine p_call ?_ | with_reducible refine p_lc ?_ | with_reducible refine p_sl ?_ | with_reducible refine p_on ?_ | with_reducible refine p_os ?_ | with_reducible refine p_fis ?_ | with_reducible refine p_rng1 ?_ | with_reducible refine p_rng2 ?_ | with_reducible refine p_fia ?_ | with_reducible refine p_din ?_ | with_reducible refine p_newT ?_ | with_reducible refine p_newK ?_ | with_reducible refine p_test ?_ | with_reducible refine p_band ?_ | with_reducible refine p_bor ?_ | with_reducible refine p_bnot ?_ | with_reducible refine p_yes ?_ | with_reducible refine p_or ?_ | with_reducible refine p_and ?_ | with_reducible refine p_not ?_ | with_reducible refine bh_t ?_ | with_reducible refine bh_f ?_ | with_reducible refine bh_nt ?_ | with_reducible refine bh_nf ?_ | ((with_reducible refine bh_r ?_); refine Exists.intro _ (And.intro rfl ?_)) | ((with_reducible refine ex_id ?_); first | refine Exists.intro _ (And.intro rfl ?_) | refine Exists.intro _ (Exists.intro _ (And.intro rfl ?_))) | ((with_reducible refine and_id ?_); refine And.intro rfl ?_)))
      refine ⟨_, _, _, _, rfl, rfl, rfl, ixN_nat hm3, nbE_cons rfl (nbE_cons rfl (nbE_cons rfl (nbE_cons rfl (nbE_cons rfl (nbE_cons rfl (nbE_cons rfl (nbE_cons (nb1 nR (by simp)) (nbE_cons (nb1 nR (by simp)) (nbE_cons rfl (nbE_cons (nb1 nR (by simp)) (nbE_cons n11 (nbE_cons n12 (nbE_cons n13 rfl))))))))))))), ?_⟩
      (repeat (first | with_reducible refine p_seq ?_ | with_reducible refine nx_nx ?_ | with_reducible refine nx_rt ?_ | with_reducible refine p_if ?_ | with_reducible refine p_asg ?_ | with_reducible refine p_par ?_ | with_reducible refine p_parN ?_ | with_reducible refine p_ret ?_ | with_reducible refine p_retN ?_ | with_reducible refine p_next ?_ | with_reducible refine p_brk ?_ | with_reducible refine p_cnt ?_ | with_reducible refine p_drop ?_ | with_reducible refine p_appE ?_ | with_reducible refine p_lenE ?_ | with_reducible refine p_setI ?_ | with_reducible refine p_dput ?_ | with_reducible refine p_for ?_ | with_reducible refine p_varE ?_ | with_reducible refine p_frzE ?_ | with_reducible refine p_movE ?_ | with_reducible refine p_c ?_ | with_reducible refine p_op ?_ | with_reducible refine p_un ?_ | with_reducible refine p_ar ?_ | with_reducible refine p_me ?_ | with_reducible refine p_ife ?_ | with_reducible refine p_nil ?_ | with_reducible refine p_cons ?_ | with_reducible refine p_call ?_ | with_reducible refine p_lc ?_ | with_reducible refine p_sl ?_ | with_reducible refine p_on ?_ | with_reducible refine p_os ?_ | with_reducible refine p_fis ?_ | with_reducible refine p_rng1 ?_ | with_reducible refine p_rng2 ?_ | with_reducible refine p_fia ?_ | with_reducible refine p_din ?_ | with_reducible refine p_newT ?_ | with_reducible refine p_newK ?_ | with_reducible refine p_test ?_ | with_reducible refine p_band ?_ | with_reducible refine p_bor ?_ | with_reducible refine p_bnot ?_ | with_reducible refine p_yes ?_ | with_reducible refine p_or ?_ | with_reducible refine p_and ?_ | with_reducible refine p_not ?_ | with_reducible refine bh_t ?_ | with_reducible refine bh_f ?_ | with_reducible refine bh_nt ?_ | with_reducible refine bh_nf ?_ | ((with_reducible refine bh_r ?_); refine Exists.intro _ (And.intro rfl ?_)) | ((with_reducible refine ex_id ?_); first | refine Exists.intro _ (And.intro rfl ?_) | refine Exists.intro _ (Exists.intro _ (And.intro rfl ?_))) | ((with_reducible refine and_id ?_); refine And.intro rfl ?_)))
      exact fin (0) (by omega) (by omega)
    · (repeat (first | with_reducible refine p_seq ?_ | with_reducible refine nx_nx ?_ | with_reducible refine nx_rt ?_ | with_reducible refine p_if ?_ | with_reducible refine p_asg ?_ | with_reducible refine p_par ?_ | with_reducible refine p_parN ?_ | with_reducible refine p_ret ?_ | with_reducible refine p_retN ?_ | with_reducible refine p_next ?_ | with_reducible refine p_brk ?_ | with_reducible refine p_cnt ?_ | with_reducible refine p_drop ?_ | with_reducible refine p_appE ?_ | with_reducible refine p_lenE ?_ | with_reducible refine p_setI ?_ | with_reducible refine p_dput ?_ | with_reducible refine p_for ?_ | with_reducible refine p_varE ?_ | with_reducible refine p_frzE ?_ | with_reducible refine p_movE ?_ | with_reducible refine p_c ?_ | with_reducible refine p_op ?_ | with_reducible refine p_un ?_ | with_reducible refine p_ar ?_ | with_reducible refine p_me ?_ | with_reducible refine p_ife ?_ | with_reducible refine p_nil ?_ | with_reducible refine p_cons ?_ | with_reducible refine p_call ?_ | with_reducible refine p_lc ?_ | with_reducible refine p_sl ?_ | with_reducible refine p_on ?_ | with_reducible refine p_os ?_ | with_reducible refine p_fis ?_ | with_reducible refine p_rng1 ?_ | with_reducible refine p_rng2 ?_ | with_reducible refine p_fia ?_ | with_reducible refine p_din ?_ | with_reducible refine p_newT ?_ | with_reducible refine p_newK ?_ | with_reducible refine p_test ?_ | with_reducible refine p_band ?_ | with_reducible refine p_bor ?_ | with_reducible refine p_bnot ?_ | with_reducible refine p_yes ?_ | with_reducible refine p_or ?_ | with_reducible refine p_and ?_ | with_reducible refine p_not ?_ | with_reducible refine bh_t ?_ | with_reducible refine bh_f ?_ | with_reducible refine bh_nt ?_ | with_reducible refine bh_nf ?_ | ((with_reducible refine bh_r ?_); refine Exists.intro _ (And.intro rfl ?_)) | ((with_reducible refine ex_id ?_); first | refine Exists.intro _ (And.intro rfl ?_) | refine Exists.intro _ (Exists.intro _ (And.intro rfl ?_))) | ((with_reducible refine and_id ?_); refine And.intro rfl ?_)))
      refine cp_pick rfl (by omega) (by omega) fun k7 S7 k70 k71 => ?_
      (repeat (first | with_reducible refine ⟨_, bx, ?_⟩ | with_reducible refine ⟨_, c3 (k7), ?_⟩ | with_reducible refine ⟨_, c4 (k7), ?_⟩ | with_reducible refine p_seq ?_ | with_reducible refine nx_nx ?_ | with_reducible refine nx_rt ?_ | with_reducible refine p_if ?_ | with_reducible refine p_asg ?_ | with_reducible refine p_par ?_ | with_reducible refine p_parN ?_ | with_reducible refine p_ret ?_ | with_reducible refine p_retN ?_ | with_reducible refine p_next ?_ | with_reducible refine p_brk ?_ | with_reducible refine p_cnt ?_ | with_reducible refine p_drop ?_ | with_reducible refine p_appE ?_ | with_reducible refine p_lenE ?_ | with_reducible refine p_setI ?_ | with_reducible refine p_dput ?_ | with_reducible refine p_for ?_ | with_reducible refine p_varE ?_ | with_reducible refine p_frzE ?_ | with_reducible refine p_movE ?_ | with_reducible refine p_c ?_ | with_reducible refine p_op ?_ | with_reducible refine p_un ?_ | with_reducible refine p_ar ?_ | with_reducible refine p_me ?_ | with_reducible refine p_ife ?_ | with_reducible refine p_nil ?_ | with_reducible refine p_cons ?_ | with_reducible refine p_call ?_ | with_reducible refine p_lc ?_ | with_reducible refine p_sl ?_ | with_reducible refine p_on ?_ | with_reducible refine p_os ?_ | with_reducible refine p_fis ?_ | with_reducible refine p_rng1 ?_ | with_reducible refine p_rng2 ?_ | with_reducible refine p_fia ?_ | with_reducible refine p_din ?_ | with_reducible refine p_newT ?_ | with_reducible refine p_newK ?_ | with_reducible refine p_test ?_ | with_reducible refine p_band ?_ | with_reducible refine p_bor ?_ | with_reducible refine p_bnot ?_ | with_reducible refine p_yes ?_ | with_reducible refine p_or ?_ | with_reducible refine p_and ?_ | with_reducible refine p_not ?_ | with_reducible refine bh_t ?_ | with_reducible refine bh_f ?_ | with_reducible refine bh_nt ?_ | with_reducible refine bh_nf ?_ | ((with_reducible refine bh_r ?_); refine Exists.intro _ (And.intro rfl ?_)) | ((with_reducible refine ex_id ?_); first | refine Exists.intro _ (And.intro rfl ?_) | refine Exists.intro _ (Exists.intro _ (And.intro rfl ?_))) | ((with_reducible refine and_id ?_); refine And.intro rfl ?_)))
      refine ⟨_, _, _, _, rfl, rfl, rfl, ixN_nat hm3, nbE_cons rfl (nbE_cons rfl (nbE_cons rfl (nbE_cons rfl (nbE_cons rfl (nbE_cons rfl (nbE_cons rfl (nbE_cons (nb1 nR (by simp)) (nbE_cons (nb1 nR (by simp)) (nbE_cons rfl (nbE_cons (nb1 nR (by simp)) (nbE_cons n11 (nbE_cons n12 (nbE_cons n13 rfl))))))))))))), ?_⟩
      (repeat (first | with_reducible refine p_seq ?_ | with_reducible refine nx_nx ?_ | with_reducible refine nx_rt ?_ | with_reducible refine p_if ?_ | with_reducible refine p_asg ?_ | with_reducible refine p_par ?_ | with_reducible refine p_parN ?_ | with_reducible refine p_ret ?_ | with_reducible refine p_retN ?_ | with_reducible refine p_next ?_ | with_reducible refine p_brk ?_ | with_reducible refine p_cnt ?_ | with_reducible refine p_drop ?_ | with_reducible refine p_appE ?_ | with_reducible refine p_lenE ?_ | with_reducible refine p_setI ?_ | with_reducible refine p_dput ?_ | with_reducible refine p_for ?_ | with_reducible refine p_varE ?_ | with_reducible refine p_frzE ?_ | with_reducible refine p_movE ?_ | with_reducible refine p_c ?_ | with_reducible refine p_op ?_ | with_reducible refine p_un ?_ | with_reducible refine p_ar ?_ | with_reducible refine p_me ?_ | with_reducible refine p_ife ?_ | with_reducible refine p_nil ?_ | with_reducible refine p_cons ?_ | with_reducible refine p_call ?_ | with_reducible refine p_lc ?_ | with_reducible refine p_sl ?_ | with_reducible refine p_on ?_ | with_reducible refine p_os ?_ | with_reducible refine p_fis ?_ | with_reducible refine p_rng1 ?_ | with_reducible refine p_rng2 ?_ | with_reducible refine p_fia ?_ | with_reducible refine p_din ?_ | with_reducible refine p_newT ?_ | with_reducible refine p_newK ?_ | with_reducible refine p_test ?_ | with_reducible refine p_band ?_ | with_reducible refine p_bor ?_ | with_reducible refine p_bnot ?_ | with_reducible refine p_yes ?_ | with_reducible refine p_or ?_ | with_reducible refine p_and ?_ | with_reducible refine p_not ?_ | with_reducible refine bh_t ?_ | with_reducible refine bh_f ?_ | with_reducible refine bh_nt ?_ | with_reducible refine bh_nf ?_ | ((with_reducible refine bh_r ?_); refine Exists.intro _ (And.intro rfl ?_)) | ((with_reducible refine ex_id ?_); first | refine Exists.intro _ (And.intro rfl ?_) | refine Exists.intro _ (Exists.intro _ (And.intro rfl ?_))) | ((with_reducible refine and_id ?_); refine And.intro rfl ?_)))
      exact fin (k7) (by omega) (by omega)
  · (repeat (first | with_reducible refine p_seq ?_ | with_reducible refine nx_nx ?_ | with_reducible refine nx_rt ?_ | with_reducible refine p_if ?_ | with_reducible refine p_asg ?_ | with_reducible refine p_par ?_ | with_reducible refine p_parN ?_ | with_reducible refine p_ret ?_ | with_reducible refine p_retN ?_ | with_reducible refine p_next ?_ | with_reducible refine p_brk ?_ | with_reducible refine p_cnt ?_ | with_reducible refine p_drop ?_ | with_reducible refine p_appE ?_ | with_reducible refine p_lenE ?_ | with_reducible refine p_setI ?_ | with_reducible refine p_dput ?_ | with_reducible refine p_for ?_ | with_reducible refine p_varE ?_ | with_reducible refine p_frzE ?_ | with_reducible refine p_movE ?_ | with_reducible refine p_c ?_ | with_reducible refine p_op ?_ | with_reducible refine p_un ?_ | with_reducible refine p_ar ?_ | with_reducible refine p_me ?_ | with_reducible refine p_ife ?_ | with_reducible refine p_nil ?_ | with_reducible refine p_cons ?_ | with_reducible refine p_call ?_ | with_reducible refine p_lc ?_ | with_reducible refine p_sl ?_ | with_reducible refine p_on ?_ | with_reducible refine p_os ?_ | with_reducible refine p_fis ?_ | with_reducible refine p_rng1 ?_ | with_reducible refine p_rng2 ?_ | with_reducible refine p_fia ?_ | with_reducible refine p_din ?_ | with_reducible refine p_newT ?_ | with_reducible refine p_newK ?_ | with_reducible refine p_test ?_ | with_reducible refine p_band ?_ | with_reducible refine p_bor ?_ | with_reducible refine p_bnot ?_ | with_reducible refine p_yes ?_ | with_reducible refine p_or ?_ | with_reducible refine p_and ?_ | with_reducible refine p_not ?_ | with_reducible refine bh_t ?_ | with_reducible refine bh_f ?_ | with_reducible refine bh_nt ?_ | with_reducible refine bh_nf ?_ | ((with_reducible refine bh_r ?_); refine Exists.intro _ (And.intro rfl ?_)) | ((with_reducible refine ex_id ?_); first | refine Exists.intro _ (And.intro rfl ?_) | refine Exists.intro _ (Exists.intro _ (And.intro rfl ?_))) | ((with_reducible refine and_id ?_); refine And.intro rfl ?_)))
    exact ⟨_, _, rfl, by omega, by omega, rows, rfl, hn, hr⟩
end Lw
set_option maxRecDepth 100000
set_option maxHeartbeats 1000000
namespace Lw
open PySem PySem.Spec PyProof.Rows L2 DL
/-! ### the sign at a place -/
theorem indexL_in {x : Str} : ∀ {as : List Str} {n : Nat}, x ∈ as → ∃ j, j < as.length ∧ indexL (encS as) (.str x) n = some (n + j)
  | [], n, h => by cases h
  | a :: as, n, h => by
    by_cases e : a = x
    · subst e
      refine ⟨0, by simp, ?_⟩
      show (if PyData.eqv (.str a) (.str a) = true then some n else _) = _
      rw [if_pos (by simp [PyData.eqv])]
      rfl
    · rcases List.mem_cons.mp h with rfl | h
      · exact absurd rfl e
      · obtain ⟨j, hj, hi⟩ := indexL_in (n := n + 1) h
        refine ⟨j + 1, by simp; omega, ?_⟩
        show (if PyData.eqv (.str a) (.str x) = true then some n else indexL (encS as) (.str x) (n + 1)) = _
        rw [if_neg (by simp [PyData.eqv, e]), hi]
        congr 1
        omega
theorem index_ok {x : Str} {as : List Str} (h : x ∈ as) : ∃ j : Nat, j < as.length ∧ indexB (.lst (encS as)) [.imm (.str x)] = some (.imm (.int j)) := by
  obtain ⟨j, hj, e⟩ := indexL_in (n := 0) h
  refine ⟨j, hj, ?_⟩
  show (if (flatD (.str x) && (encS as).all flatD) = true then (indexL (encS as) (.str x) 0).map fun j => Bd.imm (.int (j : Nat)) else none) = _
  rw [if_pos (by rw [flat_encS]; rfl), e, Nat.zero_add]
  rfl
theorem sign_ok {as ls row : List Str} {place : Int} {S : Src} (hr : ∀ x ∈ row, x ∈ as) (h0 : 0 ≤ place) : ∃ r S', F__law_sign [.imm (sheetD as ls), .imm (.tuple (encS row)), .imm (.int place)] S = some (r, S') ∧
    ∃ j : Nat, r = .imm (.int j) ∧ j < as.length + 2 ∧ (place = 0 → j = as.length) ∧ (place > row.length → j = as.length + 1 ∨ place = 0) := by
  refine run_of rfl rfl ?_
  unfold g__law_sign
  have hz : ((encS row).length : Int) = row.length := by rw [encS_len]
  have ha : ((encS as).length : Int) = (as.length : Nat) := by rw [encS_len]
  (repeat (first | with_reducible refine p_seq ?_ | with_reducible refine nx_nx ?_ | with_reducible refine nx_rt ?_ | with_reducible refine p_if ?_ | with_reducible refine p_asg ?_ | with_reducible refine p_par ?_ | with_reducible refine p_parN ?_ | with_reducible refine p_ret ?_ | with_reducible refine p_retN ?_ | with_reducible refine p_next ?_ | with_reducible refine p_brk ?_ | with_reducible refine p_cnt ?_ | with_reducible refine p_drop ?_ | with_reducible refine p_appE ?_ | with_reducible refine p_lenE ?_ | with_reducible refine p_setI ?_ | with_reducible refine p_dput ?_ | with_reducible refine p_for ?_ | with_reducible refine p_varE ?_ | with_reducible refine p_frzE ?_ | with_reducible refine p_movE ?_ | with_reducible refine p_c ?_ | with_reducible refine p_op ?_ | with_reducible refine p_un ?_ | with_reducible refine p_ar ?_ | with_reducible refine p_me ?_ | with_reducible refine p_ife ?_ | with_reducible refine p_nil ?_ | with_reducible refine p_cons ?_ | with_reducible refine p_call ?_ | with_reducible refine p_lc ?_ | with_reducible refine p_sl ?_ | with_reducible refine p_on ?_ | with_reducible refine p_os ?_ | with_reducible refine p_fis ?_ | with_reducible refine p_rng1 ?_ | with_reducible refine p_rng2 ?_ | with_reducible refine p_fia ?_ | with_reducible refine p_din ?_ | with_reducible refine p_newT ?_ | with_reducible refine p_newK ?_ | with_reducible refine p_test ?_ | with_reducible refine p_band ?_ | with_reducible refine p_bor ?_ | with_reducible refine p_bnot ?_ | with_reducible refine p_yes ?_ | with_reducible refine p_or ?_ | with_reducible refine p_and ?_ | with_reducible refine p_not ?_ | with_reducible refine bh_t ?_ | with_reducible refine bh_f ?_ | with_reducible refine bh_nt ?_ | with_reducible refine bh_nf ?_ | ((with_reducible refine bh_r ?_); refine Exists.intro _ (And.intro rfl ?_)) | ((with_reducible refine ex_id ?_); first | refine Exists.intro _ (And.intro rfl ?_) | refine Exists.intro _ (Exists.intro _ (And.intro rfl ?_))) | ((with_reducible refine and_id ?_); refine And.intro rfl ?_)))
  refine bh_d (fun z => ?_) fun z => ?_
  · (repeat (first | with_reducible refine p_seq ?_ | with_reducible refine nx_nx ?_ | with_reducible refine nx_rt ?_ | with_reducible refine p_if ?_ | with_reducible refine p_asg ?_ | with_reducible refine p_par ?_ | with_reducible refine p_parN ?_ | with_reducible refine p_ret ?_ | with_reducible refine p_retN ?_ | with_reducible refine p_next ?_ | with_reducible refine p_brk ?_ | with_reducible refine p_cnt ?_ | with_reducible refine p_drop ?_ | with_reducible refine p_appE ?_ | with_reducible refine p_lenE ?_ | with_reducible refine p_setI ?_ | with_reducible refine p_dput ?_ | with_reducible refine p_for ?_ | with_reducible refine p_varE ?_ | with_reducible refine p_frzE ?_ | with_reducible refine p_movE ?_ | with_reducible refine p_c ?_ | with_reducible refine p_op ?_ | with_reducible refine p_un ?_ | with_reducible refine p_ar ?_ | with_reducible refine p_me ?_ | with_reducible refine p_ife ?_ | with_reducible refine p_nil ?_ | with_reducible refine p_cons ?_ | with_reducible refine p_call ?_ | with_reducible refine p_lc ?_ | with_reducible refine p_sl ?_ | with_reducible refine p_on ?_ | with_reducible refine p_os ?_ | with_reducible refine p_fis ?_ | with_reducible refine p_rng1 ?_ | with_reducible refine p_rng2 ?_ | with_reducible refine p_fia ?_ | with_reducible refine p_din ?_ | with_reducible refine p_newT ?_ | with_reducible refine p_newK ?_ | with_reducible refine p_test ?_ | with_reducible refine p_band ?_ | with_reducible refine p_bor ?_ | with_reducible refine p_bnot ?_ | with_reducible refine p_yes ?_ | with_reducible refine p_or ?_ | with_reducible refine p_and ?_ | with_reducible refine p_not ?_ | with_reducible refine bh_t ?_ | with_reducible refine bh_f ?_ | with_reducible refine bh_nt ?_ | with_reducible refine bh_nf ?_ | ((with_reducible refine bh_r ?_); refine Exists.intro _ (And.intro rfl ?_)) | ((with_reducible refine ex_id ?_); first | refine Exists.intro _ (And.intro rfl ?_) | refine Exists.intro _ (Exists.intro _ (And.intro rfl ?_))) | ((with_reducible refine and_id ?_); refine And.intro rfl ?_)))
    exact ⟨by rw [encS_len]; omega, fun _ => encS_len, fun _ => .inr z⟩
  · (repeat (first | with_reducible refine p_seq ?_ | with_reducible refine nx_nx ?_ | with_reducible refine nx_rt ?_ | with_reducible refine p_if ?_ | with_reducible refine p_asg ?_ | with_reducible refine p_par ?_ | with_reducible refine p_parN ?_ | with_reducible refine p_ret ?_ | with_reducible refine p_retN ?_ | with_reducible refine p_next ?_ | with_reducible refine p_brk ?_ | with_reducible refine p_cnt ?_ | with_reducible refine p_drop ?_ | with_reducible refine p_appE ?_ | with_reducible refine p_lenE ?_ | with_reducible refine p_setI ?_ | with_reducible refine p_dput ?_ | with_reducible refine p_for ?_ | with_reducible refine p_varE ?_ | with_reducible refine p_frzE ?_ | with_reducible refine p_movE ?_ | with_reducible refine p_c ?_ | with_reducible refine p_op ?_ | with_reducible refine p_un ?_ | with_reducible refine p_ar ?_ | with_reducible refine p_me ?_ | with_reducible refine p_ife ?_ | with_reducible refine p_nil ?_ | with_reducible refine p_cons ?_ | with_reducible refine p_call ?_ | with_reducible refine p_lc ?_ | with_reducible refine p_sl ?_ | with_reducible refine p_on ?_ | with_reducible refine p_os ?_ | with_reducible refine p_fis ?_ | with_reducible refine p_rng1 ?_ | with_reducible refine p_rng2 ?_ | with_reducible refine p_fia ?_ | with_reducible refine p_din ?_ | with_reducible refine p_newT ?_ | with_reducible refine p_newK ?_ | with_reducible refine p_test ?_ | with_reducible refine p_band ?_ | with_reducible refine p_bor ?_ | with_reducible refine p_bnot ?_ | with_reducible refine p_yes ?_ | with_reducible refine p_or ?_ | with_reducible refine p_and ?_ | with_reducible refine p_not ?_ | with_reducible refine bh_t ?_ | with_reducible refine bh_f ?_ | with_reducible refine bh_nt ?_ | with_reducible refine bh_nf ?_ | ((with_reducible refine bh_r ?_); refine Exists.intro _ (And.intro rfl ?_)) | ((with_reducible refine ex_id ?_); first | refine Exists.intro _ (And.intro rfl ?_) | refine Exists.intro _ (Exists.intro _ (And.intro rfl ?_))) | ((with_reducible refine and_id ?_); refine And.intro rfl ?_)))
    refine bh_d (fun z2 => ?_) fun z2 => ?_
    · (repeat (first | with_reducible refine p_seq ?_ | with_reducible refine nx_nx ?_ | with_reducible refine nx_rt ?_ | with_reducible refine p_if ?_ | with_reducible refine p_asg ?_ | with_reducible refine p_par ?_ | with_reducible refine p_parN ?_ | with_reducible refine p_ret ?_ | with_reducible refine p_retN ?_ | with_reducible refine p_next ?_ | with_reducible refine p_brk ?_ | with_reducible refine p_cnt ?_ | with_reducible refine p_drop ?_ | with_reducible refine p_appE ?_ | with_reducible refine p_lenE ?_ | with_reducible refine p_setI ?_ | with_reducible refine p_dput ?_ | with_reducible refine p_for ?_ | with_reducible refine p_varE ?_ | with_reducible refine p_frzE ?_ | with_reducible refine p_movE ?_ | with_reducible refine p_c ?_ | with_reducible refine p_op ?_ | with_reducible refine p_un ?_ | with_reducible refine p_ar ?_ | with_reducible refine p_me ?_ | with_reducible refine p_ife ?_ | with_reducible refine p_nil ?_ | with_reducible refine p_cons ?_ | with_reducible refine p_call ?_ | with_reducible refine p_lc ?_ | with_reducible refine p_sl ?_ | with_reducible refine p_on ?_ | with_reducible refine p_os ?_ | with_reducible refine p_fis ?_ | with_reducible refine p_rng1 ?_ | with_reducible refine p_rng2 ?_ | with_reducible refine p_fia ?_ | with_reducible refine p_din ?_ | with_reducible refine p_newT ?_ | with_reducible refine p_newK ?_ | with_reducible refine p_test ?_ | with_reducible refine p_band ?_ | with_reducible refine p_bor ?_ | with_reducible refine p_bnot ?_ | with_reducible refine p_yes ?_ | with_reducible refine p_or ?_ | with_reducible refine p_and ?_ | with_reducible refine p_not ?_ | with_reducible refine bh_t ?_ | with_reducible refine bh_f ?_ | with_reducible refine bh_nt ?_ | with_reducible refine bh_nf ?_ | ((with_reducible refine bh_r ?_); refine Exists.intro _ (And.intro rfl ?_)) | ((with_reducible refine ex_id ?_); first | refine Exists.intro _ (And.intro rfl ?_) | refine Exists.intro _ (Exists.intro _ (And.intro rfl ?_))) | ((with_reducible refine and_id ?_); refine And.intro rfl ?_)))
      exact ⟨by rw [encS_len]; show as.length + 1 < as.length + 2; omega, fun q => absurd q z, fun _ => .inl (by rw [encS_len])⟩
    · obtain ⟨m, hm⟩ : ∃ m : Nat, place - 1 = (m : Int) := ⟨(place - 1).toNat, by omega⟩
      have hp : m < row.length := by omega
      have bx : ixB (.imm (.tuple (encS row))) (.imm (.int (place - 1))) = some (.imm (.str row[m])) := by
        rw [q_ixT, hm, atI_encS (List.getElem?_eq_getElem hp)]
        rfl
      obtain ⟨j, hj, bi⟩ := index_ok (hr _ (List.getElem_mem hp))
      (repeat (first | with_reducible refine ⟨_, bx, ?_⟩ | with_reducible refine ⟨_, bi, ?_⟩ | with_reducible refine p_seq ?_ | with_reducible refine nx_nx ?_ | with_reducible refine nx_rt ?_ | with_reducible refine p_if ?_ | with_reducible refine p_asg ?_ | with_reducible refine p_par ?_ | with_reducible refine p_parN ?_ | with_reducible refine p_ret ?_ | with_reducible refine p_retN ?_ | with_reducible refine p_next ?_ | with_reducible refine p_brk ?_ | with_reducible refine p_cnt ?_ | with_reducible refine p_drop ?_ | with_reducible refine p_appE ?_ | with_reducible refine p_lenE ?_ | with_reducible refine p_setI ?_ | with_reducible refine p_dput ?_ | with_reducible refine p_for ?_ | with_reducible refine p_varE ?_ | with_reducible refine p_frzE ?_ | with_reducible refine p_movE ?_ | with_reducible refine p_c ?_ | with_reducible refine p_op ?_ | with_reducible refine p_un ?_ | with_reducible refine p_ar ?_ | with_reducible refine p_me ?_ | with_reducible refine p_ife ?_ | with_reducible refine p_nil ?_ | with_reducible refine p_cons ?_ | with_reducible refine p_call ?_ | with_reducible refine p_lc ?_ | with_reducible refine p_sl ?_ | with_reducible refine p_on ?_ | with_reducible refine p_os ?_ | with_reducible refine p_fis ?_ | with_reducible refine p_rng1 ?_ | with_reducible refine p_rng2 ?_ | with_reducible refine p_fia ?_ | with_reducible refine p_din ?_ | with_reducible refine p_newT ?_ | with_reducible refine p_newK ?_ | with_reducible refine p_test ?_ | with_reducible refine p_band ?_ | with_reducible refine p_bor ?_ | with_reducible refine p_bnot ?_ | with_reducible refine p_yes ?_ | with_reducible refine p_or ?_ | with_reducible refine p_and ?_ | with_reducible refine p_not ?_ | with_reducible refine bh_t ?_ | with_reducible refine bh_f ?_ | with_reducible refine bh_nt ?_ | with_reducible refine bh_nf ?_ | ((with_reducible refine bh_r ?_); refine Exists.intro _ (And.intro rfl ?_)) | ((with_reducible refine ex_id ?_); first | refine Exists.intro _ (And.intro rfl ?_) | refine Exists.intro _ (Exists.intro _ (And.intro rfl ?_))) | ((with_reducible refine and_id ?_); refine And.intro rfl ?_)))
      exact ⟨by omega, fun q => absurd q z, fun q => absurd q (by omega)⟩
/-! ### the run ends -/
/-- pairs that are all different, within bounds: not too many -/
theorem pairs_le {a b : Nat} {l : List (Nat × Nat)} (hn : l.Nodup) (h : ∀ p ∈ l, p.1 < a ∧ p.2 < b) : l.length ≤ a * b := by
  have h1 : (l.map fun p => p.1 * b + p.2).Nodup := by
    unfold List.Nodup
    rw [List.pairwise_map]
    refine List.Pairwise.imp_of_mem (fun {p q} hp hq ne e => ne ?_) hn
    obtain ⟨p1, p2⟩ := h p hp
    obtain ⟨q1, q2⟩ := h q hq
    have hb : 0 < b := by omega
    have e1 : p.1 = q.1 := by
      have := congrArg (· / b) e
      simp only [Nat.mul_comm _ b, Nat.mul_add_div hb, Nat.div_eq_of_lt p2, Nat.div_eq_of_lt q2] at this
      omega
    have e2 : p.2 = q.2 := by rw [e1] at e; omega
    exact Prod.ext e1 e2
  have h2 : (l.map fun p => p.1 * b + p.2) ⊆ List.range (a * b) := by
    intro x hx
    obtain ⟨p, hp, rfl⟩ := List.mem_map.mp hx
    obtain ⟨p1, p2⟩ := h p hp
    rw [List.mem_range]
    calc p.1 * b + p.2 < p.1 * b + b := by omega
      _ = (p.1 + 1) * b := by rw [Nat.add_mul, Nat.one_mul]
      _ ≤ a * b := Nat.mul_le_mul_right _ p1
  have := h1.length_le_of_subset h2
  simpa using this
def kvM (met : List (Nat × Nat)) : List (List Key × PyData) := met.map fun q => ([.inl (q.1 : Int), .inl (q.2 : Int)], .int 0)
theorem key_inj {p q : Nat × Nat} (h : ([.inl (p.1 : Int), .inl (p.2 : Int)] : List Key) = [.inl (q.1 : Int), .inl (q.2 : Int)]) : p = q := by
  simp only [List.cons.injEq, Sum.inl.injEq, and_true] at h
  exact Prod.ext (by omega) (by omega)
theorem kvM_get {met : List (Nat × Nat)} {p : Nat × Nat} : (getK (kvM met) [.inl (p.1 : Int), .inl (p.2 : Int)]).isSome = decide (p ∈ met) := by
  induction met with
  | nil => rfl
  | cons q met ih =>
    unfold getK kvM at ih ⊢
    rw [List.map_cons, List.find?_cons]
    by_cases e : q = p
    · subst e; simp
    · have : decide (([.inl (q.1 : Int), .inl (q.2 : Int)] : List Key) = [.inl (p.1 : Int), .inl (p.2 : Int)]) = false := decide_eq_false fun z => e (key_inj z)
      simp only [this]
      rw [ih]
      simp [Ne.symm e]
theorem kvM_put {met : List (Nat × Nat)} {p : Nat × Nat} (h : p ∉ met) : putD (kvM met) [.inl (p.1 : Int), .inl (p.2 : Int)] (.int 0) = kvM (met ++ [p]) := by
  unfold putD
  rw [if_neg]
  · simp [kvM]
  · intro z
    obtain ⟨kv, hkv, e⟩ := List.any_eq_true.mp z
    obtain ⟨q, hq, rfl⟩ := List.mem_map.mp hkv
    exact h (key_inj (of_decide_eq_true e) ▸ hq)
end Lw
set_option maxRecDepth 100000
set_option maxHeartbeats 1000000
namespace Lw
open PySem PySem.Spec PyProof.Rows L2 DL
def WsOk (ls : List Str) (n : Nat) (ws : List (Str × Int)) : Prop := ws.length ≤ 60 ∧ ∀ q ∈ ws, q.1 ∈ ls ∧ 0 ≤ q.2 ∧ q.2 ≤ n + 1
/-- what the run's loop keeps -/
def RunJ (as ls row : List Str) (rows : List PyData) (c : Nat) (k : Nat) (ρ : En) : Prop := ∃ (place mode : Nat) (ws : List (Str × Int)) (met : List (Nat × Nat)) (pl : List PyData) (v8 v9 v10 : Option Bd), ρ = [some (.imm (sheetD as ls)), some (.imm (.tuple rows)), some (.imm (.tuple (encS row))), some (.imm (.int (place : Nat))), some (.imm (.int (mode : Nat))), some (.lst (enc ws)), some (.dt (kvM met)), some (.lst pl), v8, v9, v10] ∧
  place ≤ row.length + 1 ∧ mode < c ∧ met.Nodup ∧ (∀ p ∈ met, p.1 < row.length + 2 ∧ p.2 < c) ∧ k + met.length = (row.length + 2) * c ∧ ws.length ≤ met.length ∧ pl.length = met.length ∧ (∀ q ∈ ws, q.1 ∈ ls ∧ 0 ≤ q.2 ∧ q.2 ≤ row.length + 1) ∧ nbE [v8, v9, v10] = true
theorem run_ok {as ls row : List Str} {prog : PyData} {count : Int} {S : Src} (ok : SheetOk as ls) (hp : IsProg ls as.length count prog) (hc0 : 1 ≤ count) (hc : count ≤ 5) (hr : ∀ x ∈ row, x ∈ as) (hl : row.length ≤ 7) : ∃ r S', F__law_run [.imm (sheetD as ls), .imm prog, .imm (.tuple (encS row))] S = some (r, S') ∧
    ∃ w pl, r = .imm (.tuple [w, .list pl]) ∧ (w = .none ∨ ∃ ws, w = .tuple (enc ws) ∧ WsOk ls row.length ws) := by
  obtain ⟨rows, rfl, hn, hrow⟩ := hp
  obtain ⟨c, hc'⟩ : ∃ c : Nat, rows.length = c := ⟨_, rfl⟩
  have hcz : (c : Int) = count := by omega
  have hB : (row.length + 2) * c ≤ 45 := Nat.le_trans (Nat.mul_le_mul (show row.length + 2 ≤ 9 by omega) (show c ≤ 5 by omega)) (by decide)
  refine run_of rfl rfl ?_
  unfold g__law_run
  (repeat (first | with_reducible refine p_seq ?_ | with_reducible refine nx_nx ?_ | with_reducible refine nx_rt ?_ | with_reducible refine p_if ?_ | with_reducible refine p_asg ?_ | with_reducible refine p_par ?_ | with_reducible refine p_parN ?_ | with_reducible refine p_ret ?_ | with_reducible refine p_retN ?_ | with_reducible refine p_next ?_ | with_reducible refine p_brk ?_ | with_reducible refine p_cnt ?_ | with_reducible refine p_drop ?_ | with_reducible refine p_appE ?_ | with_reducible refine p_lenE ?_ | with_reducible refine p_setI ?_ | with_reducible refine p_dput ?_ | with_reducible refine p_for ?_ | with_reducible refine p_varE ?_ | with_reducible refine p_frzE ?_ | with_reducible refine p_movE ?_ | with_reducible refine p_c ?_ | with_reducible refine p_op ?_ | with_reducible refine p_un ?_ | with_reducible refine p_ar ?_ | with_reducible refine p_me ?_ | with_reducible refine p_ife ?_ | with_reducible refine p_nil ?_ | with_reducible refine p_cons ?_ | with_reducible refine p_call ?_ | with_reducible refine p_lc ?_ | with_reducible refine p_sl ?_ | with_reducible refine p_on ?_ | with_reducible refine p_os ?_ | with_reducible refine p_fis ?_ | with_reducible refine p_rng1 ?_ | with_reducible refine p_rng2 ?_ | with_reducible refine p_fia ?_ | with_reducible refine p_din ?_ | with_reducible refine p_newT ?_ | with_reducible refine p_newK ?_ | with_reducible refine p_test ?_ | with_reducible refine p_band ?_ | with_reducible refine p_bor ?_ | with_reducible refine p_bnot ?_ | with_reducible refine p_yes ?_ | with_reducible refine p_or ?_ | with_reducible refine p_and ?_ | with_reducible refine p_not ?_ | with_reducible refine bh_t ?_ | with_reducible refine bh_f ?_ | with_reducible refine bh_nt ?_ | with_reducible refine bh_nf ?_ | ((with_reducible refine bh_r ?_); refine Exists.intro _ (And.intro rfl ?_)) | ((with_reducible refine ex_id ?_); first | refine Exists.intro _ (And.intro rfl ?_) | refine Exists.intro _ (Exists.intro _ (And.intro rfl ?_))) | ((with_reducible refine and_id ?_); refine And.intro rfl ?_)))
  refine p_while (fun _ => True) (RunJ as ls row rows c) (k := (row.length + 2) * c) (by unfold FU; omega) ⟨0, 0, [], [], [], none, none, none, rfl, by omega, by omega, List.nodup_nil, (fun p h => by cases h), by simp, by simp, by simp, (fun q h => by cases h), rfl⟩ ?_
  rintro k ρ S ⟨place, mode, ws, met, pl, v8, v9, v10, rfl, hpl, hmo, hnd, hmet, hk, hws, hpl2, hin, nb⟩
  (repeat (first | with_reducible refine p_seq ?_ | with_reducible refine nx_nx ?_ | with_reducible refine nx_rt ?_ | with_reducible refine p_if ?_ | with_reducible refine p_asg ?_ | with_reducible refine p_par ?_ | with_reducible refine p_parN ?_ | with_reducible refine p_ret ?_ | with_reducible refine p_retN ?_ | with_reducible refine p_next ?_ | with_reducible refine p_brk ?_ | with_reducible refine p_cnt ?_ | with_reducible refine p_drop ?_ | with_reducible refine p_appE ?_ | with_reducible refine p_lenE ?_ | with_reducible refine p_setI ?_ | with_reducible refine p_dput ?_ | with_reducible refine p_for ?_ | with_reducible refine p_varE ?_ | with_reducible refine p_frzE ?_ | with_reducible refine p_movE ?_ | with_reducible refine p_c ?_ | with_reducible refine p_op ?_ | with_reducible refine p_un ?_ | with_reducible refine p_ar ?_ | with_reducible refine p_me ?_ | with_reducible refine p_ife ?_ | with_reducible refine p_nil ?_ | with_reducible refine p_cons ?_ | with_reducible refine p_call ?_ | with_reducible refine p_lc ?_ | with_reducible refine p_sl ?_ | with_reducible refine p_on ?_ | with_reducible refine p_os ?_ | with_reducible refine p_fis ?_ | with_reducible refine p_rng1 ?_ | with_reducible refine p_rng2 ?_ | with_reducible refine p_fia ?_ | with_reducible refine p_din ?_ | with_reducible refine p_newT ?_ | with_reducible refine p_newK ?_ | with_reducible refine p_test ?_ | with_reducible refine p_band ?_ | with_reducible refine p_bor ?_ | with_reducible refine p_bnot ?_ | with_reducible refine p_yes ?_ | with_reducible refine p_or ?_ | with_reducible refine p_and ?_ | with_reducible refine p_not ?_ | with_reducible refine bh_t ?_ | with_reducible refine bh_f ?_ | with_reducible refine bh_nt ?_ | with_reducible refine bh_nf ?_ | ((with_reducible refine bh_r ?_); refine Exists.intro _ (And.intro rfl ?_)) | ((with_reducible refine ex_id ?_); first | refine Exists.intro _ (And.intro rfl ?_) | refine Exists.intro _ (Exists.intro _ (And.intro rfl ?_))) | ((with_reducible refine and_id ?_); refine And.intro rfl ?_)))
  have hg : (getK (kvM met) [.inl (place : Int), .inl (mode : Int)]).isSome = decide ((place, mode) ∈ met) := kvM_get (p := (place, mode))
  by_cases hin2 : (place, mode) ∈ met
  · rw [if_neg (by show ¬ (!(getK (kvM met) [.inl (place : Int), .inl (mode : Int)]).isSome) = true; rw [hg, decide_eq_true hin2]; simp)]
    (repeat (first | with_reducible refine p_seq ?_ | with_reducible refine nx_nx ?_ | with_reducible refine nx_rt ?_ | with_reducible refine p_if ?_ | with_reducible refine p_asg ?_ | with_reducible refine p_par ?_ | with_reducible refine p_parN ?_ | with_reducible refine p_ret ?_ | with_reducible refine p_retN ?_ | with_reducible refine p_next ?_ | with_reducible refine p_brk ?_ | with_reducible refine p_cnt ?_ | with_reducible refine p_drop ?_ | with_reducible refine p_appE ?_ | with_reducible refine p_lenE ?_ | with_reducible refine p_setI ?_ | with_reducible refine p_dput ?_ | with_reducible refine p_for ?_ | with_reducible refine p_varE ?_ | with_reducible refine p_frzE ?_ | with_reducible refine p_movE ?_ | with_reducible refine p_c ?_ | with_reducible refine p_op ?_ | with_reducible refine p_un ?_ | with_reducible refine p_ar ?_ | with_reducible refine p_me ?_ | with_reducible refine p_ife ?_ | with_reducible refine p_nil ?_ | with_reducible refine p_cons ?_ | with_reducible refine p_call ?_ | with_reducible refine p_lc ?_ | with_reducible refine p_sl ?_ | with_reducible refine p_on ?_ | with_reducible refine p_os ?_ | with_reducible refine p_fis ?_ | with_reducible refine p_rng1 ?_ | with_reducible refine p_rng2 ?_ | with_reducible refine p_fia ?_ | with_reducible refine p_din ?_ | with_reducible refine p_newT ?_ | with_reducible refine p_newK ?_ | with_reducible refine p_test ?_ | with_reducible refine p_band ?_ | with_reducible refine p_bor ?_ | with_reducible refine p_bnot ?_ | with_reducible refine p_yes ?_ | with_reducible refine p_or ?_ | with_reducible refine p_and ?_ | with_reducible refine p_not ?_ | with_reducible refine bh_t ?_ | with_reducible refine bh_f ?_ | with_reducible refine bh_nt ?_ | with_reducible refine bh_nf ?_ | ((with_reducible refine bh_r ?_); refine Exists.intro _ (And.intro rfl ?_)) | ((with_reducible refine ex_id ?_); first | refine Exists.intro _ (And.intro rfl ?_) | refine Exists.intro _ (Exists.intro _ (And.intro rfl ?_))) | ((with_reducible refine and_id ?_); refine And.intro rfl ?_)))
    exact .inl rfl
  rw [if_pos (by show (!(getK (kvM met) [.inl (place : Int), .inl (mode : Int)]).isSome) = true; rw [hg, decide_eq_false hin2]; rfl)]
  have hnd2 : (met ++ [(place, mode)]).Nodup := by
    rw [List.nodup_append]
    exact ⟨hnd, by simp, fun a ha b hb => by simp at hb; subst hb; exact fun e => hin2 (e ▸ ha)⟩
  have hmet2 : ∀ p ∈ met ++ [(place, mode)], p.1 < row.length + 2 ∧ p.2 < c := fun p hp => by
    rw [List.mem_append, List.mem_singleton] at hp
    rcases hp with hp | rfl
    · exact hmet p hp
    · exact ⟨by show place < _; omega, hmo⟩
  have hcount := pairs_le hnd2 hmet2
  rw [List.length_append, List.length_singleton] at hcount
  (repeat (first | with_reducible refine p_seq ?_ | with_reducible refine nx_nx ?_ | with_reducible refine nx_rt ?_ | with_reducible refine p_if ?_ | with_reducible refine p_asg ?_ | with_reducible refine p_par ?_ | with_reducible refine p_parN ?_ | with_reducible refine p_ret ?_ | with_reducible refine p_retN ?_ | with_reducible refine p_next ?_ | with_reducible refine p_brk ?_ | with_reducible refine p_cnt ?_ | with_reducible refine p_drop ?_ | with_reducible refine p_appE ?_ | with_reducible refine p_lenE ?_ | with_reducible refine p_setI ?_ | with_reducible refine p_dput ?_ | with_reducible refine p_for ?_ | with_reducible refine p_varE ?_ | with_reducible refine p_frzE ?_ | with_reducible refine p_movE ?_ | with_reducible refine p_c ?_ | with_reducible refine p_op ?_ | with_reducible refine p_un ?_ | with_reducible refine p_ar ?_ | with_reducible refine p_me ?_ | with_reducible refine p_ife ?_ | with_reducible refine p_nil ?_ | with_reducible refine p_cons ?_ | with_reducible refine p_call ?_ | with_reducible refine p_lc ?_ | with_reducible refine p_sl ?_ | with_reducible refine p_on ?_ | with_reducible refine p_os ?_ | with_reducible refine p_fis ?_ | with_reducible refine p_rng1 ?_ | with_reducible refine p_rng2 ?_ | with_reducible refine p_fia ?_ | with_reducible refine p_din ?_ | with_reducible refine p_newT ?_ | with_reducible refine p_newK ?_ | with_reducible refine p_test ?_ | with_reducible refine p_band ?_ | with_reducible refine p_bor ?_ | with_reducible refine p_bnot ?_ | with_reducible refine p_yes ?_ | with_reducible refine p_or ?_ | with_reducible refine p_and ?_ | with_reducible refine p_not ?_ | with_reducible refine bh_t ?_ | with_reducible refine bh_f ?_ | with_reducible refine bh_nt ?_ | with_reducible refine bh_nf ?_ | ((with_reducible refine bh_r ?_); refine Exists.intro _ (And.intro rfl ?_)) | ((with_reducible refine ex_id ?_); first | refine Exists.intro _ (And.intro rfl ?_) | refine Exists.intro _ (Exists.intro _ (And.intro rfl ?_))) | ((with_reducible refine and_id ?_); refine And.intro rfl ?_)))
  have put : dPut 6 [some (.imm (sheetD as ls)), some (.imm (.tuple rows)), some (.imm (.tuple (encS row))), some (.imm (.int (place : Nat))), some (.imm (.int (mode : Nat))), some (.lst (enc ws)), some (.dt (kvM met)), some (.lst pl), v8, v9, v10] (.imm (.tuple [.int (place : Nat), .int (mode : Nat)])) (.imm (.int 0)) = some (.dt (kvM (met ++ [(place, mode)]))) := by
    show (if (kvM met).length < 1000000 then some (Bd.dt (putD (kvM met) [.inl (place : Int), .inl (mode : Int)] (.int 0))) else none) = _
    rw [if_pos (by simp [kvM]; omega), kvM_put (p := (place, mode)) hin2]
  have n8 : nbE [v8] = true := nb1 nb (by simp)
  have n9 : nbE [v9] = true := nb1 nb (by simp)
  have n10 : nbE [v10] = true := nb1 nb (by simp)
  refine ⟨_, put, nbE_cons rfl (nbE_cons rfl (nbE_cons rfl (nbE_cons rfl (nbE_cons rfl (nbE_cons rfl (nbE_cons rfl (nbE_cons rfl nb))))))), ?_⟩
  (repeat (first | with_reducible refine p_seq ?_ | with_reducible refine nx_nx ?_ | with_reducible refine nx_rt ?_ | with_reducible refine p_if ?_ | with_reducible refine p_asg ?_ | with_reducible refine p_par ?_ | with_reducible refine p_parN ?_ | with_reducible refine p_ret ?_ | with_reducible refine p_retN ?_ | with_reducible refine p_next ?_ | with_reducible refine p_brk ?_ | with_reducible refine p_cnt ?_ | with_reducible refine p_drop ?_ | with_reducible refine p_appE ?_ | with_reducible refine p_lenE ?_ | with_reducible refine p_setI ?_ | with_reducible refine p_dput ?_ | with_reducible refine p_for ?_ | with_reducible refine p_varE ?_ | with_reducible refine p_frzE ?_ | with_reducible refine p_movE ?_ | with_reducible refine p_c ?_ | with_reducible refine p_op ?_ | with_reducible refine p_un ?_ | with_reducible refine p_ar ?_ | with_reducible refine p_me ?_ | with_reducible refine p_ife ?_ | with_reducible refine p_nil ?_ | with_reducible refine p_cons ?_ | with_reducible refine p_call ?_ | with_reducible refine p_lc ?_ | with_reducible refine p_sl ?_ | with_reducible refine p_on ?_ | with_reducible refine p_os ?_ | with_reducible refine p_fis ?_ | with_reducible refine p_rng1 ?_ | with_reducible refine p_rng2 ?_ | with_reducible refine p_fia ?_ | with_reducible refine p_din ?_ | with_reducible refine p_newT ?_ | with_reducible refine p_newK ?_ | with_reducible refine p_test ?_ | with_reducible refine p_band ?_ | with_reducible refine p_bor ?_ | with_reducible refine p_bnot ?_ | with_reducible refine p_yes ?_ | with_reducible refine p_or ?_ | with_reducible refine p_and ?_ | with_reducible refine p_not ?_ | with_reducible refine bh_t ?_ | with_reducible refine bh_f ?_ | with_reducible refine bh_nt ?_ | with_reducible refine bh_nf ?_ | ((with_reducible refine bh_r ?_); refine Exists.intro _ (And.intro rfl ?_)) | ((with_reducible refine ex_id ?_); first | refine Exists.intro _ (And.intro rfl ?_) | refine Exists.intro _ (Exists.intro _ (And.intro rfl ?_))) | ((with_reducible refine and_id ?_); refine And.intro rfl ?_)))
  refine ⟨_, _, rfl, rfl, by omega, nbE_cons rfl (nbE_cons rfl (nbE_cons rfl (nbE_cons rfl (nbE_cons rfl (nbE_cons rfl (nbE_cons rfl (nbE_cons rfl nb))))))), ?_⟩
  have hm : mode < rows.length := by omega
  obtain ⟨steps, e3, hs2, hst⟩ := hrow rows[mode] (List.getElem_mem _)
  have bx : ixB (.imm (.tuple rows)) (.imm (.int (mode : Nat))) = some (.imm (.tuple steps)) := by
    rw [q_ixT, atI_nat (List.getElem?_eq_getElem hm), e3]; rfl
  (repeat (first | with_reducible refine ⟨_, bx, ?_⟩ | with_reducible refine p_seq ?_ | with_reducible refine nx_nx ?_ | with_reducible refine nx_rt ?_ | with_reducible refine p_if ?_ | with_reducible refine p_asg ?_ | with_reducible refine p_par ?_ | with_reducible refine p_parN ?_ | with_reducible refine p_ret ?_ | with_reducible refine p_retN ?_ | with_reducible refine p_next ?_ | with_reducible refine p_brk ?_ | with_reducible refine p_cnt ?_ | with_reducible refine p_drop ?_ | with_reducible refine p_appE ?_ | with_reducible refine p_lenE ?_ | with_reducible refine p_setI ?_ | with_reducible refine p_dput ?_ | with_reducible refine p_for ?_ | with_reducible refine p_varE ?_ | with_reducible refine p_frzE ?_ | with_reducible refine p_movE ?_ | with_reducible refine p_c ?_ | with_reducible refine p_op ?_ | with_reducible refine p_un ?_ | with_reducible refine p_ar ?_ | with_reducible refine p_me ?_ | with_reducible refine p_ife ?_ | with_reducible refine p_nil ?_ | with_reducible refine p_cons ?_ | with_reducible refine p_call ?_ | with_reducible refine p_lc ?_ | with_reducible refine p_sl ?_ | with_reducible refine p_on ?_ | with_reducible refine p_os ?_ | with_reducible refine p_fis ?_ | with_reducible refine p_rng1 ?_ | with_reducible refine p_rng2 ?_ | with_reducible refine p_fia ?_ | with_reducible refine p_din ?_ | with_reducible refine p_newT ?_ | with_reducible refine p_newK ?_ | with_reducible refine p_test ?_ | with_reducible refine p_band ?_ | with_reducible refine p_bor ?_ | with_reducible refine p_bnot ?_ | with_reducible refine p_yes ?_ | with_reducible refine p_or ?_ | with_reducible refine p_and ?_ | with_reducible refine p_not ?_ | with_reducible refine bh_t ?_ | with_reducible refine bh_f ?_ | with_reducible refine bh_nt ?_ | with_reducible refine bh_nf ?_ | ((with_reducible refine bh_r ?_); refine Exists.intro _ (And.intro rfl ?_)) | ((with_reducible refine ex_id ?_); first | refine Exists.intro _ (And.intro rfl ?_) | refine Exists.intro _ (Exists.intro _ (And.intro rfl ?_))) | ((with_reducible refine and_id ?_); refine And.intro rfl ?_)))
  obtain ⟨r0, S1, eS, j, rfl, hj, hj0, hj1⟩ := sign_ok (as := as) (ls := ls) (row := row) (place := (place : Int)) (S := S) hr (by omega)
  refine callP rfl eS rfl ?_
  have hjs : j < steps.length := by omega
  obtain ⟨w, mv, late, e4, hw, hmv, hrim, l0, l1⟩ := hst j steps[j] (List.getElem?_eq_getElem hjs)
  have bx2 : ixB (.imm (.tuple steps)) (.imm (.int (j : Nat))) = some (.imm (.tuple [w, .str mv, .int late])) := by
    rw [q_ixT, atI_nat (List.getElem?_eq_getElem hjs), e4]; rfl
  (repeat (first | with_reducible refine ⟨_, bx2, ?_⟩ | with_reducible refine p_seq ?_ | with_reducible refine nx_nx ?_ | with_reducible refine nx_rt ?_ | with_reducible refine p_if ?_ | with_reducible refine p_asg ?_ | with_reducible refine p_par ?_ | with_reducible refine p_parN ?_ | with_reducible refine p_ret ?_ | with_reducible refine p_retN ?_ | with_reducible refine p_next ?_ | with_reducible refine p_brk ?_ | with_reducible refine p_cnt ?_ | with_reducible refine p_drop ?_ | with_reducible refine p_appE ?_ | with_reducible refine p_lenE ?_ | with_reducible refine p_setI ?_ | with_reducible refine p_dput ?_ | with_reducible refine p_for ?_ | with_reducible refine p_varE ?_ | with_reducible refine p_frzE ?_ | with_reducible refine p_movE ?_ | with_reducible refine p_c ?_ | with_reducible refine p_op ?_ | with_reducible refine p_un ?_ | with_reducible refine p_ar ?_ | with_reducible refine p_me ?_ | with_reducible refine p_ife ?_ | with_reducible refine p_nil ?_ | with_reducible refine p_cons ?_ | with_reducible refine p_call ?_ | with_reducible refine p_lc ?_ | with_reducible refine p_sl ?_ | with_reducible refine p_on ?_ | with_reducible refine p_os ?_ | with_reducible refine p_fis ?_ | with_reducible refine p_rng1 ?_ | with_reducible refine p_rng2 ?_ | with_reducible refine p_fia ?_ | with_reducible refine p_din ?_ | with_reducible refine p_newT ?_ | with_reducible refine p_newK ?_ | with_reducible refine p_test ?_ | with_reducible refine p_band ?_ | with_reducible refine p_bor ?_ | with_reducible refine p_bnot ?_ | with_reducible refine p_yes ?_ | with_reducible refine p_or ?_ | with_reducible refine p_and ?_ | with_reducible refine p_not ?_ | with_reducible refine bh_t ?_ | with_reducible refine bh_f ?_ | with_reducible refine bh_nt ?_ | with_reducible refine bh_nf ?_ | ((with_reducible refine bh_r ?_); refine Exists.intro _ (And.intro rfl ?_)) | ((with_reducible refine ex_id ?_); first | refine Exists.intro _ (And.intro rfl ?_) | refine Exists.intro _ (Exists.intro _ (And.intro rfl ?_))) | ((with_reducible refine and_id ?_); refine And.intro rfl ?_)))
  rcases hw with rfl | ⟨l, hl', rfl⟩
  · (repeat (first | with_reducible refine p_seq ?_ | with_reducible refine nx_nx ?_ | with_reducible refine nx_rt ?_ | with_reducible refine p_if ?_ | with_reducible refine p_asg ?_ | with_reducible refine p_par ?_ | with_reducible refine p_parN ?_ | with_reducible refine p_ret ?_ | with_reducible refine p_retN ?_ | with_reducible refine p_next ?_ | with_reducible refine p_brk ?_ | with_reducible refine p_cnt ?_ | with_reducible refine p_drop ?_ | with_reducible refine p_appE ?_ | with_reducible refine p_lenE ?_ | with_reducible refine p_setI ?_ | with_reducible refine p_dput ?_ | with_reducible refine p_for ?_ | with_reducible refine p_varE ?_ | with_reducible refine p_frzE ?_ | with_reducible refine p_movE ?_ | with_reducible refine p_c ?_ | with_reducible refine p_op ?_ | with_reducible refine p_un ?_ | with_reducible refine p_ar ?_ | with_reducible refine p_me ?_ | with_reducible refine p_ife ?_ | with_reducible refine p_nil ?_ | with_reducible refine p_cons ?_ | with_reducible refine p_call ?_ | with_reducible refine p_lc ?_ | with_reducible refine p_sl ?_ | with_reducible refine p_on ?_ | with_reducible refine p_os ?_ | with_reducible refine p_fis ?_ | with_reducible refine p_rng1 ?_ | with_reducible refine p_rng2 ?_ | with_reducible refine p_fia ?_ | with_reducible refine p_din ?_ | with_reducible refine p_newT ?_ | with_reducible refine p_newK ?_ | with_reducible refine p_test ?_ | with_reducible refine p_band ?_ | with_reducible refine p_bor ?_ | with_reducible refine p_bnot ?_ | with_reducible refine p_yes ?_ | with_reducible refine p_or ?_ | with_reducible refine p_and ?_ | with_reducible refine p_not ?_ | with_reducible refine bh_t ?_ | with_reducible refine bh_f ?_ | with_reducible refine bh_nt ?_ | with_reducible refine bh_nf ?_ | ((with_reducible refine bh_r ?_); refine Exists.intro _ (And.intro rfl ?_)) | ((with_reducible refine ex_id ?_); first | refine Exists.intro _ (And.intro rfl ?_) | refine Exists.intro _ (Exists.intro _ (And.intro rfl ?_))) | ((with_reducible refine and_id ?_); refine And.intro rfl ?_)))
    refine bh_d (fun z => ?_) fun z => ?_
    · (repeat (first | with_reducible refine p_seq ?_ | with_reducible refine nx_nx ?_ | with_reducible refine nx_rt ?_ | with_reducible refine p_if ?_ | with_reducible refine p_asg ?_ | with_reducible refine p_par ?_ | with_reducible refine p_parN ?_ | with_reducible refine p_ret ?_ | with_reducible refine p_retN ?_ | with_reducible refine p_next ?_ | with_reducible refine p_brk ?_ | with_reducible refine p_cnt ?_ | with_reducible refine p_drop ?_ | with_reducible refine p_appE ?_ | with_reducible refine p_lenE ?_ | with_reducible refine p_setI ?_ | with_reducible refine p_dput ?_ | with_reducible refine p_for ?_ | with_reducible refine p_varE ?_ | with_reducible refine p_frzE ?_ | with_reducible refine p_movE ?_ | with_reducible refine p_c ?_ | with_reducible refine p_op ?_ | with_reducible refine p_un ?_ | with_reducible refine p_ar ?_ | with_reducible refine p_me ?_ | with_reducible refine p_ife ?_ | with_reducible refine p_nil ?_ | with_reducible refine p_cons ?_ | with_reducible refine p_call ?_ | with_reducible refine p_lc ?_ | with_reducible refine p_sl ?_ | with_reducible refine p_on ?_ | with_reducible refine p_os ?_ | with_reducible refine p_fis ?_ | with_reducible refine p_rng1 ?_ | with_reducible refine p_rng2 ?_ | with_reducible refine p_fia ?_ | with_reducible refine p_din ?_ | with_reducible refine p_newT ?_ | with_reducible refine p_newK ?_ | with_reducible refine p_test ?_ | with_reducible refine p_band ?_ | with_reducible refine p_bor ?_ | with_reducible refine p_bnot ?_ | with_reducible refine p_yes ?_ | with_reducible refine p_or ?_ | with_reducible refine p_and ?_ | with_reducible refine p_not ?_ | with_reducible refine bh_t ?_ | with_reducible refine bh_f ?_ | with_reducible refine bh_nt ?_ | with_reducible refine bh_nf ?_ | ((with_reducible refine bh_r ?_); refine Exists.intro _ (And.intro rfl ?_)) | ((with_reducible refine ex_id ?_); first | refine Exists.intro _ (And.intro rfl ?_) | refine Exists.intro _ (Exists.intro _ (And.intro rfl ?_))) | ((with_reducible refine and_id ?_); refine And.intro rfl ?_)))
      exact .inr ⟨ws, rfl, by have := hws; omega, hin⟩
    · (repeat (first | with_reducible refine p_seq ?_ | with_reducible refine nx_nx ?_ | with_reducible refine nx_rt ?_ | with_reducible refine p_if ?_ | with_reducible refine p_asg ?_ | with_reducible refine p_par ?_ | with_reducible refine p_parN ?_ | with_reducible refine p_ret ?_ | with_reducible refine p_retN ?_ | with_reducible refine p_next ?_ | with_reducible refine p_brk ?_ | with_reducible refine p_cnt ?_ | with_reducible refine p_drop ?_ | with_reducible refine p_appE ?_ | with_reducible refine p_lenE ?_ | with_reducible refine p_setI ?_ | with_reducible refine p_dput ?_ | with_reducible refine p_for ?_ | with_reducible refine p_varE ?_ | with_reducible refine p_frzE ?_ | with_reducible refine p_movE ?_ | with_reducible refine p_c ?_ | with_reducible refine p_op ?_ | with_reducible refine p_un ?_ | with_reducible refine p_ar ?_ | with_reducible refine p_me ?_ | with_reducible refine p_ife ?_ | with_reducible refine p_nil ?_ | with_reducible refine p_cons ?_ | with_reducible refine p_call ?_ | with_reducible refine p_lc ?_ | with_reducible refine p_sl ?_ | with_reducible refine p_on ?_ | with_reducible refine p_os ?_ | with_reducible refine p_fis ?_ | with_reducible refine p_rng1 ?_ | with_reducible refine p_rng2 ?_ | with_reducible refine p_fia ?_ | with_reducible refine p_din ?_ | with_reducible refine p_newT ?_ | with_reducible refine p_newK ?_ | with_reducible refine p_test ?_ | with_reducible refine p_band ?_ | with_reducible refine p_bor ?_ | with_reducible refine p_bnot ?_ | with_reducible refine p_yes ?_ | with_reducible refine p_or ?_ | with_reducible refine p_and ?_ | with_reducible refine p_not ?_ | with_reducible refine bh_t ?_ | with_reducible refine bh_f ?_ | with_reducible refine bh_nt ?_ | with_reducible refine bh_nf ?_ | ((with_reducible refine bh_r ?_); refine Exists.intro _ (And.intro rfl ?_)) | ((with_reducible refine ex_id ?_); first | refine Exists.intro _ (And.intro rfl ?_) | refine Exists.intro _ (Exists.intro _ (And.intro rfl ?_))) | ((with_reducible refine and_id ?_); refine And.intro rfl ?_)))
      refine bh_d (fun z2 => ?_) fun z2 => ?_
      · have h1 : place + 1 ≤ row.length + 1 := by
          rcases Nat.lt_or_ge row.length place with h | h
          · exact absurd z2 (hrim.2 ((hj1 (by omega)).resolve_right (by omega)))
          · omega
        obtain ⟨lt, rfl⟩ := Int.eq_ofNat_of_zero_le l0
        (repeat (first | with_reducible refine p_seq ?_ | with_reducible refine nx_nx ?_ | with_reducible refine nx_rt ?_ | with_reducible refine p_if ?_ | with_reducible refine p_asg ?_ | with_reducible refine p_par ?_ | with_reducible refine p_parN ?_ | with_reducible refine p_ret ?_ | with_reducible refine p_retN ?_ | with_reducible refine p_next ?_ | with_reducible refine p_brk ?_ | with_reducible refine p_cnt ?_ | with_reducible refine p_drop ?_ | with_reducible refine p_appE ?_ | with_reducible refine p_lenE ?_ | with_reducible refine p_setI ?_ | with_reducible refine p_dput ?_ | with_reducible refine p_for ?_ | with_reducible refine p_varE ?_ | with_reducible refine p_frzE ?_ | with_reducible refine p_movE ?_ | with_reducible refine p_c ?_ | with_reducible refine p_op ?_ | with_reducible refine p_un ?_ | with_reducible refine p_ar ?_ | with_reducible refine p_me ?_ | with_reducible refine p_ife ?_ | with_reducible refine p_nil ?_ | with_reducible refine p_cons ?_ | with_reducible refine p_call ?_ | with_reducible refine p_lc ?_ | with_reducible refine p_sl ?_ | with_reducible refine p_on ?_ | with_reducible refine p_os ?_ | with_reducible refine p_fis ?_ | with_reducible refine p_rng1 ?_ | with_reducible refine p_rng2 ?_ | with_reducible refine p_fia ?_ | with_reducible refine p_din ?_ | with_reducible refine p_newT ?_ | with_reducible refine p_newK ?_ | with_reducible refine p_test ?_ | with_reducible refine p_band ?_ | with_reducible refine p_bor ?_ | with_reducible refine p_bnot ?_ | with_reducible refine p_yes ?_ | with_reducible refine p_or ?_ | with_reducible refine p_and ?_ | with_reducible refine p_not ?_ | with_reducible refine bh_t ?_ | with_reducible refine bh_f ?_ | with_reducible refine bh_nt ?_ | with_reducible refine bh_nf ?_ | ((with_reducible refine bh_r ?_); refine Exists.intro _ (And.intro rfl ?_)) | ((with_reducible refine ex_id ?_); first | refine Exists.intro _ (And.intro rfl ?_) | refine Exists.intro _ (Exists.intro _ (And.intro rfl ?_))) | ((with_reducible refine and_id ?_); refine And.intro rfl ?_)))
        exact ⟨k - 1, by omega, place + 1, lt, ws, met ++ [(place, mode)], _, _, _, _, rfl, h1, by omega, hnd2, hmet2, by rw [List.length_append, List.length_singleton]; omega, by have := hws; rw [List.length_append, List.length_singleton]; omega, by rw [List.length_append, List.length_append, hpl2]; rfl, hin, rfl⟩
      · have h1 : 1 ≤ place := by
          rcases Nat.eq_zero_or_pos place with h | h
          · rcases hmv with q | q | q
            · exact absurd q z2
            · exact absurd q (hrim.1 (hj0 (by omega)))
            · exact absurd q z
          · exact h
        obtain ⟨lt, rfl⟩ := Int.eq_ofNat_of_zero_le l0
        obtain ⟨p, rfl⟩ : ∃ p, place = p + 1 := ⟨place - 1, by omega⟩
        (repeat (first | with_reducible refine p_seq ?_ | with_reducible refine nx_nx ?_ | with_reducible refine nx_rt ?_ | with_reducible refine p_if ?_ | with_reducible refine p_asg ?_ | with_reducible refine p_par ?_ | with_reducible refine p_parN ?_ | with_reducible refine p_ret ?_ | with_reducible refine p_retN ?_ | with_reducible refine p_next ?_ | with_reducible refine p_brk ?_ | with_reducible refine p_cnt ?_ | with_reducible refine p_drop ?_ | with_reducible refine p_appE ?_ | with_reducible refine p_lenE ?_ | with_reducible refine p_setI ?_ | with_reducible refine p_dput ?_ | with_reducible refine p_for ?_ | with_reducible refine p_varE ?_ | with_reducible refine p_frzE ?_ | with_reducible refine p_movE ?_ | with_reducible refine p_c ?_ | with_reducible refine p_op ?_ | with_reducible refine p_un ?_ | with_reducible refine p_ar ?_ | with_reducible refine p_me ?_ | with_reducible refine p_ife ?_ | with_reducible refine p_nil ?_ | with_reducible refine p_cons ?_ | with_reducible refine p_call ?_ | with_reducible refine p_lc ?_ | with_reducible refine p_sl ?_ | with_reducible refine p_on ?_ | with_reducible refine p_os ?_ | with_reducible refine p_fis ?_ | with_reducible refine p_rng1 ?_ | with_reducible refine p_rng2 ?_ | with_reducible refine p_fia ?_ | with_reducible refine p_din ?_ | with_reducible refine p_newT ?_ | with_reducible refine p_newK ?_ | with_reducible refine p_test ?_ | with_reducible refine p_band ?_ | with_reducible refine p_bor ?_ | with_reducible refine p_bnot ?_ | with_reducible refine p_yes ?_ | with_reducible refine p_or ?_ | with_reducible refine p_and ?_ | with_reducible refine p_not ?_ | with_reducible refine bh_t ?_ | with_reducible refine bh_f ?_ | with_reducible refine bh_nt ?_ | with_reducible refine bh_nf ?_ | ((with_reducible refine bh_r ?_); refine Exists.intro _ (And.intro rfl ?_)) | ((with_reducible refine ex_id ?_); first | refine Exists.intro _ (And.intro rfl ?_) | refine Exists.intro _ (Exists.intro _ (And.intro rfl ?_))) | ((with_reducible refine and_id ?_); refine And.intro rfl ?_)))
        refine ⟨k - 1, by omega, p, lt, ws, met ++ [(p + 1, mode)], pl ++ [.int ((p + 1 : Nat) : Int)], some (.imm .none), some (.imm (.str mv)), some (.imm (.int (lt : Nat))), ?_, by omega, by omega, hnd2, hmet2, by rw [List.length_append, List.length_singleton]; omega, by have := hws; rw [List.length_append, List.length_singleton]; omega, by rw [List.length_append, List.length_append, hpl2]; rfl, hin, rfl⟩
        rw [show ((p : Nat) : Int) = ((p + 1 : Nat) : Int) + -1 by omega]
        rfl
  · have hl2 : (ws ++ [(l, (place : Int))]).length ≤ met.length + 1 := by rw [List.length_append, List.length_singleton]; omega
    have hin3 : ∀ q ∈ ws ++ [(l, (place : Int))], q.1 ∈ ls ∧ 0 ≤ q.2 ∧ q.2 ≤ row.length + 1 := fun q hq => by
      rw [List.mem_append, List.mem_singleton] at hq
      rcases hq with hq | rfl
      · exact hin q hq
      · exact ⟨hl', by show (0 : Int) ≤ (place : Int); omega, by show (place : Int) ≤ _; omega⟩
    have e5 : enc ws ++ [.tuple [.str l, .int (place : Int)]] = enc (ws ++ [(l, (place : Int))]) := by simp [enc, encP]
    (repeat (first | with_reducible refine p_seq ?_ | with_reducible refine nx_nx ?_ | with_reducible refine nx_rt ?_ | with_reducible refine p_if ?_ | with_reducible refine p_asg ?_ | with_reducible refine p_par ?_ | with_reducible refine p_parN ?_ | with_reducible refine p_ret ?_ | with_reducible refine p_retN ?_ | with_reducible refine p_next ?_ | with_reducible refine p_brk ?_ | with_reducible refine p_cnt ?_ | with_reducible refine p_drop ?_ | with_reducible refine p_appE ?_ | with_reducible refine p_lenE ?_ | with_reducible refine p_setI ?_ | with_reducible refine p_dput ?_ | with_reducible refine p_for ?_ | with_reducible refine p_varE ?_ | with_reducible refine p_frzE ?_ | with_reducible refine p_movE ?_ | with_reducible refine p_c ?_ | with_reducible refine p_op ?_ | with_reducible refine p_un ?_ | with_reducible refine p_ar ?_ | with_reducible refine p_me ?_ | with_reducible refine p_ife ?_ | with_reducible refine p_nil ?_ | with_reducible refine p_cons ?_ | with_reducible refine p_call ?_ | with_reducible refine p_lc ?_ | with_reducible refine p_sl ?_ | with_reducible refine p_on ?_ | with_reducible refine p_os ?_ | with_reducible refine p_fis ?_ | with_reducible refine p_rng1 ?_ | with_reducible refine p_rng2 ?_ | with_reducible refine p_fia ?_ | with_reducible refine p_din ?_ | with_reducible refine p_newT ?_ | with_reducible refine p_newK ?_ | with_reducible refine p_test ?_ | with_reducible refine p_band ?_ | with_reducible refine p_bor ?_ | with_reducible refine p_bnot ?_ | with_reducible refine p_yes ?_ | with_reducible refine p_or ?_ | with_reducible refine p_and ?_ | with_reducible refine p_not ?_ | with_reducible refine bh_t ?_ | with_reducible refine bh_f ?_ | with_reducible refine bh_nt ?_ | with_reducible refine bh_nf ?_ | ((with_reducible refine bh_r ?_); refine Exists.intro _ (And.intro rfl ?_)) | ((with_reducible refine ex_id ?_); first | refine Exists.intro _ (And.intro rfl ?_) | refine Exists.intro _ (Exists.intro _ (And.intro rfl ?_))) | ((with_reducible refine and_id ?_); refine And.intro rfl ?_)))
    refine ⟨_, _, rfl, rfl, by rw [enc_len]; omega, rfl, ?_⟩
    rw [e5]
    (repeat (first | with_reducible refine p_seq ?_ | with_reducible refine nx_nx ?_ | with_reducible refine nx_rt ?_ | with_reducible refine p_if ?_ | with_reducible refine p_asg ?_ | with_reducible refine p_par ?_ | with_reducible refine p_parN ?_ | with_reducible refine p_ret ?_ | with_reducible refine p_retN ?_ | with_reducible refine p_next ?_ | with_reducible refine p_brk ?_ | with_reducible refine p_cnt ?_ | with_reducible refine p_drop ?_ | with_reducible refine p_appE ?_ | with_reducible refine p_lenE ?_ | with_reducible refine p_setI ?_ | with_reducible refine p_dput ?_ | with_reducible refine p_for ?_ | with_reducible refine p_varE ?_ | with_reducible refine p_frzE ?_ | with_reducible refine p_movE ?_ | with_reducible refine p_c ?_ | with_reducible refine p_op ?_ | with_reducible refine p_un ?_ | with_reducible refine p_ar ?_ | with_reducible refine p_me ?_ | with_reducible refine p_ife ?_ | with_reducible refine p_nil ?_ | with_reducible refine p_cons ?_ | with_reducible refine p_call ?_ | with_reducible refine p_lc ?_ | with_reducible refine p_sl ?_ | with_reducible refine p_on ?_ | with_reducible refine p_os ?_ | with_reducible refine p_fis ?_ | with_reducible refine p_rng1 ?_ | with_reducible refine p_rng2 ?_ | with_reducible refine p_fia ?_ | with_reducible refine p_din ?_ | with_reducible refine p_newT ?_ | with_reducible refine p_newK ?_ | with_reducible refine p_test ?_ | with_reducible refine p_band ?_ | with_reducible refine p_bor ?_ | with_reducible refine p_bnot ?_ | with_reducible refine p_yes ?_ | with_reducible refine p_or ?_ | with_reducible refine p_and ?_ | with_reducible refine p_not ?_ | with_reducible refine bh_t ?_ | with_reducible refine bh_f ?_ | with_reducible refine bh_nt ?_ | with_reducible refine bh_nf ?_ | ((with_reducible refine bh_r ?_); refine Exists.intro _ (And.intro rfl ?_)) | ((with_reducible refine ex_id ?_); first | refine Exists.intro _ (And.intro rfl ?_) | refine Exists.intro _ (Exists.intro _ (And.intro rfl ?_))) | ((with_reducible refine and_id ?_); refine And.intro rfl ?_)))
    refine bh_d (fun z => ?_) fun z => ?_
    · (repeat (first | with_reducible refine p_seq ?_ | with_reducible refine nx_nx ?_ | with_reducible refine nx_rt ?_ | with_reducible refine p_if ?_ | with_reducible refine p_asg ?_ | with_reducible refine p_par ?_ | with_reducible refine p_parN ?_ | with_reducible refine p_ret ?_ | with_reducible refine p_retN ?_ | with_reducible refine p_next ?_ | with_reducible refine p_brk ?_ | with_reducible refine p_cnt ?_ | with_reducible refine p_drop ?_ | with_reducible refine p_appE ?_ | with_reducible refine p_lenE ?_ | with_reducible refine p_setI ?_ | with_reducible refine p_dput ?_ | with_reducible refine p_for ?_ | with_reducible refine p_varE ?_ | with_reducible refine p_frzE ?_ | with_reducible refine p_movE ?_ | with_reducible refine p_c ?_ | with_reducible refine p_op ?_ | with_reducible refine p_un ?_ | with_reducible refine p_ar ?_ | with_reducible refine p_me ?_ | with_reducible refine p_ife ?_ | with_reducible refine p_nil ?_ | with_reducible refine p_cons ?_ | with_reducible refine p_call ?_ | with_reducible refine p_lc ?_ | with_reducible refine p_sl ?_ | with_reducible refine p_on ?_ | with_reducible refine p_os ?_ | with_reducible refine p_fis ?_ | with_reducible refine p_rng1 ?_ | with_reducible refine p_rng2 ?_ | with_reducible refine p_fia ?_ | with_reducible refine p_din ?_ | with_reducible refine p_newT ?_ | with_reducible refine p_newK ?_ | with_reducible refine p_test ?_ | with_reducible refine p_band ?_ | with_reducible refine p_bor ?_ | with_reducible refine p_bnot ?_ | with_reducible refine p_yes ?_ | with_reducible refine p_or ?_ | with_reducible refine p_and ?_ | with_reducible refine p_not ?_ | with_reducible refine bh_t ?_ | with_reducible refine bh_f ?_ | with_reducible refine bh_nt ?_ | with_reducible refine bh_nf ?_ | ((with_reducible refine bh_r ?_); refine Exists.intro _ (And.intro rfl ?_)) | ((with_reducible refine ex_id ?_); first | refine Exists.intro _ (And.intro rfl ?_) | refine Exists.intro _ (Exists.intro _ (And.intro rfl ?_))) | ((with_reducible refine and_id ?_); refine And.intro rfl ?_)))
      exact .inr ⟨(ws ++ [(l, (place : Int))]), rfl, by have := hl2; omega, hin3⟩
    · (repeat (first | with_reducible refine p_seq ?_ | with_reducible refine nx_nx ?_ | with_reducible refine nx_rt ?_ | with_reducible refine p_if ?_ | with_reducible refine p_asg ?_ | with_reducible refine p_par ?_ | with_reducible refine p_parN ?_ | with_reducible refine p_ret ?_ | with_reducible refine p_retN ?_ | with_reducible refine p_next ?_ | with_reducible refine p_brk ?_ | with_reducible refine p_cnt ?_ | with_reducible refine p_drop ?_ | with_reducible refine p_appE ?_ | with_reducible refine p_lenE ?_ | with_reducible refine p_setI ?_ | with_reducible refine p_dput ?_ | with_reducible refine p_for ?_ | with_reducible refine p_varE ?_ | with_reducible refine p_frzE ?_ | with_reducible refine p_movE ?_ | with_reducible refine p_c ?_ | with_reducible refine p_op ?_ | with_reducible refine p_un ?_ | with_reducible refine p_ar ?_ | with_reducible refine p_me ?_ | with_reducible refine p_ife ?_ | with_reducible refine p_nil ?_ | with_reducible refine p_cons ?_ | with_reducible refine p_call ?_ | with_reducible refine p_lc ?_ | with_reducible refine p_sl ?_ | with_reducible refine p_on ?_ | with_reducible refine p_os ?_ | with_reducible refine p_fis ?_ | with_reducible refine p_rng1 ?_ | with_reducible refine p_rng2 ?_ | with_reducible refine p_fia ?_ | with_reducible refine p_din ?_ | with_reducible refine p_newT ?_ | with_reducible refine p_newK ?_ | with_reducible refine p_test ?_ | with_reducible refine p_band ?_ | with_reducible refine p_bor ?_ | with_reducible refine p_bnot ?_ | with_reducible refine p_yes ?_ | with_reducible refine p_or ?_ | with_reducible refine p_and ?_ | with_reducible refine p_not ?_ | with_reducible refine bh_t ?_ | with_reducible refine bh_f ?_ | with_reducible refine bh_nt ?_ | with_reducible refine bh_nf ?_ | ((with_reducible refine bh_r ?_); refine Exists.intro _ (And.intro rfl ?_)) | ((with_reducible refine ex_id ?_); first | refine Exists.intro _ (And.intro rfl ?_) | refine Exists.intro _ (Exists.intro _ (And.intro rfl ?_))) | ((with_reducible refine and_id ?_); refine And.intro rfl ?_)))
      refine bh_d (fun z2 => ?_) fun z2 => ?_
      · have h1 : place + 1 ≤ row.length + 1 := by
          rcases Nat.lt_or_ge row.length place with h | h
          · exact absurd z2 (hrim.2 ((hj1 (by omega)).resolve_right (by omega)))
          · omega
        obtain ⟨lt, rfl⟩ := Int.eq_ofNat_of_zero_le l0
        (repeat (first | with_reducible refine p_seq ?_ | with_reducible refine nx_nx ?_ | with_reducible refine nx_rt ?_ | with_reducible refine p_if ?_ | with_reducible refine p_asg ?_ | with_reducible refine p_par ?_ | with_reducible refine p_parN ?_ | with_reducible refine p_ret ?_ | with_reducible refine p_retN ?_ | with_reducible refine p_next ?_ | with_reducible refine p_brk ?_ | with_reducible refine p_cnt ?_ | with_reducible refine p_drop ?_ | with_reducible refine p_appE ?_ | with_reducible refine p_lenE ?_ | with_reducible refine p_setI ?_ | with_reducible refine p_dput ?_ | with_reducible refine p_for ?_ | with_reducible refine p_varE ?_ | with_reducible refine p_frzE ?_ | with_reducible refine p_movE ?_ | with_reducible refine p_c ?_ | with_reducible refine p_op ?_ | with_reducible refine p_un ?_ | with_reducible refine p_ar ?_ | with_reducible refine p_me ?_ | with_reducible refine p_ife ?_ | with_reducible refine p_nil ?_ | with_reducible refine p_cons ?_ | with_reducible refine p_call ?_ | with_reducible refine p_lc ?_ | with_reducible refine p_sl ?_ | with_reducible refine p_on ?_ | with_reducible refine p_os ?_ | with_reducible refine p_fis ?_ | with_reducible refine p_rng1 ?_ | with_reducible refine p_rng2 ?_ | with_reducible refine p_fia ?_ | with_reducible refine p_din ?_ | with_reducible refine p_newT ?_ | with_reducible refine p_newK ?_ | with_reducible refine p_test ?_ | with_reducible refine p_band ?_ | with_reducible refine p_bor ?_ | with_reducible refine p_bnot ?_ | with_reducible refine p_yes ?_ | with_reducible refine p_or ?_ | with_reducible refine p_and ?_ | with_reducible refine p_not ?_ | with_reducible refine bh_t ?_ | with_reducible refine bh_f ?_ | with_reducible refine bh_nt ?_ | with_reducible refine bh_nf ?_ | ((with_reducible refine bh_r ?_); refine Exists.intro _ (And.intro rfl ?_)) | ((with_reducible refine ex_id ?_); first | refine Exists.intro _ (And.intro rfl ?_) | refine Exists.intro _ (Exists.intro _ (And.intro rfl ?_))) | ((with_reducible refine and_id ?_); refine And.intro rfl ?_)))
        exact ⟨k - 1, by omega, place + 1, lt, (ws ++ [(l, (place : Int))]), met ++ [(place, mode)], _, _, _, _, rfl, h1, by omega, hnd2, hmet2, by rw [List.length_append, List.length_singleton]; omega, by have := hl2; simp only [List.length_append, List.length_singleton] at this ⊢; omega, by rw [List.length_append, List.length_append, hpl2]; rfl, hin3, rfl⟩
      · have h1 : 1 ≤ place := by
          rcases Nat.eq_zero_or_pos place with h | h
          · rcases hmv with q | q | q
            · exact absurd q z2
            · exact absurd q (hrim.1 (hj0 (by omega)))
            · exact absurd q z
          · exact h
        obtain ⟨lt, rfl⟩ := Int.eq_ofNat_of_zero_le l0
        obtain ⟨p, rfl⟩ : ∃ p, place = p + 1 := ⟨place - 1, by omega⟩
        (repeat (first | with_reducible refine p_seq ?_ | with_reducible refine nx_nx ?_ | with_reducible refine nx_rt ?_ | with_reducible refine p_if ?_ | with_reducible refine p_asg ?_ | with_reducible refine p_par ?_ | with_reducible refine p_parN ?_ | with_reducible refine p_ret ?_ | with_reducible refine p_retN ?_ | with_reducible refine p_next ?_ | with_reducible refine p_brk ?_ | with_reducible refine p_cnt ?_ | with_reducible refine p_drop ?_ | with_reducible refine p_appE ?_ | with_reducible refine p_lenE ?_ | with_reducible refine p_setI ?_ | with_reducible refine p_dput ?_ | with_reducible refine p_for ?_ | with_reducible refine p_varE ?_ | with_reducible refine p_frzE ?_ | with_reducible refine p_movE ?_ | with_reducible refine p_c ?_ | with_reducible refine p_op ?_ | with_reducible refine p_un ?_ | with_reducible refine p_ar ?_ | with_reducible refine p_me ?_ | with_reducible refine p_ife ?_ | with_reducible refine p_nil ?_ | with_reducible refine p_cons ?_ | with_reducible refine p_call ?_ | with_reducible refine p_lc ?_ | with_reducible refine p_sl ?_ | with_reducible refine p_on ?_ | with_reducible refine p_os ?_ | with_reducible refine p_fis ?_ | with_reducible refine p_rng1 ?_ | with_reducible refine p_rng2 ?_ | with_reducible refine p_fia ?_ | with_reducible refine p_din ?_ | with_reducible refine p_newT ?_ | with_reducible refine p_newK ?_ | with_reducible refine p_test ?_ | with_reducible refine p_band ?_ | with_reducible refine p_bor ?_ | with_reducible refine p_bnot ?_ | with_reducible refine p_yes ?_ | with_reducible refine p_or ?_ | with_reducible refine p_and ?_ | with_reducible refine p_not ?_ | with_reducible refine bh_t ?_ | with_reducible refine bh_f ?_ | with_reducible refine bh_nt ?_ | with_reducible refine bh_nf ?_ | ((with_reducible refine bh_r ?_); refine Exists.intro _ (And.intro rfl ?_)) | ((with_reducible refine ex_id ?_); first | refine Exists.intro _ (And.intro rfl ?_) | refine Exists.intro _ (Exists.intro _ (And.intro rfl ?_))) | ((with_reducible refine and_id ?_); refine And.intro rfl ?_)))
        refine ⟨k - 1, by omega, p, lt, (ws ++ [(l, ((p + 1 : Nat) : Int))]), met ++ [(p + 1, mode)], pl ++ [.int ((p + 1 : Nat) : Int)], some (.imm (.str l)), some (.imm (.str mv)), some (.imm (.int (lt : Nat))), ?_, by omega, by omega, hnd2, hmet2, by rw [List.length_append, List.length_singleton]; omega, by have := hl2; simp only [List.length_append, List.length_singleton] at this ⊢; omega, by rw [List.length_append, List.length_append, hpl2]; rfl, hin3, rfl⟩
        rw [show ((p : Nat) : Int) = ((p + 1 : Nat) : Int) + -1 by omega]
        rfl
end Lw
set_option maxRecDepth 100000
set_option maxHeartbeats 1000000
namespace Lw
open PySem PySem.Spec PyProof.Rows L2 DL
/-! ### a writing, or none -/
abbrev Wr := Option (List (Str × Int))
def mapW (f : List (Str × Int) → List PyData) : Wr → PyData
  | none => .none
  | some ws => .tuple (f ws)
def WOk (ls : List Str) (n : Nat) (W : Wr) : Prop := ∀ ws, W = some ws → WsOk ls n ws
theorem ws_str {as ls : List Str} {n : Nat} {ws : List (Str × Int)} (ok : SheetOk as ls) (h : WsOk ls n ws) : StrsOk ws := fun q hq => (ok.let_ q.1 (h.2 q hq).1).1
theorem ws_nlr {as ls : List Str} {n : Nat} {ws : List (Str × Int)} (ok : SheetOk as ls) (h : WsOk ls n ws) : ∀ q ∈ ws, ¬ isLR q.1 := fun q hq => (ok.let_ q.1 (h.2 q hq).1).2.1
theorem ws_len {ls : List Str} {n : Nat} {ws : List (Str × Int)} (h : WsOk ls n ws) : ws.length ≤ 1000 := by have := h.1; omega
section
variable {as ls : List Str} {n : Nat} {W : Wr} {cut : Int} {S : Src} {Q : Bd → Src → Prop} {bs : List Bd}
/-- a call by what it gives -/
theorem cp_eq {F : FD} {cs : List Bd} {d : PyData} (e1 : argsB bs = some cs) (hb : bs.any Bd.lent = false) (h : ∃ r S', F cs S = some (r, S') ∧ r = .imm d) (q : ∀ S', Q (.imm d) S') : CallP F bs S Q := by
  obtain ⟨r, S', e2, rfl⟩ := h
  exact callP e1 e2 (by rw [hb]; rfl) (q S')
theorem lt_W (h : WOk ls n W) : ∃ r S', F__law_turns [.imm (mapW enc W), .imm (.int cut)] S = some (r, S') ∧ r = .imm (mapW (fun ws => encS (turnsL cut ws)) W) := by
  cases W with
  | none => exact law_turns_none
  | some ws => exact law_turns_ok (ws_len (h ws rfl))
theorem bl_W (h : WOk ls n W) : ∃ r S', F_blocks_of [.imm (mapW enc W), .imm (.int cut)] S = some (r, S') ∧ r = .imm (mapW (fun ws => (blkL cut ws).map blkD) W) := by
  cases W with
  | none => exact ⟨_, S, rfl, rfl⟩
  | some ws => exact ⟨_, S, blocks_ok (ws_len (h ws rfl)), rfl⟩
theorem lb_W (ok : SheetOk as ls) (h : WOk ls n W) : ∃ r S', F__law_blocks [.imm (mapW enc W), .imm (.int cut)] S = some (r, S') ∧ r = .imm (mapW (fun ws => (blkL cut ws).map blkD) W) := by
  cases W with
  | none => exact law_blocks_none
  | some ws => exact law_blocks_ok (ws_len (h ws rfl)) (ws_str ok (h ws rfl))
theorem tu_W (h : WOk ls n W) : ∃ r S', F_turns_of [.imm (mapW enc W), .imm (.int cut)] S = some (r, S') ∧ r = .imm (mapW (fun ws => encS (turnsL cut ws)) W) := by
  cases W with
  | none => exact turns_none
  | some ws => exact turns_ok (ws_len (h ws rfl))
theorem pi_W (ok : SheetOk as ls) (h : WOk ls n W) : ∃ r S', F_piece_of [.imm (mapW enc W), .imm (.int cut)] S = some (r, S') ∧ r = .imm (mapW (fun ws => encS (pieceL cut ws)) W) := by
  cases W with
  | none => exact piece_none
  | some ws => exact piece_ok (ws_len (h ws rfl)) (ws_str ok (h ws rfl))
theorem lp_W (ok : SheetOk as ls) (h : WOk ls n W) : ∃ r S', F__law_piece [.imm (mapW enc W), .imm (.int cut)] S = some (r, S') ∧ r = .imm (mapW (fun ws => encS (pieceL cut ws)) W) := by
  cases W with
  | none => exact law_piece_none
  | some ws => exact law_piece_ok (ws_len (h ws rfl)) (ws_str ok (h ws rfl)) (ws_nlr ok (h ws rfl))
theorem piece_len2 {ws : List (Str × Int)} (h : WsOk ls n ws) : (pieceL cut ws).length ≤ 1000 := by
  have := piece_len (p := cut) (ws := ws)
  have := h.1
  omega
theorem be_W (ok : SheetOk as ls) (h : WOk ls n W) : ∃ r S', F_turns_behind [.imm (mapW (fun ws => encS (pieceL cut ws)) W)] S = some (r, S') ∧ r = .imm (mapW (fun ws => encS (toldL "R" "L" (pieceL cut ws))) W) := by
  cases W with
  | none => exact behind_none
  | some ws => exact behind_ok (piece_len2 (h ws rfl))
theorem ah_W (ok : SheetOk as ls) (h : WOk ls n W) : ∃ r S', F_turns_ahead [.imm (mapW (fun ws => encS (pieceL cut ws)) W)] S = some (r, S') ∧ r = .imm (mapW (fun ws => encS (toldL "L" "R" (pieceL cut ws))) W) := by
  cases W with
  | none => exact ahead_none
  | some ws => exact ahead_ok (piece_len2 (h ws rfl))
theorem pa_W {a : Str} (ha : isLR a) (h : WOk ls n W) : ∃ r S', F__law_parts [.imm (mapW (fun ws => encS (pieceL cut ws)) W), .imm (.str a)] S = some (r, S') ∧ r = .imm (mapW (fun ws => encS (partsL a (pieceL cut ws))) W) := by
  cases W with
  | none => exact parts_none
  | some ws => exact parts_ok (piece_len2 (h ws rfl)) ha
theorem is_piece_none {ls : List Str} : ∃ r S', F_is_piece [.imm .none, .imm (.tuple (encS ls))] S = some (r, S') ∧ r = .imm (.bool true) := by
  refine run_of rfl rfl ?_
  unfold g_is_piece
  (repeat (first | with_reducible refine p_seq ?_ | with_reducible refine nx_nx ?_ | with_reducible refine nx_rt ?_ | with_reducible refine p_if ?_ | with_reducible refine p_asg ?_ | with_reducible refine p_par ?_ | with_reducible refine p_parN ?_ | with_reducible refine p_ret ?_ | with_reducible refine p_retN ?_ | with_reducible refine p_next ?_ | with_reducible refine p_brk ?_ | with_reducible refine p_cnt ?_ | with_reducible refine p_drop ?_ | with_reducible refine p_appE ?_ | with_reducible refine p_lenE ?_ | with_reducible refine p_setI ?_ | with_reducible refine p_dput ?_ | with_reducible refine p_for ?_ | with_reducible refine p_varE ?_ | with_reducible refine p_frzE ?_ | with_reducible refine p_movE ?_ | with_reducible refine p_c ?_ | with_reducible refine p_op ?_ | with_reducible refine p_un ?_ | with_reducible refine p_ar ?_ | with_reducible refine p_me ?_ | with_reducible refine p_ife ?_ | with_reducible refine p_nil ?_ | with_reducible refine p_cons ?_ | with_reducible refine p_call ?_ | with_reducible refine p_lc ?_ | with_reducible refine p_sl ?_ | with_reducible refine p_on ?_ | with_reducible refine p_os ?_ | with_reducible refine p_fis ?_ | with_reducible refine p_rng1 ?_ | with_reducible refine p_rng2 ?_ | with_reducible refine p_fia ?_ | with_reducible refine p_din ?_ | with_reducible refine p_newT ?_ | with_reducible refine p_newK ?_ | with_reducible refine p_test ?_ | with_reducible refine p_band ?_ | with_reducible refine p_bor ?_ | with_reducible refine p_bnot ?_ | with_reducible refine p_yes ?_ | with_reducible refine p_or ?_ | with_reducible refine p_and ?_ | with_reducible refine p_not ?_ | with_reducible refine bh_t ?_ | with_reducible refine bh_f ?_ | with_reducible refine bh_nt ?_ | with_reducible refine bh_nf ?_ | ((with_reducible refine bh_r ?_); refine Exists.intro _ (And.intro rfl ?_)) | ((with_reducible refine ex_id ?_); first | refine Exists.intro _ (And.intro rfl ?_) | refine Exists.intro _ (Exists.intro _ (And.intro rfl ?_))) | ((with_reducible refine and_id ?_); refine And.intro rfl ?_)))
  exact rfl
theorem is_W (h : WOk ls n W) : ∃ r S', F_is_piece [.imm (mapW (fun ws => encS (pieceL cut ws)) W), .imm (.tuple (encS ls))] S = some (r, S') ∧ r = .imm (.bool true) := by
  cases W with
  | none => exact is_piece_none
  | some ws => exact is_piece_ok (piece_len2 (h ws rfl)) (piece_mem fun q hq => ((h ws rfl).2 q hq).1) adj_piece
end
end Lw
set_option maxRecDepth 100000
set_option maxHeartbeats 1000000
namespace Lw
open PySem PySem.Spec PyProof.Rows L2 DL
section
variable {as ls : List Str} {n : Nat} {W : Wr} {cut : Int}
theorem shw_lr {k : Nat} {x : Str} (h : isLR x) : Shw k 12 (.str x) := by
  rcases h with rfl | rfl <;> exact shw_str (by decide +kernel)
theorem sideS_lr {cut p : Int} : isLR (sideS cut p) := by
  unfold sideS; split
  · exact .inl rfl
  · exact .inr rfl
theorem shw_encS {xs : List Str} (h : ∀ x ∈ xs, Shw 0 12 (.str x)) (hl : xs.length ≤ 60) : Shw 1 1000 (.tuple (encS xs)) := by
  refine (shw_tup (k := 0) (n := 12) fun d hd => ?_).mono (Nat.le_refl _) (by rw [encS_len]; omega)
  obtain ⟨x, hx, rfl⟩ := List.mem_map.mp hd
  exact h x hx
theorem shw_enc {ws : List (Str × Int)} (ok : SheetOk as ls) (h : ∀ q ∈ ws, q.1 ∈ ls ∧ 0 ≤ q.2 ∧ q.2 ≤ n + 1) (hn : n ≤ 60) : ∀ d ∈ enc ws, Shw 1 40 d := fun d hd => by
  obtain ⟨q, hq, rfl⟩ := List.mem_map.mp hd
  obtain ⟨h1, h2, h3⟩ := h q hq
  refine (shw_tup (k := 0) (n := 12) fun d hd => ?_).mono (Nat.le_refl _) (by simp)
  simp only [List.mem_cons, List.not_mem_nil, or_false] at hd
  rcases hd with rfl | rfl
  · exact shw_str (ok.let_ _ h1).2.2
  · exact (shw_int h2 (by omega)).mono (Nat.le_refl _) (by omega)
theorem shw_W {f : List (Str × Int) → List PyData} (h : ∀ ws, W = some ws → Shw 8 400000 (.tuple (f ws))) : Shw 8 400000 (mapW f W) := by
  cases W with
  | none => exact shw_none.mono (Nat.le_refl _) (by decide)
  | some ws => exact h ws rfl
theorem shw_bl (ok : SheetOk as ls) (hn : n ≤ 60) (h : WOk ls n W) : Shw 8 400000 (mapW (fun ws => (blkL cut ws).map blkD) W) := shw_W fun ws e => by
  have hw := h ws e
  obtain ⟨k1, k2⟩ := blk_ok (cut := cut) ws
  have hl := hw.1
  have q : ∀ d ∈ (blkL cut ws).map blkD, Shw 3 5300 d := fun d hd => by
    obtain ⟨b, hb, rfl⟩ := List.mem_map.mp hd
    obtain ⟨b1, ⟨p, b2⟩, b3⟩ := k2 b hb
    have h1 : Shw 2 2600 (.tuple (enc b.2)) := (shw_tup (shw_enc ok (fun q hq => hw.2 q (b3 q hq)) hn)).mono (Nat.le_refl _) (by rw [enc_len]; omega)
    refine (shw_tup (k := 2) (n := 2600) fun d hd => ?_).mono (Nat.le_refl _) (by simp)
    simp only [List.mem_cons, List.not_mem_nil, or_false] at hd
    rcases hd with rfl | rfl
    · rw [b2]; exact (shw_lr sideS_lr).mono (Nat.le_refl _) (by decide)
    · exact h1
  exact (shw_tup q).mono (by decide) (by rw [List.length_map]; omega)
theorem dd_lr {xs : List Str} (h : ∀ x ∈ xs, isLR x) : ∀ x ∈ dd xs, Shw 0 12 (.str x) := fun x hx => shw_lr (h x (dd_mem hx))
theorem shw_tu (h : WOk ls n W) : Shw 8 400000 (mapW (fun ws => encS (turnsL cut ws)) W) := shw_W fun ws e => by
  have hl := (h ws e).1
  have := turns_len (cut := cut) (ws := ws)
  exact (shw_encS (dd_lr fun x hx => by obtain ⟨q, _, rfl⟩ := List.mem_map.mp hx; exact sideS_lr) (by show (turnsL cut ws).length ≤ 60; omega)).mono (by decide) (by decide)
theorem shw_pi (ok : SheetOk as ls) (h : WOk ls n W) : Shw 8 400000 (mapW (fun ws => encS (pieceL cut ws)) W) := shw_W fun ws e => by
  have hw := h ws e
  have hl := hw.1
  have := piece_len (p := cut) (ws := ws)
  refine (shw_encS (fun x hx => ?_) (by omega)).mono (by decide) (by decide)
  rcases piece_mem (fun q hq => (hw.2 q hq).1) x hx with z | z
  · exact shw_lr z
  · exact shw_str (ok.let_ x z).2.2
theorem shw_pa {a : Str} (ha : isLR a) (h : WOk ls n W) : Shw 8 400000 (mapW (fun ws => encS (partsL a (pieceL cut ws))) W) := shw_W fun ws e => by
  have hl := (h ws e).1
  have h1 := piece_len (p := cut) (ws := ws)
  have h2 := dd_len ((pieceL cut ws).map fun x => if isLR x then x else a)
  rw [List.length_map] at h2
  exact (shw_encS (dd_lr fun x hx => by obtain ⟨q, _, rfl⟩ := List.mem_map.mp hx; split <;> assumption) (by show (dd _).length ≤ 60; omega)).mono (by decide) (by decide)
theorem shw_two {d e : PyData} (h1 : Shw 8 400000 d) (h2 : Shw 8 400000 e) : Shw 9 900000 (.list [d, e]) := by
  refine (shw_lst (k := 8) (n := 400000) fun x hx => ?_).mono (Nat.le_refl _) (by simp)
  simp only [List.mem_cons, List.not_mem_nil, or_false] at hx
  rcases hx with rfl | rfl
  · exact h1
  · exact h2
theorem rp1 {d : PyData} (h : Shw 8 400000 d) : reprB (.imm d) = some (.imm (.str d.shown)) := repr_ok h (by decide) (by decide)
theorem rp2 {d e : PyData} (h1 : Shw 8 400000 d) (h2 : Shw 8 400000 e) : reprB (.lst [d, e]) = some (.imm (.str (PyData.list [d, e]).shown)) := repr_okL (shw_two h1 h2) (by decide) (by decide)
end
end Lw
set_option maxRecDepth 100000
set_option maxHeartbeats 1000000
namespace Lw
open PySem PySem.Spec PyProof.Rows L2 DL
section
variable {as ls : List Str} {n : Nat} {W : Wr} {cut : Int}
theorem rq1 {d : PyData} (h : Shw 8 400000 d) : o1 reprB [.imm d] = some (.imm (.str d.shown)) := rp1 h
theorem rq2 {d e : PyData} (h1 : Shw 8 400000 d) (h2 : Shw 8 400000 e) : o1 reprB [.lst [d, e]] = some (.imm (.str (PyData.list [d, e]).shown)) := rp2 h1 h2
theorem be_T (ok : SheetOk as ls) (h : WOk ls n W) {S : Src} : ∃ r S', F_turns_behind [.imm (mapW (fun ws => encS (pieceL cut ws)) W)] S = some (r, S') ∧ r = .imm (mapW (fun ws => encS (turnsL cut ws)) W) := by
  obtain ⟨r, S', e, rfl⟩ := be_W (cut := cut) (S := S) ok h
  refine ⟨_, _, e, ?_⟩
  cases W with
  | none => rfl
  | some ws => simp only [mapW]; rw [behind_turns (ws_nlr ok (h ws rfl))]
theorem ah_T (ok : SheetOk as ls) (h : WOk ls n W) {S : Src} : ∃ r S', F_turns_ahead [.imm (mapW (fun ws => encS (pieceL (cut + 1) ws)) W)] S = some (r, S') ∧ r = .imm (mapW (fun ws => encS (turnsL cut ws)) W) := by
  obtain ⟨r, S', e, rfl⟩ := ah_W (cut := cut + 1) (S := S) ok h
  refine ⟨_, _, e, ?_⟩
  cases W with
  | none => rfl
  | some ws => simp only [mapW]; rw [ahead_turns (ws_nlr ok (h ws rfl))]
theorem be_P (ok : SheetOk as ls) (h : WOk ls n W) {S : Src} : ∃ r S', F_turns_behind [.imm (mapW (fun ws => encS (pieceL cut ws)) W)] S = some (r, S') ∧ r = .imm (mapW (fun ws => encS (partsL "L" (pieceL cut ws))) W) := by
  obtain ⟨r, S', e, rfl⟩ := be_W (cut := cut) (S := S) ok h
  refine ⟨_, _, e, ?_⟩
  simp only [told_partsL]
theorem ah_P (ok : SheetOk as ls) (h : WOk ls n W) {S : Src} : ∃ r S', F_turns_ahead [.imm (mapW (fun ws => encS (pieceL cut ws)) W)] S = some (r, S') ∧ r = .imm (mapW (fun ws => encS (partsL "R" (pieceL cut ws))) W) := by
  obtain ⟨r, S', e, rfl⟩ := ah_W (cut := cut) (S := S) ok h
  refine ⟨_, _, e, ?_⟩
  simp only [told_partsR]
theorem eq_same {x : Str} : eqB true (.imm (.str x)) (.imm (.str x)) = some (.imm (.bool false)) := by
  show some (Bd.imm (.bool (!decide (x = x)))) = _
  rw [decide_eq_true rfl]
  rfl
theorem bh_e {N M : En → Src → Prop} {p : Prop} [Decidable p] {ρ : En} {S : Src} (h : p → N ρ S) (h' : ¬ p → M ρ S) : Bh N M (if false = true then !decide p else decide p) ρ S := bh_d h h'
theorem p_isx {d : PyData} : isB true (.imm d) (.imm (.bool true)) = (match d with | .bool b => some (.imm (.bool (!decide (b = true)))) | _ => none) := by
  cases d <;> rfl
def CutJ (as ls : List Str) (W : Wr) (n : Nat) (i : Nat) (ρ : En) : Prop := ∃ lap prog row v8 v9 v10 v11 v12, ρ = [none, some .src, some (.imm (sheetD as ls)), lap, prog, some (.imm (.int (n : Nat))), row, some (.imm (mapW enc W)), v8, v9, v10, v11, v12, none, none, none, none] ∧ nbE [lap, prog, row, v8, v9, v10, v11, v12] = true
theorem cut_body (ok : SheetOk as ls) (hn : n ≤ 60) (h : WOk ls n W) {i : Nat} {ρ : En} {S : Src} (hi : i ≤ n) (hJ : CutJ as ls W n i ρ) : ∃ ρ1, sName 9 (.imm (.int (0 + (i : Nat)))) ρ = some ρ1 ∧ (l_law_2 ρ1 S).Post fun fl ρ2 S2 => fl = .nx ∧ CutJ as ls W n (i + 1) ρ2 := by
  obtain ⟨lap, prog, row, v8, v9, v10, v11, v12, rfl, nb⟩ := hJ
  have nq : ∀ a b c d : PyData, nbE [lap, prog, row, v8, some (.imm a), some (.imm b), some (.imm c), some (.imm d)] = true := fun a b c d => nbE_cons (nb1 nb (by simp)) (nbE_cons (nb1 nb (by simp)) (nbE_cons (nb1 nb (by simp)) (nbE_cons (nb1 nb (by simp)) rfl)))
  have hs := shw_bl (cut := 0 + (i : Int)) ok hn h
  have ht := shw_tu (cut := 0 + (i : Int)) h
  have r1 := rq1 hs
  have r2 := rq1 ht
  have pa := shw_pi (cut := 0 + (i : Int)) ok h
  have pb := shw_pi (cut := 0 + (i : Int) + 1) ok h
  have r3 := rq2 pa pb
  have r4 := rq2 ht ht
  have r5 := rq2 (shw_pa (cut := 0 + (i : Int) + 1) (a := "L") (.inl rfl) h) (shw_pa (cut := 0 + (i : Int)) (a := "R") (.inr rfl) h)
  refine ⟨_, rfl, ?_⟩
  (repeat (first | with_reducible refine p_seq ?_ | with_reducible refine nx_nx ?_ | with_reducible refine nx_rt ?_ | with_reducible refine p_if ?_ | with_reducible refine p_asg ?_ | with_reducible refine p_par ?_ | with_reducible refine p_parN ?_ | with_reducible refine p_ret ?_ | with_reducible refine p_retN ?_ | with_reducible refine p_next ?_ | with_reducible refine p_brk ?_ | with_reducible refine p_cnt ?_ | with_reducible refine p_drop ?_ | with_reducible refine p_appE ?_ | with_reducible refine p_lenE ?_ | with_reducible refine p_setI ?_ | with_reducible refine p_dput ?_ | with_reducible refine p_for ?_ | with_reducible refine p_varE ?_ | with_reducible refine p_frzE ?_ | with_reducible refine p_movE ?_ | with_reducible refine p_c ?_ | with_reducible refine p_op ?_ | with_reducible refine p_un ?_ | with_reducible refine p_ar ?_ | with_reducible refine p_me ?_ | with_reducible refine p_ife ?_ | with_reducible refine p_nil ?_ | with_reducible refine p_cons ?_ | with_reducible refine p_call ?_ | with_reducible refine p_lc ?_ | with_reducible refine p_sl ?_ | with_reducible refine p_on ?_ | with_reducible refine p_os ?_ | with_reducible refine p_fis ?_ | with_reducible refine p_rng1 ?_ | with_reducible refine p_rng2 ?_ | with_reducible refine p_fia ?_ | with_reducible refine p_din ?_ | with_reducible refine p_newT ?_ | with_reducible refine p_newK ?_ | with_reducible refine p_test ?_ | with_reducible refine p_band ?_ | with_reducible refine p_bor ?_ | with_reducible refine p_bnot ?_ | with_reducible refine p_yes ?_ | with_reducible refine p_or ?_ | with_reducible refine p_and ?_ | with_reducible refine p_not ?_ | with_reducible refine bh_t ?_ | with_reducible refine bh_f ?_ | with_reducible refine bh_nt ?_ | with_reducible refine bh_nf ?_ | ((with_reducible refine bh_r ?_); refine Exists.intro _ (And.intro rfl ?_)) | ((with_reducible refine ex_id ?_); first | refine Exists.intro _ (And.intro rfl ?_) | refine Exists.intro _ (Exists.intro _ (And.intro rfl ?_))) | ((with_reducible refine and_id ?_); refine And.intro rfl ?_)))
  refine cp_eq rfl rfl (lt_W h) fun S1 => ?_
  (repeat (first | with_reducible refine p_seq ?_ | with_reducible refine nx_nx ?_ | with_reducible refine nx_rt ?_ | with_reducible refine p_if ?_ | with_reducible refine p_asg ?_ | with_reducible refine p_par ?_ | with_reducible refine p_parN ?_ | with_reducible refine p_ret ?_ | with_reducible refine p_retN ?_ | with_reducible refine p_next ?_ | with_reducible refine p_brk ?_ | with_reducible refine p_cnt ?_ | with_reducible refine p_drop ?_ | with_reducible refine p_appE ?_ | with_reducible refine p_lenE ?_ | with_reducible refine p_setI ?_ | with_reducible refine p_dput ?_ | with_reducible refine p_for ?_ | with_reducible refine p_varE ?_ | with_reducible refine p_frzE ?_ | with_reducible refine p_movE ?_ | with_reducible refine p_c ?_ | with_reducible refine p_op ?_ | with_reducible refine p_un ?_ | with_reducible refine p_ar ?_ | with_reducible refine p_me ?_ | with_reducible refine p_ife ?_ | with_reducible refine p_nil ?_ | with_reducible refine p_cons ?_ | with_reducible refine p_call ?_ | with_reducible refine p_lc ?_ | with_reducible refine p_sl ?_ | with_reducible refine p_on ?_ | with_reducible refine p_os ?_ | with_reducible refine p_fis ?_ | with_reducible refine p_rng1 ?_ | with_reducible refine p_rng2 ?_ | with_reducible refine p_fia ?_ | with_reducible refine p_din ?_ | with_reducible refine p_newT ?_ | with_reducible refine p_newK ?_ | with_reducible refine p_test ?_ | with_reducible refine p_band ?_ | with_reducible refine p_bor ?_ | with_reducible refine p_bnot ?_ | with_reducible refine p_yes ?_ | with_reducible refine p_or ?_ | with_reducible refine p_and ?_ | with_reducible refine p_not ?_ | with_reducible refine bh_t ?_ | with_reducible refine bh_f ?_ | with_reducible refine bh_nt ?_ | with_reducible refine bh_nf ?_ | ((with_reducible refine bh_r ?_); refine Exists.intro _ (And.intro rfl ?_)) | ((with_reducible refine ex_id ?_); first | refine Exists.intro _ (And.intro rfl ?_) | refine Exists.intro _ (Exists.intro _ (And.intro rfl ?_))) | ((with_reducible refine and_id ?_); refine And.intro rfl ?_)))
  refine cp_eq rfl rfl (bl_W h) fun S2 => ?_
  (repeat (first | with_reducible refine ⟨_, r1, ?_⟩ | with_reducible refine p_seq ?_ | with_reducible refine nx_nx ?_ | with_reducible refine nx_rt ?_ | with_reducible refine p_if ?_ | with_reducible refine p_asg ?_ | with_reducible refine p_par ?_ | with_reducible refine p_parN ?_ | with_reducible refine p_ret ?_ | with_reducible refine p_retN ?_ | with_reducible refine p_next ?_ | with_reducible refine p_brk ?_ | with_reducible refine p_cnt ?_ | with_reducible refine p_drop ?_ | with_reducible refine p_appE ?_ | with_reducible refine p_lenE ?_ | with_reducible refine p_setI ?_ | with_reducible refine p_dput ?_ | with_reducible refine p_for ?_ | with_reducible refine p_varE ?_ | with_reducible refine p_frzE ?_ | with_reducible refine p_movE ?_ | with_reducible refine p_c ?_ | with_reducible refine p_op ?_ | with_reducible refine p_un ?_ | with_reducible refine p_ar ?_ | with_reducible refine p_me ?_ | with_reducible refine p_ife ?_ | with_reducible refine p_nil ?_ | with_reducible refine p_cons ?_ | with_reducible refine p_call ?_ | with_reducible refine p_lc ?_ | with_reducible refine p_sl ?_ | with_reducible refine p_on ?_ | with_reducible refine p_os ?_ | with_reducible refine p_fis ?_ | with_reducible refine p_rng1 ?_ | with_reducible refine p_rng2 ?_ | with_reducible refine p_fia ?_ | with_reducible refine p_din ?_ | with_reducible refine p_newT ?_ | with_reducible refine p_newK ?_ | with_reducible refine p_test ?_ | with_reducible refine p_band ?_ | with_reducible refine p_bor ?_ | with_reducible refine p_bnot ?_ | with_reducible refine p_yes ?_ | with_reducible refine p_or ?_ | with_reducible refine p_and ?_ | with_reducible refine p_not ?_ | with_reducible refine bh_t ?_ | with_reducible refine bh_f ?_ | with_reducible refine bh_nt ?_ | with_reducible refine bh_nf ?_ | ((with_reducible refine bh_r ?_); refine Exists.intro _ (And.intro rfl ?_)) | ((with_reducible refine ex_id ?_); first | refine Exists.intro _ (And.intro rfl ?_) | refine Exists.intro _ (Exists.intro _ (And.intro rfl ?_))) | ((with_reducible refine and_id ?_); refine And.intro rfl ?_)))
  refine cp_eq rfl rfl (lb_W ok h) fun S3 => ?_
  (repeat (first | with_reducible refine ⟨_, r1, ?_⟩ | with_reducible refine ⟨_, eq_same, ?_⟩ | with_reducible refine p_seq ?_ | with_reducible refine nx_nx ?_ | with_reducible refine nx_rt ?_ | with_reducible refine p_if ?_ | with_reducible refine p_asg ?_ | with_reducible refine p_par ?_ | with_reducible refine p_parN ?_ | with_reducible refine p_ret ?_ | with_reducible refine p_retN ?_ | with_reducible refine p_next ?_ | with_reducible refine p_brk ?_ | with_reducible refine p_cnt ?_ | with_reducible refine p_drop ?_ | with_reducible refine p_appE ?_ | with_reducible refine p_lenE ?_ | with_reducible refine p_setI ?_ | with_reducible refine p_dput ?_ | with_reducible refine p_for ?_ | with_reducible refine p_varE ?_ | with_reducible refine p_frzE ?_ | with_reducible refine p_movE ?_ | with_reducible refine p_c ?_ | with_reducible refine p_op ?_ | with_reducible refine p_un ?_ | with_reducible refine p_ar ?_ | with_reducible refine p_me ?_ | with_reducible refine p_ife ?_ | with_reducible refine p_nil ?_ | with_reducible refine p_cons ?_ | with_reducible refine p_call ?_ | with_reducible refine p_lc ?_ | with_reducible refine p_sl ?_ | with_reducible refine p_on ?_ | with_reducible refine p_os ?_ | with_reducible refine p_fis ?_ | with_reducible refine p_rng1 ?_ | with_reducible refine p_rng2 ?_ | with_reducible refine p_fia ?_ | with_reducible refine p_din ?_ | with_reducible refine p_newT ?_ | with_reducible refine p_newK ?_ | with_reducible refine p_test ?_ | with_reducible refine p_band ?_ | with_reducible refine p_bor ?_ | with_reducible refine p_bnot ?_ | with_reducible refine p_yes ?_ | with_reducible refine p_or ?_ | with_reducible refine p_and ?_ | with_reducible refine p_not ?_ | with_reducible refine bh_t ?_ | with_reducible refine bh_f ?_ | with_reducible refine bh_nt ?_ | with_reducible refine bh_nf ?_ | ((with_reducible refine bh_r ?_); refine Exists.intro _ (And.intro rfl ?_)) | ((with_reducible refine ex_id ?_); first | refine Exists.intro _ (And.intro rfl ?_) | refine Exists.intro _ (Exists.intro _ (And.intro rfl ?_))) | ((with_reducible refine and_id ?_); refine And.intro rfl ?_)))
  refine cp_eq rfl rfl (tu_W h) fun S4 => ?_
  (repeat (first | with_reducible refine ⟨_, r2, ?_⟩ | with_reducible refine ⟨_, eq_same, ?_⟩ | with_reducible refine p_seq ?_ | with_reducible refine nx_nx ?_ | with_reducible refine nx_rt ?_ | with_reducible refine p_if ?_ | with_reducible refine p_asg ?_ | with_reducible refine p_par ?_ | with_reducible refine p_parN ?_ | with_reducible refine p_ret ?_ | with_reducible refine p_retN ?_ | with_reducible refine p_next ?_ | with_reducible refine p_brk ?_ | with_reducible refine p_cnt ?_ | with_reducible refine p_drop ?_ | with_reducible refine p_appE ?_ | with_reducible refine p_lenE ?_ | with_reducible refine p_setI ?_ | with_reducible refine p_dput ?_ | with_reducible refine p_for ?_ | with_reducible refine p_varE ?_ | with_reducible refine p_frzE ?_ | with_reducible refine p_movE ?_ | with_reducible refine p_c ?_ | with_reducible refine p_op ?_ | with_reducible refine p_un ?_ | with_reducible refine p_ar ?_ | with_reducible refine p_me ?_ | with_reducible refine p_ife ?_ | with_reducible refine p_nil ?_ | with_reducible refine p_cons ?_ | with_reducible refine p_call ?_ | with_reducible refine p_lc ?_ | with_reducible refine p_sl ?_ | with_reducible refine p_on ?_ | with_reducible refine p_os ?_ | with_reducible refine p_fis ?_ | with_reducible refine p_rng1 ?_ | with_reducible refine p_rng2 ?_ | with_reducible refine p_fia ?_ | with_reducible refine p_din ?_ | with_reducible refine p_newT ?_ | with_reducible refine p_newK ?_ | with_reducible refine p_test ?_ | with_reducible refine p_band ?_ | with_reducible refine p_bor ?_ | with_reducible refine p_bnot ?_ | with_reducible refine p_yes ?_ | with_reducible refine p_or ?_ | with_reducible refine p_and ?_ | with_reducible refine p_not ?_ | with_reducible refine bh_t ?_ | with_reducible refine bh_f ?_ | with_reducible refine bh_nt ?_ | with_reducible refine bh_nf ?_ | ((with_reducible refine bh_r ?_); refine Exists.intro _ (And.intro rfl ?_)) | ((with_reducible refine ex_id ?_); first | refine Exists.intro _ (And.intro rfl ?_) | refine Exists.intro _ (Exists.intro _ (And.intro rfl ?_))) | ((with_reducible refine and_id ?_); refine And.intro rfl ?_)))
  refine cp_eq rfl rfl (pi_W ok h) fun S5 => ?_
  (repeat (first | with_reducible refine p_seq ?_ | with_reducible refine nx_nx ?_ | with_reducible refine nx_rt ?_ | with_reducible refine p_if ?_ | with_reducible refine p_asg ?_ | with_reducible refine p_par ?_ | with_reducible refine p_parN ?_ | with_reducible refine p_ret ?_ | with_reducible refine p_retN ?_ | with_reducible refine p_next ?_ | with_reducible refine p_brk ?_ | with_reducible refine p_cnt ?_ | with_reducible refine p_drop ?_ | with_reducible refine p_appE ?_ | with_reducible refine p_lenE ?_ | with_reducible refine p_setI ?_ | with_reducible refine p_dput ?_ | with_reducible refine p_for ?_ | with_reducible refine p_varE ?_ | with_reducible refine p_frzE ?_ | with_reducible refine p_movE ?_ | with_reducible refine p_c ?_ | with_reducible refine p_op ?_ | with_reducible refine p_un ?_ | with_reducible refine p_ar ?_ | with_reducible refine p_me ?_ | with_reducible refine p_ife ?_ | with_reducible refine p_nil ?_ | with_reducible refine p_cons ?_ | with_reducible refine p_call ?_ | with_reducible refine p_lc ?_ | with_reducible refine p_sl ?_ | with_reducible refine p_on ?_ | with_reducible refine p_os ?_ | with_reducible refine p_fis ?_ | with_reducible refine p_rng1 ?_ | with_reducible refine p_rng2 ?_ | with_reducible refine p_fia ?_ | with_reducible refine p_din ?_ | with_reducible refine p_newT ?_ | with_reducible refine p_newK ?_ | with_reducible refine p_test ?_ | with_reducible refine p_band ?_ | with_reducible refine p_bor ?_ | with_reducible refine p_bnot ?_ | with_reducible refine p_yes ?_ | with_reducible refine p_or ?_ | with_reducible refine p_and ?_ | with_reducible refine p_not ?_ | with_reducible refine bh_t ?_ | with_reducible refine bh_f ?_ | with_reducible refine bh_nt ?_ | with_reducible refine bh_nf ?_ | ((with_reducible refine bh_r ?_); refine Exists.intro _ (And.intro rfl ?_)) | ((with_reducible refine ex_id ?_); first | refine Exists.intro _ (And.intro rfl ?_) | refine Exists.intro _ (Exists.intro _ (And.intro rfl ?_))) | ((with_reducible refine and_id ?_); refine And.intro rfl ?_)))
  refine cp_eq rfl rfl (pi_W ok h) fun S6 => ?_
  (repeat (first | with_reducible refine ⟨_, r3, ?_⟩ | with_reducible refine p_seq ?_ | with_reducible refine nx_nx ?_ | with_reducible refine nx_rt ?_ | with_reducible refine p_if ?_ | with_reducible refine p_asg ?_ | with_reducible refine p_par ?_ | with_reducible refine p_parN ?_ | with_reducible refine p_ret ?_ | with_reducible refine p_retN ?_ | with_reducible refine p_next ?_ | with_reducible refine p_brk ?_ | with_reducible refine p_cnt ?_ | with_reducible refine p_drop ?_ | with_reducible refine p_appE ?_ | with_reducible refine p_lenE ?_ | with_reducible refine p_setI ?_ | with_reducible refine p_dput ?_ | with_reducible refine p_for ?_ | with_reducible refine p_varE ?_ | with_reducible refine p_frzE ?_ | with_reducible refine p_movE ?_ | with_reducible refine p_c ?_ | with_reducible refine p_op ?_ | with_reducible refine p_un ?_ | with_reducible refine p_ar ?_ | with_reducible refine p_me ?_ | with_reducible refine p_ife ?_ | with_reducible refine p_nil ?_ | with_reducible refine p_cons ?_ | with_reducible refine p_call ?_ | with_reducible refine p_lc ?_ | with_reducible refine p_sl ?_ | with_reducible refine p_on ?_ | with_reducible refine p_os ?_ | with_reducible refine p_fis ?_ | with_reducible refine p_rng1 ?_ | with_reducible refine p_rng2 ?_ | with_reducible refine p_fia ?_ | with_reducible refine p_din ?_ | with_reducible refine p_newT ?_ | with_reducible refine p_newK ?_ | with_reducible refine p_test ?_ | with_reducible refine p_band ?_ | with_reducible refine p_bor ?_ | with_reducible refine p_bnot ?_ | with_reducible refine p_yes ?_ | with_reducible refine p_or ?_ | with_reducible refine p_and ?_ | with_reducible refine p_not ?_ | with_reducible refine bh_t ?_ | with_reducible refine bh_f ?_ | with_reducible refine bh_nt ?_ | with_reducible refine bh_nf ?_ | ((with_reducible refine bh_r ?_); refine Exists.intro _ (And.intro rfl ?_)) | ((with_reducible refine ex_id ?_); first | refine Exists.intro _ (And.intro rfl ?_) | refine Exists.intro _ (Exists.intro _ (And.intro rfl ?_))) | ((with_reducible refine and_id ?_); refine And.intro rfl ?_)))
  refine cp_eq rfl rfl (lp_W ok h) fun S7 => ?_
  (repeat (first | with_reducible refine p_seq ?_ | with_reducible refine nx_nx ?_ | with_reducible refine nx_rt ?_ | with_reducible refine p_if ?_ | with_reducible refine p_asg ?_ | with_reducible refine p_par ?_ | with_reducible refine p_parN ?_ | with_reducible refine p_ret ?_ | with_reducible refine p_retN ?_ | with_reducible refine p_next ?_ | with_reducible refine p_brk ?_ | with_reducible refine p_cnt ?_ | with_reducible refine p_drop ?_ | with_reducible refine p_appE ?_ | with_reducible refine p_lenE ?_ | with_reducible refine p_setI ?_ | with_reducible refine p_dput ?_ | with_reducible refine p_for ?_ | with_reducible refine p_varE ?_ | with_reducible refine p_frzE ?_ | with_reducible refine p_movE ?_ | with_reducible refine p_c ?_ | with_reducible refine p_op ?_ | with_reducible refine p_un ?_ | with_reducible refine p_ar ?_ | with_reducible refine p_me ?_ | with_reducible refine p_ife ?_ | with_reducible refine p_nil ?_ | with_reducible refine p_cons ?_ | with_reducible refine p_call ?_ | with_reducible refine p_lc ?_ | with_reducible refine p_sl ?_ | with_reducible refine p_on ?_ | with_reducible refine p_os ?_ | with_reducible refine p_fis ?_ | with_reducible refine p_rng1 ?_ | with_reducible refine p_rng2 ?_ | with_reducible refine p_fia ?_ | with_reducible refine p_din ?_ | with_reducible refine p_newT ?_ | with_reducible refine p_newK ?_ | with_reducible refine p_test ?_ | with_reducible refine p_band ?_ | with_reducible refine p_bor ?_ | with_reducible refine p_bnot ?_ | with_reducible refine p_yes ?_ | with_reducible refine p_or ?_ | with_reducible refine p_and ?_ | with_reducible refine p_not ?_ | with_reducible refine bh_t ?_ | with_reducible refine bh_f ?_ | with_reducible refine bh_nt ?_ | with_reducible refine bh_nf ?_ | ((with_reducible refine bh_r ?_); refine Exists.intro _ (And.intro rfl ?_)) | ((with_reducible refine ex_id ?_); first | refine Exists.intro _ (And.intro rfl ?_) | refine Exists.intro _ (Exists.intro _ (And.intro rfl ?_))) | ((with_reducible refine and_id ?_); refine And.intro rfl ?_)))
  refine cp_eq rfl rfl (lp_W ok h) fun S8 => ?_
  (repeat (first | with_reducible refine ⟨_, r3, ?_⟩ | with_reducible refine ⟨_, eq_same, ?_⟩ | with_reducible refine p_seq ?_ | with_reducible refine nx_nx ?_ | with_reducible refine nx_rt ?_ | with_reducible refine p_if ?_ | with_reducible refine p_asg ?_ | with_reducible refine p_par ?_ | with_reducible refine p_parN ?_ | with_reducible refine p_ret ?_ | with_reducible refine p_retN ?_ | with_reducible refine p_next ?_ | with_reducible refine p_brk ?_ | with_reducible refine p_cnt ?_ | with_reducible refine p_drop ?_ | with_reducible refine p_appE ?_ | with_reducible refine p_lenE ?_ | with_reducible refine p_setI ?_ | with_reducible refine p_dput ?_ | with_reducible refine p_for ?_ | with_reducible refine p_varE ?_ | with_reducible refine p_frzE ?_ | with_reducible refine p_movE ?_ | with_reducible refine p_c ?_ | with_reducible refine p_op ?_ | with_reducible refine p_un ?_ | with_reducible refine p_ar ?_ | with_reducible refine p_me ?_ | with_reducible refine p_ife ?_ | with_reducible refine p_nil ?_ | with_reducible refine p_cons ?_ | with_reducible refine p_call ?_ | with_reducible refine p_lc ?_ | with_reducible refine p_sl ?_ | with_reducible refine p_on ?_ | with_reducible refine p_os ?_ | with_reducible refine p_fis ?_ | with_reducible refine p_rng1 ?_ | with_reducible refine p_rng2 ?_ | with_reducible refine p_fia ?_ | with_reducible refine p_din ?_ | with_reducible refine p_newT ?_ | with_reducible refine p_newK ?_ | with_reducible refine p_test ?_ | with_reducible refine p_band ?_ | with_reducible refine p_bor ?_ | with_reducible refine p_bnot ?_ | with_reducible refine p_yes ?_ | with_reducible refine p_or ?_ | with_reducible refine p_and ?_ | with_reducible refine p_not ?_ | with_reducible refine bh_t ?_ | with_reducible refine bh_f ?_ | with_reducible refine bh_nt ?_ | with_reducible refine bh_nf ?_ | ((with_reducible refine bh_r ?_); refine Exists.intro _ (And.intro rfl ?_)) | ((with_reducible refine ex_id ?_); first | refine Exists.intro _ (And.intro rfl ?_) | refine Exists.intro _ (Exists.intro _ (And.intro rfl ?_))) | ((with_reducible refine and_id ?_); refine And.intro rfl ?_)))
  refine cp_eq rfl rfl (be_T ok h) fun S9 => ?_
  (repeat (first | with_reducible refine p_seq ?_ | with_reducible refine nx_nx ?_ | with_reducible refine nx_rt ?_ | with_reducible refine p_if ?_ | with_reducible refine p_asg ?_ | with_reducible refine p_par ?_ | with_reducible refine p_parN ?_ | with_reducible refine p_ret ?_ | with_reducible refine p_retN ?_ | with_reducible refine p_next ?_ | with_reducible refine p_brk ?_ | with_reducible refine p_cnt ?_ | with_reducible refine p_drop ?_ | with_reducible refine p_appE ?_ | with_reducible refine p_lenE ?_ | with_reducible refine p_setI ?_ | with_reducible refine p_dput ?_ | with_reducible refine p_for ?_ | with_reducible refine p_varE ?_ | with_reducible refine p_frzE ?_ | with_reducible refine p_movE ?_ | with_reducible refine p_c ?_ | with_reducible refine p_op ?_ | with_reducible refine p_un ?_ | with_reducible refine p_ar ?_ | with_reducible refine p_me ?_ | with_reducible refine p_ife ?_ | with_reducible refine p_nil ?_ | with_reducible refine p_cons ?_ | with_reducible refine p_call ?_ | with_reducible refine p_lc ?_ | with_reducible refine p_sl ?_ | with_reducible refine p_on ?_ | with_reducible refine p_os ?_ | with_reducible refine p_fis ?_ | with_reducible refine p_rng1 ?_ | with_reducible refine p_rng2 ?_ | with_reducible refine p_fia ?_ | with_reducible refine p_din ?_ | with_reducible refine p_newT ?_ | with_reducible refine p_newK ?_ | with_reducible refine p_test ?_ | with_reducible refine p_band ?_ | with_reducible refine p_bor ?_ | with_reducible refine p_bnot ?_ | with_reducible refine p_yes ?_ | with_reducible refine p_or ?_ | with_reducible refine p_and ?_ | with_reducible refine p_not ?_ | with_reducible refine bh_t ?_ | with_reducible refine bh_f ?_ | with_reducible refine bh_nt ?_ | with_reducible refine bh_nf ?_ | ((with_reducible refine bh_r ?_); refine Exists.intro _ (And.intro rfl ?_)) | ((with_reducible refine ex_id ?_); first | refine Exists.intro _ (And.intro rfl ?_) | refine Exists.intro _ (Exists.intro _ (And.intro rfl ?_))) | ((with_reducible refine and_id ?_); refine And.intro rfl ?_)))
  refine cp_eq rfl rfl (ah_T ok h) fun S10 => ?_
  (repeat (first | with_reducible refine ⟨_, r4, ?_⟩ | with_reducible refine ⟨_, eq_same, ?_⟩ | with_reducible refine p_seq ?_ | with_reducible refine nx_nx ?_ | with_reducible refine nx_rt ?_ | with_reducible refine p_if ?_ | with_reducible refine p_asg ?_ | with_reducible refine p_par ?_ | with_reducible refine p_parN ?_ | with_reducible refine p_ret ?_ | with_reducible refine p_retN ?_ | with_reducible refine p_next ?_ | with_reducible refine p_brk ?_ | with_reducible refine p_cnt ?_ | with_reducible refine p_drop ?_ | with_reducible refine p_appE ?_ | with_reducible refine p_lenE ?_ | with_reducible refine p_setI ?_ | with_reducible refine p_dput ?_ | with_reducible refine p_for ?_ | with_reducible refine p_varE ?_ | with_reducible refine p_frzE ?_ | with_reducible refine p_movE ?_ | with_reducible refine p_c ?_ | with_reducible refine p_op ?_ | with_reducible refine p_un ?_ | with_reducible refine p_ar ?_ | with_reducible refine p_me ?_ | with_reducible refine p_ife ?_ | with_reducible refine p_nil ?_ | with_reducible refine p_cons ?_ | with_reducible refine p_call ?_ | with_reducible refine p_lc ?_ | with_reducible refine p_sl ?_ | with_reducible refine p_on ?_ | with_reducible refine p_os ?_ | with_reducible refine p_fis ?_ | with_reducible refine p_rng1 ?_ | with_reducible refine p_rng2 ?_ | with_reducible refine p_fia ?_ | with_reducible refine p_din ?_ | with_reducible refine p_newT ?_ | with_reducible refine p_newK ?_ | with_reducible refine p_test ?_ | with_reducible refine p_band ?_ | with_reducible refine p_bor ?_ | with_reducible refine p_bnot ?_ | with_reducible refine p_yes ?_ | with_reducible refine p_or ?_ | with_reducible refine p_and ?_ | with_reducible refine p_not ?_ | with_reducible refine bh_t ?_ | with_reducible refine bh_f ?_ | with_reducible refine bh_nt ?_ | with_reducible refine bh_nf ?_ | ((with_reducible refine bh_r ?_); refine Exists.intro _ (And.intro rfl ?_)) | ((with_reducible refine ex_id ?_); first | refine Exists.intro _ (And.intro rfl ?_) | refine Exists.intro _ (Exists.intro _ (And.intro rfl ?_))) | ((with_reducible refine and_id ?_); refine And.intro rfl ?_)))
  refine cp_eq rfl rfl (be_P ok h) fun S11 => ?_
  (repeat (first | with_reducible refine p_seq ?_ | with_reducible refine nx_nx ?_ | with_reducible refine nx_rt ?_ | with_reducible refine p_if ?_ | with_reducible refine p_asg ?_ | with_reducible refine p_par ?_ | with_reducible refine p_parN ?_ | with_reducible refine p_ret ?_ | with_reducible refine p_retN ?_ | with_reducible refine p_next ?_ | with_reducible refine p_brk ?_ | with_reducible refine p_cnt ?_ | with_reducible refine p_drop ?_ | with_reducible refine p_appE ?_ | with_reducible refine p_lenE ?_ | with_reducible refine p_setI ?_ | with_reducible refine p_dput ?_ | with_reducible refine p_for ?_ | with_reducible refine p_varE ?_ | with_reducible refine p_frzE ?_ | with_reducible refine p_movE ?_ | with_reducible refine p_c ?_ | with_reducible refine p_op ?_ | with_reducible refine p_un ?_ | with_reducible refine p_ar ?_ | with_reducible refine p_me ?_ | with_reducible refine p_ife ?_ | with_reducible refine p_nil ?_ | with_reducible refine p_cons ?_ | with_reducible refine p_call ?_ | with_reducible refine p_lc ?_ | with_reducible refine p_sl ?_ | with_reducible refine p_on ?_ | with_reducible refine p_os ?_ | with_reducible refine p_fis ?_ | with_reducible refine p_rng1 ?_ | with_reducible refine p_rng2 ?_ | with_reducible refine p_fia ?_ | with_reducible refine p_din ?_ | with_reducible refine p_newT ?_ | with_reducible refine p_newK ?_ | with_reducible refine p_test ?_ | with_reducible refine p_band ?_ | with_reducible refine p_bor ?_ | with_reducible refine p_bnot ?_ | with_reducible refine p_yes ?_ | with_reducible refine p_or ?_ | with_reducible refine p_and ?_ | with_reducible refine p_not ?_ | with_reducible refine bh_t ?_ | with_reducible refine bh_f ?_ | with_reducible refine bh_nt ?_ | with_reducible refine bh_nf ?_ | ((with_reducible refine bh_r ?_); refine Exists.intro _ (And.intro rfl ?_)) | ((with_reducible refine ex_id ?_); first | refine Exists.intro _ (And.intro rfl ?_) | refine Exists.intro _ (Exists.intro _ (And.intro rfl ?_))) | ((with_reducible refine and_id ?_); refine And.intro rfl ?_)))
  refine cp_eq rfl rfl (ah_P ok h) fun S12 => ?_
  (repeat (first | with_reducible refine ⟨_, r5, ?_⟩ | with_reducible refine p_seq ?_ | with_reducible refine nx_nx ?_ | with_reducible refine nx_rt ?_ | with_reducible refine p_if ?_ | with_reducible refine p_asg ?_ | with_reducible refine p_par ?_ | with_reducible refine p_parN ?_ | with_reducible refine p_ret ?_ | with_reducible refine p_retN ?_ | with_reducible refine p_next ?_ | with_reducible refine p_brk ?_ | with_reducible refine p_cnt ?_ | with_reducible refine p_drop ?_ | with_reducible refine p_appE ?_ | with_reducible refine p_lenE ?_ | with_reducible refine p_setI ?_ | with_reducible refine p_dput ?_ | with_reducible refine p_for ?_ | with_reducible refine p_varE ?_ | with_reducible refine p_frzE ?_ | with_reducible refine p_movE ?_ | with_reducible refine p_c ?_ | with_reducible refine p_op ?_ | with_reducible refine p_un ?_ | with_reducible refine p_ar ?_ | with_reducible refine p_me ?_ | with_reducible refine p_ife ?_ | with_reducible refine p_nil ?_ | with_reducible refine p_cons ?_ | with_reducible refine p_call ?_ | with_reducible refine p_lc ?_ | with_reducible refine p_sl ?_ | with_reducible refine p_on ?_ | with_reducible refine p_os ?_ | with_reducible refine p_fis ?_ | with_reducible refine p_rng1 ?_ | with_reducible refine p_rng2 ?_ | with_reducible refine p_fia ?_ | with_reducible refine p_din ?_ | with_reducible refine p_newT ?_ | with_reducible refine p_newK ?_ | with_reducible refine p_test ?_ | with_reducible refine p_band ?_ | with_reducible refine p_bor ?_ | with_reducible refine p_bnot ?_ | with_reducible refine p_yes ?_ | with_reducible refine p_or ?_ | with_reducible refine p_and ?_ | with_reducible refine p_not ?_ | with_reducible refine bh_t ?_ | with_reducible refine bh_f ?_ | with_reducible refine bh_nt ?_ | with_reducible refine bh_nf ?_ | ((with_reducible refine bh_r ?_); refine Exists.intro _ (And.intro rfl ?_)) | ((with_reducible refine ex_id ?_); first | refine Exists.intro _ (And.intro rfl ?_) | refine Exists.intro _ (Exists.intro _ (And.intro rfl ?_))) | ((with_reducible refine and_id ?_); refine And.intro rfl ?_)))
  refine cp_eq rfl rfl (pa_W (.inl rfl) h) fun S13 => ?_
  (repeat (first | with_reducible refine p_seq ?_ | with_reducible refine nx_nx ?_ | with_reducible refine nx_rt ?_ | with_reducible refine p_if ?_ | with_reducible refine p_asg ?_ | with_reducible refine p_par ?_ | with_reducible refine p_parN ?_ | with_reducible refine p_ret ?_ | with_reducible refine p_retN ?_ | with_reducible refine p_next ?_ | with_reducible refine p_brk ?_ | with_reducible refine p_cnt ?_ | with_reducible refine p_drop ?_ | with_reducible refine p_appE ?_ | with_reducible refine p_lenE ?_ | with_reducible refine p_setI ?_ | with_reducible refine p_dput ?_ | with_reducible refine p_for ?_ | with_reducible refine p_varE ?_ | with_reducible refine p_frzE ?_ | with_reducible refine p_movE ?_ | with_reducible refine p_c ?_ | with_reducible refine p_op ?_ | with_reducible refine p_un ?_ | with_reducible refine p_ar ?_ | with_reducible refine p_me ?_ | with_reducible refine p_ife ?_ | with_reducible refine p_nil ?_ | with_reducible refine p_cons ?_ | with_reducible refine p_call ?_ | with_reducible refine p_lc ?_ | with_reducible refine p_sl ?_ | with_reducible refine p_on ?_ | with_reducible refine p_os ?_ | with_reducible refine p_fis ?_ | with_reducible refine p_rng1 ?_ | with_reducible refine p_rng2 ?_ | with_reducible refine p_fia ?_ | with_reducible refine p_din ?_ | with_reducible refine p_newT ?_ | with_reducible refine p_newK ?_ | with_reducible refine p_test ?_ | with_reducible refine p_band ?_ | with_reducible refine p_bor ?_ | with_reducible refine p_bnot ?_ | with_reducible refine p_yes ?_ | with_reducible refine p_or ?_ | with_reducible refine p_and ?_ | with_reducible refine p_not ?_ | with_reducible refine bh_t ?_ | with_reducible refine bh_f ?_ | with_reducible refine bh_nt ?_ | with_reducible refine bh_nf ?_ | ((with_reducible refine bh_r ?_); refine Exists.intro _ (And.intro rfl ?_)) | ((with_reducible refine ex_id ?_); first | refine Exists.intro _ (And.intro rfl ?_) | refine Exists.intro _ (Exists.intro _ (And.intro rfl ?_))) | ((with_reducible refine and_id ?_); refine And.intro rfl ?_)))
  refine cp_eq rfl rfl (pa_W (.inr rfl) h) fun S14 => ?_
  (repeat (first | with_reducible refine ⟨_, r5, ?_⟩ | with_reducible refine ⟨_, eq_same, ?_⟩ | with_reducible refine p_seq ?_ | with_reducible refine nx_nx ?_ | with_reducible refine nx_rt ?_ | with_reducible refine p_if ?_ | with_reducible refine p_asg ?_ | with_reducible refine p_par ?_ | with_reducible refine p_parN ?_ | with_reducible refine p_ret ?_ | with_reducible refine p_retN ?_ | with_reducible refine p_next ?_ | with_reducible refine p_brk ?_ | with_reducible refine p_cnt ?_ | with_reducible refine p_drop ?_ | with_reducible refine p_appE ?_ | with_reducible refine p_lenE ?_ | with_reducible refine p_setI ?_ | with_reducible refine p_dput ?_ | with_reducible refine p_for ?_ | with_reducible refine p_varE ?_ | with_reducible refine p_frzE ?_ | with_reducible refine p_movE ?_ | with_reducible refine p_c ?_ | with_reducible refine p_op ?_ | with_reducible refine p_un ?_ | with_reducible refine p_ar ?_ | with_reducible refine p_me ?_ | with_reducible refine p_ife ?_ | with_reducible refine p_nil ?_ | with_reducible refine p_cons ?_ | with_reducible refine p_call ?_ | with_reducible refine p_lc ?_ | with_reducible refine p_sl ?_ | with_reducible refine p_on ?_ | with_reducible refine p_os ?_ | with_reducible refine p_fis ?_ | with_reducible refine p_rng1 ?_ | with_reducible refine p_rng2 ?_ | with_reducible refine p_fia ?_ | with_reducible refine p_din ?_ | with_reducible refine p_newT ?_ | with_reducible refine p_newK ?_ | with_reducible refine p_test ?_ | with_reducible refine p_band ?_ | with_reducible refine p_bor ?_ | with_reducible refine p_bnot ?_ | with_reducible refine p_yes ?_ | with_reducible refine p_or ?_ | with_reducible refine p_and ?_ | with_reducible refine p_not ?_ | with_reducible refine bh_t ?_ | with_reducible refine bh_f ?_ | with_reducible refine bh_nt ?_ | with_reducible refine bh_nf ?_ | ((with_reducible refine bh_r ?_); refine Exists.intro _ (And.intro rfl ?_)) | ((with_reducible refine ex_id ?_); first | refine Exists.intro _ (And.intro rfl ?_) | refine Exists.intro _ (Exists.intro _ (And.intro rfl ?_))) | ((with_reducible refine and_id ?_); refine And.intro rfl ?_)))
  refine cp_eq rfl rfl (is_W h) fun S15 => ?_
  (repeat (first | with_reducible refine p_seq ?_ | with_reducible refine nx_nx ?_ | with_reducible refine nx_rt ?_ | with_reducible refine p_if ?_ | with_reducible refine p_asg ?_ | with_reducible refine p_par ?_ | with_reducible refine p_parN ?_ | with_reducible refine p_ret ?_ | with_reducible refine p_retN ?_ | with_reducible refine p_next ?_ | with_reducible refine p_brk ?_ | with_reducible refine p_cnt ?_ | with_reducible refine p_drop ?_ | with_reducible refine p_appE ?_ | with_reducible refine p_lenE ?_ | with_reducible refine p_setI ?_ | with_reducible refine p_dput ?_ | with_reducible refine p_for ?_ | with_reducible refine p_varE ?_ | with_reducible refine p_frzE ?_ | with_reducible refine p_movE ?_ | with_reducible refine p_c ?_ | with_reducible refine p_op ?_ | with_reducible refine p_un ?_ | with_reducible refine p_ar ?_ | with_reducible refine p_me ?_ | with_reducible refine p_ife ?_ | with_reducible refine p_nil ?_ | with_reducible refine p_cons ?_ | with_reducible refine p_call ?_ | with_reducible refine p_lc ?_ | with_reducible refine p_sl ?_ | with_reducible refine p_on ?_ | with_reducible refine p_os ?_ | with_reducible refine p_fis ?_ | with_reducible refine p_rng1 ?_ | with_reducible refine p_rng2 ?_ | with_reducible refine p_fia ?_ | with_reducible refine p_din ?_ | with_reducible refine p_newT ?_ | with_reducible refine p_newK ?_ | with_reducible refine p_test ?_ | with_reducible refine p_band ?_ | with_reducible refine p_bor ?_ | with_reducible refine p_bnot ?_ | with_reducible refine p_yes ?_ | with_reducible refine p_or ?_ | with_reducible refine p_and ?_ | with_reducible refine p_not ?_ | with_reducible refine bh_t ?_ | with_reducible refine bh_f ?_ | with_reducible refine bh_nt ?_ | with_reducible refine bh_nf ?_ | ((with_reducible refine bh_r ?_); refine Exists.intro _ (And.intro rfl ?_)) | ((with_reducible refine ex_id ?_); first | refine Exists.intro _ (And.intro rfl ?_) | refine Exists.intro _ (Exists.intro _ (And.intro rfl ?_))) | ((with_reducible refine and_id ?_); refine And.intro rfl ?_)))
  have nL : ∀ ws, W = some ws → 0 + (i : Int) = 0 → ("L" : Str) ∉ pieceL (0 + (i : Int)) ws := fun ws e z => piece_noL (fun q hq => by have := ((h ws e).2 q hq).2.1; omega) (ws_nlr ok (h ws e))
  have nR : ∀ ws, W = some ws → 0 + (i : Int) = (n : Int) → ("R" : Str) ∉ pieceL (0 + (i : Int) + 1) ws := fun ws e z => piece_noR (fun q hq => by have := ((h ws e).2 q hq).2.2; omega) (ws_nlr ok (h ws e))
  cases W with
  | none =>
    (repeat (first | with_reducible refine p_seq ?_ | with_reducible refine nx_nx ?_ | with_reducible refine nx_rt ?_ | with_reducible refine p_if ?_ | with_reducible refine p_asg ?_ | with_reducible refine p_par ?_ | with_reducible refine p_parN ?_ | with_reducible refine p_ret ?_ | with_reducible refine p_retN ?_ | with_reducible refine p_next ?_ | with_reducible refine p_brk ?_ | with_reducible refine p_cnt ?_ | with_reducible refine p_drop ?_ | with_reducible refine p_appE ?_ | with_reducible refine p_lenE ?_ | with_reducible refine p_setI ?_ | with_reducible refine p_dput ?_ | with_reducible refine p_for ?_ | with_reducible refine p_varE ?_ | with_reducible refine p_frzE ?_ | with_reducible refine p_movE ?_ | with_reducible refine p_c ?_ | with_reducible refine p_op ?_ | with_reducible refine p_un ?_ | with_reducible refine p_ar ?_ | with_reducible refine p_me ?_ | with_reducible refine p_ife ?_ | with_reducible refine p_nil ?_ | with_reducible refine p_cons ?_ | with_reducible refine p_call ?_ | with_reducible refine p_lc ?_ | with_reducible refine p_sl ?_ | with_reducible refine p_on ?_ | with_reducible refine p_os ?_ | with_reducible refine p_fis ?_ | with_reducible refine p_rng1 ?_ | with_reducible refine p_rng2 ?_ | with_reducible refine p_fia ?_ | with_reducible refine p_din ?_ | with_reducible refine p_newT ?_ | with_reducible refine p_newK ?_ | with_reducible refine p_test ?_ | with_reducible refine p_band ?_ | with_reducible refine p_bor ?_ | with_reducible refine p_bnot ?_ | with_reducible refine p_yes ?_ | with_reducible refine p_or ?_ | with_reducible refine p_and ?_ | with_reducible refine p_not ?_ | with_reducible refine bh_t ?_ | with_reducible refine bh_f ?_ | with_reducible refine bh_nt ?_ | with_reducible refine bh_nf ?_ | ((with_reducible refine bh_r ?_); refine Exists.intro _ (And.intro rfl ?_)) | ((with_reducible refine ex_id ?_); first | refine Exists.intro _ (And.intro rfl ?_) | refine Exists.intro _ (Exists.intro _ (And.intro rfl ?_))) | ((with_reducible refine and_id ?_); refine And.intro rfl ?_)))
    exact ⟨_, _, _, _, _, _, _, _, rfl, nq _ _ _ _⟩
  | some ws =>
    have qL : 0 + (i : Int) = 0 → inB false (.imm (.str "L")) (.imm (mapW (fun ws => encS (pieceL (0 + (i : Int)) ws)) (some ws))) = some (.imm (.bool false)) := fun z => by show inB false _ (.imm (.tuple (encS (pieceL (0 + (i : Int)) ws)))) = _; rw [in_ls, decide_eq_false (nL ws rfl z)]
    have qR : 0 + (i : Int) = (n : Int) → inB false (.imm (.str "R")) (.imm (mapW (fun ws => encS (pieceL (0 + (i : Int) + 1) ws)) (some ws))) = some (.imm (.bool false)) := fun z => by show inB false _ (.imm (.tuple (encS (pieceL (0 + (i : Int) + 1) ws)))) = _; rw [in_ls, decide_eq_false (nR ws rfl z)]
    (repeat (first | with_reducible refine p_seq ?_ | with_reducible refine nx_nx ?_ | with_reducible refine nx_rt ?_ | with_reducible refine p_if ?_ | with_reducible refine p_asg ?_ | with_reducible refine p_par ?_ | with_reducible refine p_parN ?_ | with_reducible refine p_ret ?_ | with_reducible refine p_retN ?_ | with_reducible refine p_next ?_ | with_reducible refine p_brk ?_ | with_reducible refine p_cnt ?_ | with_reducible refine p_drop ?_ | with_reducible refine p_appE ?_ | with_reducible refine p_lenE ?_ | with_reducible refine p_setI ?_ | with_reducible refine p_dput ?_ | with_reducible refine p_for ?_ | with_reducible refine p_varE ?_ | with_reducible refine p_frzE ?_ | with_reducible refine p_movE ?_ | with_reducible refine p_c ?_ | with_reducible refine p_op ?_ | with_reducible refine p_un ?_ | with_reducible refine p_ar ?_ | with_reducible refine p_me ?_ | with_reducible refine p_ife ?_ | with_reducible refine p_nil ?_ | with_reducible refine p_cons ?_ | with_reducible refine p_call ?_ | with_reducible refine p_lc ?_ | with_reducible refine p_sl ?_ | with_reducible refine p_on ?_ | with_reducible refine p_os ?_ | with_reducible refine p_fis ?_ | with_reducible refine p_rng1 ?_ | with_reducible refine p_rng2 ?_ | with_reducible refine p_fia ?_ | with_reducible refine p_din ?_ | with_reducible refine p_newT ?_ | with_reducible refine p_newK ?_ | with_reducible refine p_test ?_ | with_reducible refine p_band ?_ | with_reducible refine p_bor ?_ | with_reducible refine p_bnot ?_ | with_reducible refine p_yes ?_ | with_reducible refine p_or ?_ | with_reducible refine p_and ?_ | with_reducible refine p_not ?_ | with_reducible refine bh_t ?_ | with_reducible refine bh_f ?_ | with_reducible refine bh_nt ?_ | with_reducible refine bh_nf ?_ | ((with_reducible refine bh_r ?_); refine Exists.intro _ (And.intro rfl ?_)) | ((with_reducible refine ex_id ?_); first | refine Exists.intro _ (And.intro rfl ?_) | refine Exists.intro _ (Exists.intro _ (And.intro rfl ?_))) | ((with_reducible refine and_id ?_); refine And.intro rfl ?_)))
    refine bh_e (fun z => ?_) fun z => ?_
    · (repeat (first | with_reducible refine ⟨_, qL z, ?_⟩ | with_reducible refine p_seq ?_ | with_reducible refine nx_nx ?_ | with_reducible refine nx_rt ?_ | with_reducible refine p_if ?_ | with_reducible refine p_asg ?_ | with_reducible refine p_par ?_ | with_reducible refine p_parN ?_ | with_reducible refine p_ret ?_ | with_reducible refine p_retN ?_ | with_reducible refine p_next ?_ | with_reducible refine p_brk ?_ | with_reducible refine p_cnt ?_ | with_reducible refine p_drop ?_ | with_reducible refine p_appE ?_ | with_reducible refine p_lenE ?_ | with_reducible refine p_setI ?_ | with_reducible refine p_dput ?_ | with_reducible refine p_for ?_ | with_reducible refine p_varE ?_ | with_reducible refine p_frzE ?_ | with_reducible refine p_movE ?_ | with_reducible refine p_c ?_ | with_reducible refine p_op ?_ | with_reducible refine p_un ?_ | with_reducible refine p_ar ?_ | with_reducible refine p_me ?_ | with_reducible refine p_ife ?_ | with_reducible refine p_nil ?_ | with_reducible refine p_cons ?_ | with_reducible refine p_call ?_ | with_reducible refine p_lc ?_ | with_reducible refine p_sl ?_ | with_reducible refine p_on ?_ | with_reducible refine p_os ?_ | with_reducible refine p_fis ?_ | with_reducible refine p_rng1 ?_ | with_reducible refine p_rng2 ?_ | with_reducible refine p_fia ?_ | with_reducible refine p_din ?_ | with_reducible refine p_newT ?_ | with_reducible refine p_newK ?_ | with_reducible refine p_test ?_ | with_reducible refine p_band ?_ | with_reducible refine p_bor ?_ | with_reducible refine p_bnot ?_ | with_reducible refine p_yes ?_ | with_reducible refine p_or ?_ | with_reducible refine p_and ?_ | with_reducible refine p_not ?_ | with_reducible refine bh_t ?_ | with_reducible refine bh_f ?_ | with_reducible refine bh_nt ?_ | with_reducible refine bh_nf ?_ | ((with_reducible refine bh_r ?_); refine Exists.intro _ (And.intro rfl ?_)) | ((with_reducible refine ex_id ?_); first | refine Exists.intro _ (And.intro rfl ?_) | refine Exists.intro _ (Exists.intro _ (And.intro rfl ?_))) | ((with_reducible refine and_id ?_); refine And.intro rfl ?_)))
      refine bh_e (fun z2 => ?_) fun z2 => ?_
      · (repeat (first | with_reducible refine ⟨_, qR z2, ?_⟩ | with_reducible refine p_seq ?_ | with_reducible refine nx_nx ?_ | with_reducible refine nx_rt ?_ | with_reducible refine p_if ?_ | with_reducible refine p_asg ?_ | with_reducible refine p_par ?_ | with_reducible refine p_parN ?_ | with_reducible refine p_ret ?_ | with_reducible refine p_retN ?_ | with_reducible refine p_next ?_ | with_reducible refine p_brk ?_ | with_reducible refine p_cnt ?_ | with_reducible refine p_drop ?_ | with_reducible refine p_appE ?_ | with_reducible refine p_lenE ?_ | with_reducible refine p_setI ?_ | with_reducible refine p_dput ?_ | with_reducible refine p_for ?_ | with_reducible refine p_varE ?_ | with_reducible refine p_frzE ?_ | with_reducible refine p_movE ?_ | with_reducible refine p_c ?_ | with_reducible refine p_op ?_ | with_reducible refine p_un ?_ | with_reducible refine p_ar ?_ | with_reducible refine p_me ?_ | with_reducible refine p_ife ?_ | with_reducible refine p_nil ?_ | with_reducible refine p_cons ?_ | with_reducible refine p_call ?_ | with_reducible refine p_lc ?_ | with_reducible refine p_sl ?_ | with_reducible refine p_on ?_ | with_reducible refine p_os ?_ | with_reducible refine p_fis ?_ | with_reducible refine p_rng1 ?_ | with_reducible refine p_rng2 ?_ | with_reducible refine p_fia ?_ | with_reducible refine p_din ?_ | with_reducible refine p_newT ?_ | with_reducible refine p_newK ?_ | with_reducible refine p_test ?_ | with_reducible refine p_band ?_ | with_reducible refine p_bor ?_ | with_reducible refine p_bnot ?_ | with_reducible refine p_yes ?_ | with_reducible refine p_or ?_ | with_reducible refine p_and ?_ | with_reducible refine p_not ?_ | with_reducible refine bh_t ?_ | with_reducible refine bh_f ?_ | with_reducible refine bh_nt ?_ | with_reducible refine bh_nf ?_ | ((with_reducible refine bh_r ?_); refine Exists.intro _ (And.intro rfl ?_)) | ((with_reducible refine ex_id ?_); first | refine Exists.intro _ (And.intro rfl ?_) | refine Exists.intro _ (Exists.intro _ (And.intro rfl ?_))) | ((with_reducible refine and_id ?_); refine And.intro rfl ?_)))
        exact ⟨_, _, _, _, _, _, _, _, rfl, nq _ _ _ _⟩
      · (repeat (first | with_reducible refine p_seq ?_ | with_reducible refine nx_nx ?_ | with_reducible refine nx_rt ?_ | with_reducible refine p_if ?_ | with_reducible refine p_asg ?_ | with_reducible refine p_par ?_ | with_reducible refine p_parN ?_ | with_reducible refine p_ret ?_ | with_reducible refine p_retN ?_ | with_reducible refine p_next ?_ | with_reducible refine p_brk ?_ | with_reducible refine p_cnt ?_ | with_reducible refine p_drop ?_ | with_reducible refine p_appE ?_ | with_reducible refine p_lenE ?_ | with_reducible refine p_setI ?_ | with_reducible refine p_dput ?_ | with_reducible refine p_for ?_ | with_reducible refine p_varE ?_ | with_reducible refine p_frzE ?_ | with_reducible refine p_movE ?_ | with_reducible refine p_c ?_ | with_reducible refine p_op ?_ | with_reducible refine p_un ?_ | with_reducible refine p_ar ?_ | with_reducible refine p_me ?_ | with_reducible refine p_ife ?_ | with_reducible refine p_nil ?_ | with_reducible refine p_cons ?_ | with_reducible refine p_call ?_ | with_reducible refine p_lc ?_ | with_reducible refine p_sl ?_ | with_reducible refine p_on ?_ | with_reducible refine p_os ?_ | with_reducible refine p_fis ?_ | with_reducible refine p_rng1 ?_ | with_reducible refine p_rng2 ?_ | with_reducible refine p_fia ?_ | with_reducible refine p_din ?_ | with_reducible refine p_newT ?_ | with_reducible refine p_newK ?_ | with_reducible refine p_test ?_ | with_reducible refine p_band ?_ | with_reducible refine p_bor ?_ | with_reducible refine p_bnot ?_ | with_reducible refine p_yes ?_ | with_reducible refine p_or ?_ | with_reducible refine p_and ?_ | with_reducible refine p_not ?_ | with_reducible refine bh_t ?_ | with_reducible refine bh_f ?_ | with_reducible refine bh_nt ?_ | with_reducible refine bh_nf ?_ | ((with_reducible refine bh_r ?_); refine Exists.intro _ (And.intro rfl ?_)) | ((with_reducible refine ex_id ?_); first | refine Exists.intro _ (And.intro rfl ?_) | refine Exists.intro _ (Exists.intro _ (And.intro rfl ?_))) | ((with_reducible refine and_id ?_); refine And.intro rfl ?_)))
        exact ⟨_, _, _, _, _, _, _, _, rfl, nq _ _ _ _⟩
    · (repeat (first | with_reducible refine p_seq ?_ | with_reducible refine nx_nx ?_ | with_reducible refine nx_rt ?_ | with_reducible refine p_if ?_ | with_reducible refine p_asg ?_ | with_reducible refine p_par ?_ | with_reducible refine p_parN ?_ | with_reducible refine p_ret ?_ | with_reducible refine p_retN ?_ | with_reducible refine p_next ?_ | with_reducible refine p_brk ?_ | with_reducible refine p_cnt ?_ | with_reducible refine p_drop ?_ | with_reducible refine p_appE ?_ | with_reducible refine p_lenE ?_ | with_reducible refine p_setI ?_ | with_reducible refine p_dput ?_ | with_reducible refine p_for ?_ | with_reducible refine p_varE ?_ | with_reducible refine p_frzE ?_ | with_reducible refine p_movE ?_ | with_reducible refine p_c ?_ | with_reducible refine p_op ?_ | with_reducible refine p_un ?_ | with_reducible refine p_ar ?_ | with_reducible refine p_me ?_ | with_reducible refine p_ife ?_ | with_reducible refine p_nil ?_ | with_reducible refine p_cons ?_ | with_reducible refine p_call ?_ | with_reducible refine p_lc ?_ | with_reducible refine p_sl ?_ | with_reducible refine p_on ?_ | with_reducible refine p_os ?_ | with_reducible refine p_fis ?_ | with_reducible refine p_rng1 ?_ | with_reducible refine p_rng2 ?_ | with_reducible refine p_fia ?_ | with_reducible refine p_din ?_ | with_reducible refine p_newT ?_ | with_reducible refine p_newK ?_ | with_reducible refine p_test ?_ | with_reducible refine p_band ?_ | with_reducible refine p_bor ?_ | with_reducible refine p_bnot ?_ | with_reducible refine p_yes ?_ | with_reducible refine p_or ?_ | with_reducible refine p_and ?_ | with_reducible refine p_not ?_ | with_reducible refine bh_t ?_ | with_reducible refine bh_f ?_ | with_reducible refine bh_nt ?_ | with_reducible refine bh_nf ?_ | ((with_reducible refine bh_r ?_); refine Exists.intro _ (And.intro rfl ?_)) | ((with_reducible refine ex_id ?_); first | refine Exists.intro _ (And.intro rfl ?_) | refine Exists.intro _ (Exists.intro _ (And.intro rfl ?_))) | ((with_reducible refine and_id ?_); refine And.intro rfl ?_)))
      refine bh_e (fun z2 => ?_) fun z2 => ?_
      · (repeat (first | with_reducible refine ⟨_, qR z2, ?_⟩ | with_reducible refine p_seq ?_ | with_reducible refine nx_nx ?_ | with_reducible refine nx_rt ?_ | with_reducible refine p_if ?_ | with_reducible refine p_asg ?_ | with_reducible refine p_par ?_ | with_reducible refine p_parN ?_ | with_reducible refine p_ret ?_ | with_reducible refine p_retN ?_ | with_reducible refine p_next ?_ | with_reducible refine p_brk ?_ | with_reducible refine p_cnt ?_ | with_reducible refine p_drop ?_ | with_reducible refine p_appE ?_ | with_reducible refine p_lenE ?_ | with_reducible refine p_setI ?_ | with_reducible refine p_dput ?_ | with_reducible refine p_for ?_ | with_reducible refine p_varE ?_ | with_reducible refine p_frzE ?_ | with_reducible refine p_movE ?_ | with_reducible refine p_c ?_ | with_reducible refine p_op ?_ | with_reducible refine p_un ?_ | with_reducible refine p_ar ?_ | with_reducible refine p_me ?_ | with_reducible refine p_ife ?_ | with_reducible refine p_nil ?_ | with_reducible refine p_cons ?_ | with_reducible refine p_call ?_ | with_reducible refine p_lc ?_ | with_reducible refine p_sl ?_ | with_reducible refine p_on ?_ | with_reducible refine p_os ?_ | with_reducible refine p_fis ?_ | with_reducible refine p_rng1 ?_ | with_reducible refine p_rng2 ?_ | with_reducible refine p_fia ?_ | with_reducible refine p_din ?_ | with_reducible refine p_newT ?_ | with_reducible refine p_newK ?_ | with_reducible refine p_test ?_ | with_reducible refine p_band ?_ | with_reducible refine p_bor ?_ | with_reducible refine p_bnot ?_ | with_reducible refine p_yes ?_ | with_reducible refine p_or ?_ | with_reducible refine p_and ?_ | with_reducible refine p_not ?_ | with_reducible refine bh_t ?_ | with_reducible refine bh_f ?_ | with_reducible refine bh_nt ?_ | with_reducible refine bh_nf ?_ | ((with_reducible refine bh_r ?_); refine Exists.intro _ (And.intro rfl ?_)) | ((with_reducible refine ex_id ?_); first | refine Exists.intro _ (And.intro rfl ?_) | refine Exists.intro _ (Exists.intro _ (And.intro rfl ?_))) | ((with_reducible refine and_id ?_); refine And.intro rfl ?_)))
        exact ⟨_, _, _, _, _, _, _, _, rfl, nq _ _ _ _⟩
      · (repeat (first | with_reducible refine p_seq ?_ | with_reducible refine nx_nx ?_ | with_reducible refine nx_rt ?_ | with_reducible refine p_if ?_ | with_reducible refine p_asg ?_ | with_reducible refine p_par ?_ | with_reducible refine p_parN ?_ | with_reducible refine p_ret ?_ | with_reducible refine p_retN ?_ | with_reducible refine p_next ?_ | with_reducible refine p_brk ?_ | with_reducible refine p_cnt ?_ | with_reducible refine p_drop ?_ | with_reducible refine p_appE ?_ | with_reducible refine p_lenE ?_ | with_reducible refine p_setI ?_ | with_reducible refine p_dput ?_ | with_reducible refine p_for ?_ | with_reducible refine p_varE ?_ | with_reducible refine p_frzE ?_ | with_reducible refine p_movE ?_ | with_reducible refine p_c ?_ | with_reducible refine p_op ?_ | with_reducible refine p_un ?_ | with_reducible refine p_ar ?_ | with_reducible refine p_me ?_ | with_reducible refine p_ife ?_ | with_reducible refine p_nil ?_ | with_reducible refine p_cons ?_ | with_reducible refine p_call ?_ | with_reducible refine p_lc ?_ | with_reducible refine p_sl ?_ | with_reducible refine p_on ?_ | with_reducible refine p_os ?_ | with_reducible refine p_fis ?_ | with_reducible refine p_rng1 ?_ | with_reducible refine p_rng2 ?_ | with_reducible refine p_fia ?_ | with_reducible refine p_din ?_ | with_reducible refine p_newT ?_ | with_reducible refine p_newK ?_ | with_reducible refine p_test ?_ | with_reducible refine p_band ?_ | with_reducible refine p_bor ?_ | with_reducible refine p_bnot ?_ | with_reducible refine p_yes ?_ | with_reducible refine p_or ?_ | with_reducible refine p_and ?_ | with_reducible refine p_not ?_ | with_reducible refine bh_t ?_ | with_reducible refine bh_f ?_ | with_reducible refine bh_nt ?_ | with_reducible refine bh_nf ?_ | ((with_reducible refine bh_r ?_); refine Exists.intro _ (And.intro rfl ?_)) | ((with_reducible refine ex_id ?_); first | refine Exists.intro _ (And.intro rfl ?_) | refine Exists.intro _ (Exists.intro _ (And.intro rfl ?_))) | ((with_reducible refine and_id ?_); refine And.intro rfl ?_)))
        exact ⟨_, _, _, _, _, _, _, _, rfl, nq _ _ _ _⟩
end
end Lw
set_option maxRecDepth 100000
set_option maxHeartbeats 1000000
namespace Lw
open PySem PySem.Spec PyProof.Rows L2 DL
section
variable {as ls : List Str} {n : Nat} {W : Wr}
/-- what the law's own loop keeps -/
def LapJ (as ls : List Str) (ρ : En) : Prop := ∃ v3 v4 v5 v6 v7 v8 v9 v10 v11 v12, ρ = [none, some .src, some (.imm (sheetD as ls)), v3, v4, v5, v6, v7, v8, v9, v10, v11, v12, none, none, none, none] ∧ nbE [v3, v4, v5, v6, v7, v8, v9, v10, v11, v12] = true
theorem lap_end (ok : SheetOk as ls) (hn : n ≤ 60) (h : WOk ls n W) {lap prog row v8 v9 v10 v11 v12 : Option Bd} (nb : nbE [lap, prog, row, v8, v9, v10, v11, v12] = true) {S : Src} {ρ : En} (eρ : ρ = [none, some .src, some (.imm (sheetD as ls)), lap, prog, some (.imm (.int (n : Nat))), row, some (.imm (mapW enc W)), v8, v9, v10, v11, v12, none, none, none, none]) :
    ((gFor (sName 9) (fiAr rng1I (aCons (fOp addB (fVar 5) (fC (.int 1))) aNil)) l_law_2) ρ S).Post fun fl ρ2 S2 => (fl = .nx ∨ fl = .ct) ∧ LapJ as ls ρ2 := by
  subst eρ
  (repeat (first | with_reducible refine p_seq ?_ | with_reducible refine nx_nx ?_ | with_reducible refine nx_rt ?_ | with_reducible refine p_if ?_ | with_reducible refine p_asg ?_ | with_reducible refine p_par ?_ | with_reducible refine p_parN ?_ | with_reducible refine p_ret ?_ | with_reducible refine p_retN ?_ | with_reducible refine p_next ?_ | with_reducible refine p_brk ?_ | with_reducible refine p_cnt ?_ | with_reducible refine p_drop ?_ | with_reducible refine p_appE ?_ | with_reducible refine p_lenE ?_ | with_reducible refine p_setI ?_ | with_reducible refine p_dput ?_ | with_reducible refine p_for ?_ | with_reducible refine p_varE ?_ | with_reducible refine p_frzE ?_ | with_reducible refine p_movE ?_ | with_reducible refine p_c ?_ | with_reducible refine p_op ?_ | with_reducible refine p_un ?_ | with_reducible refine p_ar ?_ | with_reducible refine p_me ?_ | with_reducible refine p_ife ?_ | with_reducible refine p_nil ?_ | with_reducible refine p_cons ?_ | with_reducible refine p_call ?_ | with_reducible refine p_lc ?_ | with_reducible refine p_sl ?_ | with_reducible refine p_on ?_ | with_reducible refine p_os ?_ | with_reducible refine p_fis ?_ | with_reducible refine p_rng1 ?_ | with_reducible refine p_rng2 ?_ | with_reducible refine p_fia ?_ | with_reducible refine p_din ?_ | with_reducible refine p_newT ?_ | with_reducible refine p_newK ?_ | with_reducible refine p_test ?_ | with_reducible refine p_band ?_ | with_reducible refine p_bor ?_ | with_reducible refine p_bnot ?_ | with_reducible refine p_yes ?_ | with_reducible refine p_or ?_ | with_reducible refine p_and ?_ | with_reducible refine p_not ?_ | with_reducible refine bh_t ?_ | with_reducible refine bh_f ?_ | with_reducible refine bh_nt ?_ | with_reducible refine bh_nf ?_ | ((with_reducible refine bh_r ?_); refine Exists.intro _ (And.intro rfl ?_)) | ((with_reducible refine ex_id ?_); first | refine Exists.intro _ (And.intro rfl ?_) | refine Exists.intro _ (Exists.intro _ (And.intro rfl ?_))) | ((with_reducible refine and_id ?_); refine And.intro rfl ?_)))
  refine ⟨by omega, rfl, ?_⟩
  refine p_forS (fun i ρ => CutJ as ls W n i ρ) ⟨_, _, _, _, _, _, _, _, rfl, nb⟩ ?_ ?_
  · intro i d ρ S hd hJ
    obtain ⟨hi, rfl⟩ := rangeD_get hd
    obtain ⟨ρ1, e, h2⟩ := cut_body ok hn h (S := S) (i := i) (by omega) hJ
    exact ⟨ρ1, e, h2.imp fun fl ρ2 S2 q => ⟨.inl q.1, q.2⟩⟩
  · rintro ρ S ⟨lap, prog, row, v8, v9, v10, v11, v12, rfl, nb⟩
    exact ⟨.inl rfl, _, _, _, _, _, _, _, _, _, _, rfl, nbE_cons (nb1 nb (by simp)) (nbE_cons (nb1 nb (by simp)) (nbE_cons rfl (nbE_cons (nb1 nb (by simp)) (nbE_cons rfl (nbE_cons (nb1 nb (by simp)) (nbE_cons (nb1 nb (by simp)) (nbE_cons (nb1 nb (by simp)) (nbE_cons (nb1 nb (by simp)) (nb1 nb (by simp))))))))))⟩
theorem enc_snoc {ws : List (Str × Int)} {l : Str} {p : Int} : enc ws ++ [.tuple [.str l, .int p]] = enc (ws ++ [(l, p)]) := by simp [enc, encP]
theorem encS_snoc {xs : List Str} {x : Str} : encS xs ++ [.str x] = encS (xs ++ [x]) := by simp [encS]
theorem cp_ofS {xs : List Str} {bs : List Bd} {x : Bd} {S : Src} {Q : Bd → Src → Prop} (e : argsB bs = some [.src, x]) (hx : x = .imm (.tuple (encS xs)) ∨ x = .imm (.list (encS xs))) (h : encS xs ≠ []) (hl : (encS xs).length ≤ 1000)
    (q : ∀ y S', y ∈ xs → Q (.imm (.str y)) S') : CallP F__law_of bs S Q := cp_of e hx h hl (.inr fun d hd => by obtain ⟨y, _, rfl⟩ := List.mem_map.mp hd; rfl) fun d S' hd => by
  obtain ⟨y, hy, rfl⟩ := List.mem_map.mp hd
  exact q y S' hy
/-- what the drawn writing's loop keeps -/
def WrJ (as ls : List Str) (n : Nat) (v3 v4 v6 v9 v10 v11 v12 : Option Bd) (j : Nat) (ρ : En) : Prop := ∃ (ws : List (Str × Int)) (w8 : Option Bd), ws.length = j ∧ j ≤ 8 ∧ (∀ q ∈ ws, q.1 ∈ ls ∧ 0 ≤ q.2 ∧ q.2 ≤ n + 1) ∧ nbE [w8] = true ∧ ρ = [none, some .src, some (.imm (sheetD as ls)), v3, v4, some (.imm (.int (n : Nat))), v6, some (.lst (enc ws)), w8, v9, v10, v11, v12, none, none, none, none]
theorem wr_body (ok : SheetOk as ls) (hn : n ≤ 60) {v3 v4 v6 v9 v10 v11 v12 : Option Bd} (nb : nbE [v3, v4, v6, v9, v10, v11, v12] = true) {j : Nat} {ρ : En} {S : Src} (hj1 : j < 8) (hJ : WrJ as ls n v3 v4 v6 v9 v10 v11 v12 j ρ) : ∃ ρ1, sName 8 (.imm (.int (0 + (j : Nat)))) ρ = some ρ1 ∧ (l_law_1 ρ1 S).Post fun fl ρ2 S2 => (fl = .nx ∨ fl = .ct) ∧ WrJ as ls n v3 v4 v6 v9 v10 v11 v12 (j + 1) ρ2 := by
  obtain ⟨ws, w8, hl, hj, hin, nw, rfl⟩ := hJ
  have l0 : encS ls ≠ [] := by have := ok.l0; simpa [encS] using this
  have l2 : (encS ls).length ≤ 1000 := by have := ok.l2; rw [encS_len]; omega
  have nbX : nbE [none, some .src, some (.imm (sheetD as ls)), v3, v4, some (.imm (.int (n : Nat))), v6, some (.lst (enc ws)), some (.imm (.int (0 + (j : Nat)))), v9, v10, v11, v12, none, none, none, none] = true := nbE_cons rfl (nbE_cons rfl (nbE_cons rfl (nbE_cons (nb1 nb (by simp)) (nbE_cons (nb1 nb (by simp)) (nbE_cons rfl (nbE_cons (nb1 nb (by simp)) (nbE_cons rfl (nbE_cons rfl (nbE_cons (nb1 nb (by simp)) (nbE_cons (nb1 nb (by simp)) (nbE_cons (nb1 nb (by simp)) (nbE_cons (nb1 nb (by simp)) rfl))))))))))))
  refine ⟨_, rfl, ?_⟩
  (repeat (first | with_reducible refine p_seq ?_ | with_reducible refine nx_nx ?_ | with_reducible refine nx_rt ?_ | with_reducible refine p_if ?_ | with_reducible refine p_asg ?_ | with_reducible refine p_par ?_ | with_reducible refine p_parN ?_ | with_reducible refine p_ret ?_ | with_reducible refine p_retN ?_ | with_reducible refine p_next ?_ | with_reducible refine p_brk ?_ | with_reducible refine p_cnt ?_ | with_reducible refine p_drop ?_ | with_reducible refine p_appE ?_ | with_reducible refine p_lenE ?_ | with_reducible refine p_setI ?_ | with_reducible refine p_dput ?_ | with_reducible refine p_for ?_ | with_reducible refine p_varE ?_ | with_reducible refine p_frzE ?_ | with_reducible refine p_movE ?_ | with_reducible refine p_c ?_ | with_reducible refine p_op ?_ | with_reducible refine p_un ?_ | with_reducible refine p_ar ?_ | with_reducible refine p_me ?_ | with_reducible refine p_ife ?_ | with_reducible refine p_nil ?_ | with_reducible refine p_cons ?_ | with_reducible refine p_call ?_ | with_reducible refine p_lc ?_ | with_reducible refine p_sl ?_ | with_reducible refine p_on ?_ | with_reducible refine p_os ?_ | with_reducible refine p_fis ?_ | with_reducible refine p_rng1 ?_ | with_reducible refine p_rng2 ?_ | with_reducible refine p_fia ?_ | with_reducible refine p_din ?_ | with_reducible refine p_newT ?_ | with_reducible refine p_newK ?_ | with_reducible refine p_test ?_ | with_reducible refine p_band ?_ | with_reducible refine p_bor ?_ | with_reducible refine p_bnot ?_ | with_reducible refine p_yes ?_ | with_reducible refine p_or ?_ | with_reducible refine p_and ?_ | with_reducible refine p_not ?_ | with_reducible refine bh_t ?_ | with_reducible refine bh_f ?_ | with_reducible refine bh_nt ?_ | with_reducible refine bh_nf ?_ | ((with_reducible refine bh_r ?_); refine Exists.intro _ (And.intro rfl ?_)) | ((with_reducible refine ex_id ?_); first | refine Exists.intro _ (And.intro rfl ?_) | refine Exists.intro _ (Exists.intro _ (And.intro rfl ?_))) | ((with_reducible refine and_id ?_); refine And.intro rfl ?_)))
  refine cp_ofS (xs := ls) rfl (.inl rfl) l0 l2 fun x S5 hx' => ?_
  (repeat (first | with_reducible refine p_seq ?_ | with_reducible refine nx_nx ?_ | with_reducible refine nx_rt ?_ | with_reducible refine p_if ?_ | with_reducible refine p_asg ?_ | with_reducible refine p_par ?_ | with_reducible refine p_parN ?_ | with_reducible refine p_ret ?_ | with_reducible refine p_retN ?_ | with_reducible refine p_next ?_ | with_reducible refine p_brk ?_ | with_reducible refine p_cnt ?_ | with_reducible refine p_drop ?_ | with_reducible refine p_appE ?_ | with_reducible refine p_lenE ?_ | with_reducible refine p_setI ?_ | with_reducible refine p_dput ?_ | with_reducible refine p_for ?_ | with_reducible refine p_varE ?_ | with_reducible refine p_frzE ?_ | with_reducible refine p_movE ?_ | with_reducible refine p_c ?_ | with_reducible refine p_op ?_ | with_reducible refine p_un ?_ | with_reducible refine p_ar ?_ | with_reducible refine p_me ?_ | with_reducible refine p_ife ?_ | with_reducible refine p_nil ?_ | with_reducible refine p_cons ?_ | with_reducible refine p_call ?_ | with_reducible refine p_lc ?_ | with_reducible refine p_sl ?_ | with_reducible refine p_on ?_ | with_reducible refine p_os ?_ | with_reducible refine p_fis ?_ | with_reducible refine p_rng1 ?_ | with_reducible refine p_rng2 ?_ | with_reducible refine p_fia ?_ | with_reducible refine p_din ?_ | with_reducible refine p_newT ?_ | with_reducible refine p_newK ?_ | with_reducible refine p_test ?_ | with_reducible refine p_band ?_ | with_reducible refine p_bor ?_ | with_reducible refine p_bnot ?_ | with_reducible refine p_yes ?_ | with_reducible refine p_or ?_ | with_reducible refine p_and ?_ | with_reducible refine p_not ?_ | with_reducible refine bh_t ?_ | with_reducible refine bh_f ?_ | with_reducible refine bh_nt ?_ | with_reducible refine bh_nf ?_ | ((with_reducible refine bh_r ?_); refine Exists.intro _ (And.intro rfl ?_)) | ((with_reducible refine ex_id ?_); first | refine Exists.intro _ (And.intro rfl ?_) | refine Exists.intro _ (Exists.intro _ (And.intro rfl ?_))) | ((with_reducible refine and_id ?_); refine And.intro rfl ?_)))
  refine cp_pick rfl (by omega) (by omega) fun k6 S6 k60 k61 => ?_
  (repeat (first | with_reducible refine p_seq ?_ | with_reducible refine nx_nx ?_ | with_reducible refine nx_rt ?_ | with_reducible refine p_if ?_ | with_reducible refine p_asg ?_ | with_reducible refine p_par ?_ | with_reducible refine p_parN ?_ | with_reducible refine p_ret ?_ | with_reducible refine p_retN ?_ | with_reducible refine p_next ?_ | with_reducible refine p_brk ?_ | with_reducible refine p_cnt ?_ | with_reducible refine p_drop ?_ | with_reducible refine p_appE ?_ | with_reducible refine p_lenE ?_ | with_reducible refine p_setI ?_ | with_reducible refine p_dput ?_ | with_reducible refine p_for ?_ | with_reducible refine p_varE ?_ | with_reducible refine p_frzE ?_ | with_reducible refine p_movE ?_ | with_reducible refine p_c ?_ | with_reducible refine p_op ?_ | with_reducible refine p_un ?_ | with_reducible refine p_ar ?_ | with_reducible refine p_me ?_ | with_reducible refine p_ife ?_ | with_reducible refine p_nil ?_ | with_reducible refine p_cons ?_ | with_reducible refine p_call ?_ | with_reducible refine p_lc ?_ | with_reducible refine p_sl ?_ | with_reducible refine p_on ?_ | with_reducible refine p_os ?_ | with_reducible refine p_fis ?_ | with_reducible refine p_rng1 ?_ | with_reducible refine p_rng2 ?_ | with_reducible refine p_fia ?_ | with_reducible refine p_din ?_ | with_reducible refine p_newT ?_ | with_reducible refine p_newK ?_ | with_reducible refine p_test ?_ | with_reducible refine p_band ?_ | with_reducible refine p_bor ?_ | with_reducible refine p_bnot ?_ | with_reducible refine p_yes ?_ | with_reducible refine p_or ?_ | with_reducible refine p_and ?_ | with_reducible refine p_not ?_ | with_reducible refine bh_t ?_ | with_reducible refine bh_f ?_ | with_reducible refine bh_nt ?_ | with_reducible refine bh_nf ?_ | ((with_reducible refine bh_r ?_); refine Exists.intro _ (And.intro rfl ?_)) | ((with_reducible refine ex_id ?_); first | refine Exists.intro _ (And.intro rfl ?_) | refine Exists.intro _ (Exists.intro _ (And.intro rfl ?_))) | ((with_reducible refine and_id ?_); refine And.intro rfl ?_)))
  refine ⟨_, _, rfl, rfl, by rw [enc_len]; omega, nbX, ?_⟩
  refine ⟨.inl rfl, ws ++ [(x, k6)], _, by simp [hl], by omega, fun q hq => ?_, rfl, by rw [← enc_snoc]; rfl⟩
  rw [List.mem_append, List.mem_singleton] at hq
  rcases hq with hq | rfl
  · exact hin q hq
  · exact ⟨hx', k60, by omega⟩
theorem lap_body (ok : SheetOk as ls) {i : Nat} (hi : i < 5) {ρ : En} {S : Src} (hJ : LapJ as ls ρ) : ∃ ρ1, sName 3 (.imm (.int (0 + (i : Nat)))) ρ = some ρ1 ∧ (l_law_3 ρ1 S).Post fun fl ρ2 S2 => (fl = .nx ∨ fl = .ct) ∧ LapJ as ls ρ2 := by
  obtain ⟨v3, v4, v5, v6, v7, v8, v9, v10, v11, v12, rfl, nb⟩ := hJ
  have n6 : nbE [v6] = true := nb1 nb (by simp)
  have n7 : nbE [v7] = true := nb1 nb (by simp)
  have n9 : nbE [v9] = true := nb1 nb (by simp)
  have n10 : nbE [v10] = true := nb1 nb (by simp)
  have n11 : nbE [v11] = true := nb1 nb (by simp)
  have n12 : nbE [v12] = true := nb1 nb (by simp)
  have a0 : encS as ≠ [] := by have := ok.a0; simpa [encS] using this
  have l0 : encS ls ≠ [] := by have := ok.l0; simpa [encS] using this
  have a2 : (encS as).length ≤ 1000 := by have := ok.a2; rw [encS_len]; omega
  have l2 : (encS ls).length ≤ 1000 := by have := ok.l2; rw [encS_len]; omega
  refine ⟨_, rfl, ?_⟩
  (repeat (first | with_reducible refine p_seq ?_ | with_reducible refine nx_nx ?_ | with_reducible refine nx_rt ?_ | with_reducible refine p_if ?_ | with_reducible refine p_asg ?_ | with_reducible refine p_par ?_ | with_reducible refine p_parN ?_ | with_reducible refine p_ret ?_ | with_reducible refine p_retN ?_ | with_reducible refine p_next ?_ | with_reducible refine p_brk ?_ | with_reducible refine p_cnt ?_ | with_reducible refine p_drop ?_ | with_reducible refine p_appE ?_ | with_reducible refine p_lenE ?_ | with_reducible refine p_setI ?_ | with_reducible refine p_dput ?_ | with_reducible refine p_for ?_ | with_reducible refine p_varE ?_ | with_reducible refine p_frzE ?_ | with_reducible refine p_movE ?_ | with_reducible refine p_c ?_ | with_reducible refine p_op ?_ | with_reducible refine p_un ?_ | with_reducible refine p_ar ?_ | with_reducible refine p_me ?_ | with_reducible refine p_ife ?_ | with_reducible refine p_nil ?_ | with_reducible refine p_cons ?_ | with_reducible refine p_call ?_ | with_reducible refine p_lc ?_ | with_reducible refine p_sl ?_ | with_reducible refine p_on ?_ | with_reducible refine p_os ?_ | with_reducible refine p_fis ?_ | with_reducible refine p_rng1 ?_ | with_reducible refine p_rng2 ?_ | with_reducible refine p_fia ?_ | with_reducible refine p_din ?_ | with_reducible refine p_newT ?_ | with_reducible refine p_newK ?_ | with_reducible refine p_test ?_ | with_reducible refine p_band ?_ | with_reducible refine p_bor ?_ | with_reducible refine p_bnot ?_ | with_reducible refine p_yes ?_ | with_reducible refine p_or ?_ | with_reducible refine p_and ?_ | with_reducible refine p_not ?_ | with_reducible refine bh_t ?_ | with_reducible refine bh_f ?_ | with_reducible refine bh_nt ?_ | with_reducible refine bh_nf ?_ | ((with_reducible refine bh_r ?_); refine Exists.intro _ (And.intro rfl ?_)) | ((with_reducible refine ex_id ?_); first | refine Exists.intro _ (And.intro rfl ?_) | refine Exists.intro _ (Exists.intro _ (And.intro rfl ?_))) | ((with_reducible refine and_id ?_); refine And.intro rfl ?_)))
  obtain ⟨b, S1, e, d, count, rfl, c1, c2, hp⟩ := sweep_ok ok (S := S)
  refine callP rfl e rfl ?_
  (repeat (first | with_reducible refine p_seq ?_ | with_reducible refine nx_nx ?_ | with_reducible refine nx_rt ?_ | with_reducible refine p_if ?_ | with_reducible refine p_asg ?_ | with_reducible refine p_par ?_ | with_reducible refine p_parN ?_ | with_reducible refine p_ret ?_ | with_reducible refine p_retN ?_ | with_reducible refine p_next ?_ | with_reducible refine p_brk ?_ | with_reducible refine p_cnt ?_ | with_reducible refine p_drop ?_ | with_reducible refine p_appE ?_ | with_reducible refine p_lenE ?_ | with_reducible refine p_setI ?_ | with_reducible refine p_dput ?_ | with_reducible refine p_for ?_ | with_reducible refine p_varE ?_ | with_reducible refine p_frzE ?_ | with_reducible refine p_movE ?_ | with_reducible refine p_c ?_ | with_reducible refine p_op ?_ | with_reducible refine p_un ?_ | with_reducible refine p_ar ?_ | with_reducible refine p_me ?_ | with_reducible refine p_ife ?_ | with_reducible refine p_nil ?_ | with_reducible refine p_cons ?_ | with_reducible refine p_call ?_ | with_reducible refine p_lc ?_ | with_reducible refine p_sl ?_ | with_reducible refine p_on ?_ | with_reducible refine p_os ?_ | with_reducible refine p_fis ?_ | with_reducible refine p_rng1 ?_ | with_reducible refine p_rng2 ?_ | with_reducible refine p_fia ?_ | with_reducible refine p_din ?_ | with_reducible refine p_newT ?_ | with_reducible refine p_newK ?_ | with_reducible refine p_test ?_ | with_reducible refine p_band ?_ | with_reducible refine p_bor ?_ | with_reducible refine p_bnot ?_ | with_reducible refine p_yes ?_ | with_reducible refine p_or ?_ | with_reducible refine p_and ?_ | with_reducible refine p_not ?_ | with_reducible refine bh_t ?_ | with_reducible refine bh_f ?_ | with_reducible refine bh_nt ?_ | with_reducible refine bh_nf ?_ | ((with_reducible refine bh_r ?_); refine Exists.intro _ (And.intro rfl ?_)) | ((with_reducible refine ex_id ?_); first | refine Exists.intro _ (And.intro rfl ?_) | refine Exists.intro _ (Exists.intro _ (And.intro rfl ?_))) | ((with_reducible refine and_id ?_); refine And.intro rfl ?_)))
  refine cp_pick rfl (by decide) (by decide) fun k S2 k0 k1 => ?_
  obtain ⟨n, rfl⟩ := Int.eq_ofNat_of_zero_le k0
  (repeat (first | with_reducible refine p_seq ?_ | with_reducible refine nx_nx ?_ | with_reducible refine nx_rt ?_ | with_reducible refine p_if ?_ | with_reducible refine p_asg ?_ | with_reducible refine p_par ?_ | with_reducible refine p_parN ?_ | with_reducible refine p_ret ?_ | with_reducible refine p_retN ?_ | with_reducible refine p_next ?_ | with_reducible refine p_brk ?_ | with_reducible refine p_cnt ?_ | with_reducible refine p_drop ?_ | with_reducible refine p_appE ?_ | with_reducible refine p_lenE ?_ | with_reducible refine p_setI ?_ | with_reducible refine p_dput ?_ | with_reducible refine p_for ?_ | with_reducible refine p_varE ?_ | with_reducible refine p_frzE ?_ | with_reducible refine p_movE ?_ | with_reducible refine p_c ?_ | with_reducible refine p_op ?_ | with_reducible refine p_un ?_ | with_reducible refine p_ar ?_ | with_reducible refine p_me ?_ | with_reducible refine p_ife ?_ | with_reducible refine p_nil ?_ | with_reducible refine p_cons ?_ | with_reducible refine p_call ?_ | with_reducible refine p_lc ?_ | with_reducible refine p_sl ?_ | with_reducible refine p_on ?_ | with_reducible refine p_os ?_ | with_reducible refine p_fis ?_ | with_reducible refine p_rng1 ?_ | with_reducible refine p_rng2 ?_ | with_reducible refine p_fia ?_ | with_reducible refine p_din ?_ | with_reducible refine p_newT ?_ | with_reducible refine p_newK ?_ | with_reducible refine p_test ?_ | with_reducible refine p_band ?_ | with_reducible refine p_bor ?_ | with_reducible refine p_bnot ?_ | with_reducible refine p_yes ?_ | with_reducible refine p_or ?_ | with_reducible refine p_and ?_ | with_reducible refine p_not ?_ | with_reducible refine bh_t ?_ | with_reducible refine bh_f ?_ | with_reducible refine bh_nt ?_ | with_reducible refine bh_nf ?_ | ((with_reducible refine bh_r ?_); refine Exists.intro _ (And.intro rfl ?_)) | ((with_reducible refine ex_id ?_); first | refine Exists.intro _ (And.intro rfl ?_) | refine Exists.intro _ (Exists.intro _ (And.intro rfl ?_))) | ((with_reducible refine and_id ?_); refine And.intro rfl ?_)))
  refine ⟨by omega, ?_⟩
  refine p_lcS (fun j acc ρ => ∃ (xs : List Str) (w8 : Option Bd), xs.length = j ∧ (∀ x ∈ xs, x ∈ as) ∧ acc = encS xs ∧ j ≤ n ∧ ρ = [none, some .src, some (.imm (sheetD as ls)), some (.imm (.int (0 + (i : Nat)))), some (.imm d), some (.imm (.int (n : Nat))), v6, v7, w8, v9, v10, v11, v12, none, none, none, none]) ⟨[], _, rfl, (fun x h => by cases h), rfl, by omega, rfl⟩ ?_ ?_
  · rintro j d2 acc ρ S hd ⟨xs, w8, hx, hm, rfl, hj, rfl⟩
    obtain ⟨hj1, rfl⟩ := rangeD_get hd
    refine ⟨_, rfl, ?_⟩
    (repeat (first | with_reducible refine p_seq ?_ | with_reducible refine nx_nx ?_ | with_reducible refine nx_rt ?_ | with_reducible refine p_if ?_ | with_reducible refine p_asg ?_ | with_reducible refine p_par ?_ | with_reducible refine p_parN ?_ | with_reducible refine p_ret ?_ | with_reducible refine p_retN ?_ | with_reducible refine p_next ?_ | with_reducible refine p_brk ?_ | with_reducible refine p_cnt ?_ | with_reducible refine p_drop ?_ | with_reducible refine p_appE ?_ | with_reducible refine p_lenE ?_ | with_reducible refine p_setI ?_ | with_reducible refine p_dput ?_ | with_reducible refine p_for ?_ | with_reducible refine p_varE ?_ | with_reducible refine p_frzE ?_ | with_reducible refine p_movE ?_ | with_reducible refine p_c ?_ | with_reducible refine p_op ?_ | with_reducible refine p_un ?_ | with_reducible refine p_ar ?_ | with_reducible refine p_me ?_ | with_reducible refine p_ife ?_ | with_reducible refine p_nil ?_ | with_reducible refine p_cons ?_ | with_reducible refine p_call ?_ | with_reducible refine p_lc ?_ | with_reducible refine p_sl ?_ | with_reducible refine p_on ?_ | with_reducible refine p_os ?_ | with_reducible refine p_fis ?_ | with_reducible refine p_rng1 ?_ | with_reducible refine p_rng2 ?_ | with_reducible refine p_fia ?_ | with_reducible refine p_din ?_ | with_reducible refine p_newT ?_ | with_reducible refine p_newK ?_ | with_reducible refine p_test ?_ | with_reducible refine p_band ?_ | with_reducible refine p_bor ?_ | with_reducible refine p_bnot ?_ | with_reducible refine p_yes ?_ | with_reducible refine p_or ?_ | with_reducible refine p_and ?_ | with_reducible refine p_not ?_ | with_reducible refine bh_t ?_ | with_reducible refine bh_f ?_ | with_reducible refine bh_nt ?_ | with_reducible refine bh_nf ?_ | ((with_reducible refine bh_r ?_); refine Exists.intro _ (And.intro rfl ?_)) | ((with_reducible refine ex_id ?_); first | refine Exists.intro _ (And.intro rfl ?_) | refine Exists.intro _ (Exists.intro _ (And.intro rfl ?_))) | ((with_reducible refine and_id ?_); refine And.intro rfl ?_)))
    refine cp_of (ds := encS as) rfl (.inl rfl) a0 a2 (.inl rfl) fun d3 S3 h3 => ?_
    obtain ⟨x, hx', rfl⟩ := List.mem_map.mp h3
    (repeat (first | with_reducible refine p_seq ?_ | with_reducible refine nx_nx ?_ | with_reducible refine nx_rt ?_ | with_reducible refine p_if ?_ | with_reducible refine p_asg ?_ | with_reducible refine p_par ?_ | with_reducible refine p_parN ?_ | with_reducible refine p_ret ?_ | with_reducible refine p_retN ?_ | with_reducible refine p_next ?_ | with_reducible refine p_brk ?_ | with_reducible refine p_cnt ?_ | with_reducible refine p_drop ?_ | with_reducible refine p_appE ?_ | with_reducible refine p_lenE ?_ | with_reducible refine p_setI ?_ | with_reducible refine p_dput ?_ | with_reducible refine p_for ?_ | with_reducible refine p_varE ?_ | with_reducible refine p_frzE ?_ | with_reducible refine p_movE ?_ | with_reducible refine p_c ?_ | with_reducible refine p_op ?_ | with_reducible refine p_un ?_ | with_reducible refine p_ar ?_ | with_reducible refine p_me ?_ | with_reducible refine p_ife ?_ | with_reducible refine p_nil ?_ | with_reducible refine p_cons ?_ | with_reducible refine p_call ?_ | with_reducible refine p_lc ?_ | with_reducible refine p_sl ?_ | with_reducible refine p_on ?_ | with_reducible refine p_os ?_ | with_reducible refine p_fis ?_ | with_reducible refine p_rng1 ?_ | with_reducible refine p_rng2 ?_ | with_reducible refine p_fia ?_ | with_reducible refine p_din ?_ | with_reducible refine p_newT ?_ | with_reducible refine p_newK ?_ | with_reducible refine p_test ?_ | with_reducible refine p_band ?_ | with_reducible refine p_bor ?_ | with_reducible refine p_bnot ?_ | with_reducible refine p_yes ?_ | with_reducible refine p_or ?_ | with_reducible refine p_and ?_ | with_reducible refine p_not ?_ | with_reducible refine bh_t ?_ | with_reducible refine bh_f ?_ | with_reducible refine bh_nt ?_ | with_reducible refine bh_nf ?_ | ((with_reducible refine bh_r ?_); refine Exists.intro _ (And.intro rfl ?_)) | ((with_reducible refine ex_id ?_); first | refine Exists.intro _ (And.intro rfl ?_) | refine Exists.intro _ (Exists.intro _ (And.intro rfl ?_))) | ((with_reducible refine and_id ?_); refine And.intro rfl ?_)))
    refine ⟨nbE_cons rfl (nbE_cons rfl (nbE_cons rfl (nbE_cons rfl (nbE_cons rfl (nbE_cons rfl (nbE_cons n6 (nbE_cons n7 (nbE_cons rfl (nbE_cons n9 (nbE_cons n10 (nbE_cons n11 (nbE_cons n12 rfl)))))))))))), by rw [encS_len]; omega, xs ++ [x], _, by simp [hx], fun y hy => ?_, encS_snoc, by omega, rfl⟩
    rw [List.mem_append, List.mem_singleton] at hy
    rcases hy with hy | rfl
    · exact hm y hy
    · exact hx'
  rintro acc ρ S ⟨row, w8, hrl, hrm, rfl, _, rfl⟩
  have hrl : row.length = n := by rw [hrl]; show (rangeD 0 _).length = _; rw [rangeD_len]; omega
  (repeat (first | with_reducible refine p_seq ?_ | with_reducible refine nx_nx ?_ | with_reducible refine nx_rt ?_ | with_reducible refine p_if ?_ | with_reducible refine p_asg ?_ | with_reducible refine p_par ?_ | with_reducible refine p_parN ?_ | with_reducible refine p_ret ?_ | with_reducible refine p_retN ?_ | with_reducible refine p_next ?_ | with_reducible refine p_brk ?_ | with_reducible refine p_cnt ?_ | with_reducible refine p_drop ?_ | with_reducible refine p_appE ?_ | with_reducible refine p_lenE ?_ | with_reducible refine p_setI ?_ | with_reducible refine p_dput ?_ | with_reducible refine p_for ?_ | with_reducible refine p_varE ?_ | with_reducible refine p_frzE ?_ | with_reducible refine p_movE ?_ | with_reducible refine p_c ?_ | with_reducible refine p_op ?_ | with_reducible refine p_un ?_ | with_reducible refine p_ar ?_ | with_reducible refine p_me ?_ | with_reducible refine p_ife ?_ | with_reducible refine p_nil ?_ | with_reducible refine p_cons ?_ | with_reducible refine p_call ?_ | with_reducible refine p_lc ?_ | with_reducible refine p_sl ?_ | with_reducible refine p_on ?_ | with_reducible refine p_os ?_ | with_reducible refine p_fis ?_ | with_reducible refine p_rng1 ?_ | with_reducible refine p_rng2 ?_ | with_reducible refine p_fia ?_ | with_reducible refine p_din ?_ | with_reducible refine p_newT ?_ | with_reducible refine p_newK ?_ | with_reducible refine p_test ?_ | with_reducible refine p_band ?_ | with_reducible refine p_bor ?_ | with_reducible refine p_bnot ?_ | with_reducible refine p_yes ?_ | with_reducible refine p_or ?_ | with_reducible refine p_and ?_ | with_reducible refine p_not ?_ | with_reducible refine bh_t ?_ | with_reducible refine bh_f ?_ | with_reducible refine bh_nt ?_ | with_reducible refine bh_nf ?_ | ((with_reducible refine bh_r ?_); refine Exists.intro _ (And.intro rfl ?_)) | ((with_reducible refine ex_id ?_); first | refine Exists.intro _ (And.intro rfl ?_) | refine Exists.intro _ (Exists.intro _ (And.intro rfl ?_))) | ((with_reducible refine and_id ?_); refine And.intro rfl ?_)))
  obtain ⟨r, S3, e3, w, pl, rfl, hw⟩ := run_ok ok hp c1 c2 hrm (by omega) (S := S)
  refine callP rfl e3 rfl ?_
  obtain ⟨W, rfl, hW⟩ : ∃ W, w = mapW enc W ∧ WOk ls n W := by
    rcases hw with rfl | ⟨ws, rfl, h⟩
    · exact ⟨none, rfl, fun ws e => by cases e⟩
    · exact ⟨some ws, rfl, fun ws' e => by cases e; rw [← hrl]; exact h⟩
  (repeat (first | with_reducible refine p_seq ?_ | with_reducible refine nx_nx ?_ | with_reducible refine nx_rt ?_ | with_reducible refine p_if ?_ | with_reducible refine p_asg ?_ | with_reducible refine p_par ?_ | with_reducible refine p_parN ?_ | with_reducible refine p_ret ?_ | with_reducible refine p_retN ?_ | with_reducible refine p_next ?_ | with_reducible refine p_brk ?_ | with_reducible refine p_cnt ?_ | with_reducible refine p_drop ?_ | with_reducible refine p_appE ?_ | with_reducible refine p_lenE ?_ | with_reducible refine p_setI ?_ | with_reducible refine p_dput ?_ | with_reducible refine p_for ?_ | with_reducible refine p_varE ?_ | with_reducible refine p_frzE ?_ | with_reducible refine p_movE ?_ | with_reducible refine p_c ?_ | with_reducible refine p_op ?_ | with_reducible refine p_un ?_ | with_reducible refine p_ar ?_ | with_reducible refine p_me ?_ | with_reducible refine p_ife ?_ | with_reducible refine p_nil ?_ | with_reducible refine p_cons ?_ | with_reducible refine p_call ?_ | with_reducible refine p_lc ?_ | with_reducible refine p_sl ?_ | with_reducible refine p_on ?_ | with_reducible refine p_os ?_ | with_reducible refine p_fis ?_ | with_reducible refine p_rng1 ?_ | with_reducible refine p_rng2 ?_ | with_reducible refine p_fia ?_ | with_reducible refine p_din ?_ | with_reducible refine p_newT ?_ | with_reducible refine p_newK ?_ | with_reducible refine p_test ?_ | with_reducible refine p_band ?_ | with_reducible refine p_bor ?_ | with_reducible refine p_bnot ?_ | with_reducible refine p_yes ?_ | with_reducible refine p_or ?_ | with_reducible refine p_and ?_ | with_reducible refine p_not ?_ | with_reducible refine bh_t ?_ | with_reducible refine bh_f ?_ | with_reducible refine bh_nt ?_ | with_reducible refine bh_nf ?_ | ((with_reducible refine bh_r ?_); refine Exists.intro _ (And.intro rfl ?_)) | ((with_reducible refine ex_id ?_); first | refine Exists.intro _ (And.intro rfl ?_) | refine Exists.intro _ (Exists.intro _ (And.intro rfl ?_))) | ((with_reducible refine and_id ?_); refine And.intro rfl ?_)))
  refine bh_d (fun z => ?_) fun z => ?_
  · (repeat (first | with_reducible refine p_seq ?_ | with_reducible refine nx_nx ?_ | with_reducible refine nx_rt ?_ | with_reducible refine p_if ?_ | with_reducible refine p_asg ?_ | with_reducible refine p_par ?_ | with_reducible refine p_parN ?_ | with_reducible refine p_ret ?_ | with_reducible refine p_retN ?_ | with_reducible refine p_next ?_ | with_reducible refine p_brk ?_ | with_reducible refine p_cnt ?_ | with_reducible refine p_drop ?_ | with_reducible refine p_appE ?_ | with_reducible refine p_lenE ?_ | with_reducible refine p_setI ?_ | with_reducible refine p_dput ?_ | with_reducible refine p_for ?_ | with_reducible refine p_varE ?_ | with_reducible refine p_frzE ?_ | with_reducible refine p_movE ?_ | with_reducible refine p_c ?_ | with_reducible refine p_op ?_ | with_reducible refine p_un ?_ | with_reducible refine p_ar ?_ | with_reducible refine p_me ?_ | with_reducible refine p_ife ?_ | with_reducible refine p_nil ?_ | with_reducible refine p_cons ?_ | with_reducible refine p_call ?_ | with_reducible refine p_lc ?_ | with_reducible refine p_sl ?_ | with_reducible refine p_on ?_ | with_reducible refine p_os ?_ | with_reducible refine p_fis ?_ | with_reducible refine p_rng1 ?_ | with_reducible refine p_rng2 ?_ | with_reducible refine p_fia ?_ | with_reducible refine p_din ?_ | with_reducible refine p_newT ?_ | with_reducible refine p_newK ?_ | with_reducible refine p_test ?_ | with_reducible refine p_band ?_ | with_reducible refine p_bor ?_ | with_reducible refine p_bnot ?_ | with_reducible refine p_yes ?_ | with_reducible refine p_or ?_ | with_reducible refine p_and ?_ | with_reducible refine p_not ?_ | with_reducible refine bh_t ?_ | with_reducible refine bh_f ?_ | with_reducible refine bh_nt ?_ | with_reducible refine bh_nf ?_ | ((with_reducible refine bh_r ?_); refine Exists.intro _ (And.intro rfl ?_)) | ((with_reducible refine ex_id ?_); first | refine Exists.intro _ (And.intro rfl ?_) | refine Exists.intro _ (Exists.intro _ (And.intro rfl ?_))) | ((with_reducible refine and_id ?_); refine And.intro rfl ?_)))
    refine cp_pick rfl (by decide) (by decide) fun k4 S4 k40 k41 => ?_
    (repeat (first | with_reducible refine p_seq ?_ | with_reducible refine nx_nx ?_ | with_reducible refine nx_rt ?_ | with_reducible refine p_if ?_ | with_reducible refine p_asg ?_ | with_reducible refine p_par ?_ | with_reducible refine p_parN ?_ | with_reducible refine p_ret ?_ | with_reducible refine p_retN ?_ | with_reducible refine p_next ?_ | with_reducible refine p_brk ?_ | with_reducible refine p_cnt ?_ | with_reducible refine p_drop ?_ | with_reducible refine p_appE ?_ | with_reducible refine p_lenE ?_ | with_reducible refine p_setI ?_ | with_reducible refine p_dput ?_ | with_reducible refine p_for ?_ | with_reducible refine p_varE ?_ | with_reducible refine p_frzE ?_ | with_reducible refine p_movE ?_ | with_reducible refine p_c ?_ | with_reducible refine p_op ?_ | with_reducible refine p_un ?_ | with_reducible refine p_ar ?_ | with_reducible refine p_me ?_ | with_reducible refine p_ife ?_ | with_reducible refine p_nil ?_ | with_reducible refine p_cons ?_ | with_reducible refine p_call ?_ | with_reducible refine p_lc ?_ | with_reducible refine p_sl ?_ | with_reducible refine p_on ?_ | with_reducible refine p_os ?_ | with_reducible refine p_fis ?_ | with_reducible refine p_rng1 ?_ | with_reducible refine p_rng2 ?_ | with_reducible refine p_fia ?_ | with_reducible refine p_din ?_ | with_reducible refine p_newT ?_ | with_reducible refine p_newK ?_ | with_reducible refine p_test ?_ | with_reducible refine p_band ?_ | with_reducible refine p_bor ?_ | with_reducible refine p_bnot ?_ | with_reducible refine p_yes ?_ | with_reducible refine p_or ?_ | with_reducible refine p_and ?_ | with_reducible refine p_not ?_ | with_reducible refine bh_t ?_ | with_reducible refine bh_f ?_ | with_reducible refine bh_nt ?_ | with_reducible refine bh_nf ?_ | ((with_reducible refine bh_r ?_); refine Exists.intro _ (And.intro rfl ?_)) | ((with_reducible refine ex_id ?_); first | refine Exists.intro _ (And.intro rfl ?_) | refine Exists.intro _ (Exists.intro _ (And.intro rfl ?_))) | ((with_reducible refine and_id ?_); refine And.intro rfl ?_)))
    refine ⟨by omega, rfl, ?_⟩
    have nbW : nbE [some (.imm (.int (0 + (i : Nat)))), some (.imm d), some (.imm (.tuple (encS row))), v9, v10, v11, v12] = true := nbE_cons rfl (nbE_cons rfl (nbE_cons rfl (nbE_cons n9 (nbE_cons n10 (nbE_cons n11 n12)))))
    refine p_forS (WrJ as ls n (some (.imm (.int (0 + (i : Nat))))) (some (.imm d)) (some (.imm (.tuple (encS row)))) v9 v10 v11 v12) ⟨[], none, rfl, by omega, (fun q h => by cases h), rfl, rfl⟩ ?_ ?_
    · intro j d2 ρ S hd hJ
      obtain ⟨hj1, rfl⟩ := rangeD_get hd
      exact wr_body ok (by omega) nbW (by omega) hJ
    · rintro ρ S ⟨ws, w8, hl, hj, hin, nw, rfl⟩
      with_reducible refine nx_nx ?_
      with_reducible refine p_asg ?_
      with_reducible refine p_ar ?_
      with_reducible refine p_cons ?_
      with_reducible refine p_varE ?_
      refine Exists.intro _ (And.intro rfl ?_)
      with_reducible refine p_nil ?_
      refine Exists.intro _ (And.intro rfl ?_)
      refine Exists.intro _ (And.intro rfl ?_)
      with_reducible refine nx_nx ?_
      with_reducible refine lap_end (n := n) (W := some ws) (lap := some (.imm (.int (0 + (i : Nat))))) (prog := some (.imm d)) (row := some (.imm (.tuple (encS row)))) (v8 := w8) (v9 := v9) (v10 := v10) (v11 := v11) (v12 := v12) ok ?_ ?_ ?_ ?_
      · omega
      · intro ws' e
        cases e
        exact ⟨by omega, hin⟩
      · exact (nbE_cons rfl (nbE_cons rfl (nbE_cons rfl (nbE_cons nw (nbE_cons n9 (nbE_cons n10 (nbE_cons n11 n12)))))))
      · rfl
  · with_reducible refine p_next ?_
    with_reducible refine nx_nx ?_
    with_reducible refine lap_end (n := n) (W := W) (lap := some (.imm (.int (0 + (i : Nat))))) (prog := some (.imm d)) (row := some (.imm (.tuple (encS row)))) (v8 := none) (v9 := v9) (v10 := v10) (v11 := v11) (v12 := v12) ok ?_ hW ?_ ?_
    · omega
    · exact (nbE_cons rfl (nbE_cons rfl (nbE_cons rfl (nbE_cons rfl (nbE_cons n9 (nbE_cons n10 (nbE_cons n11 n12)))))))
    · rfl
/-! ### the end: values by the hand -/
def valsL (l : Str) : List PyData := [.tuple [.str "L", .str l, .str "L"], .tuple [.str "L", .str "L"], .tuple [.str l, .str "R", .str "R"], .tuple [.str "R", .str "L", .str "R"], .tuple [], .none, .list [.str "L"], .tuple [.str "zz"], .tuple [.int 1], .str "L", .tuple [.str l, .str l]]
def dueL : List Bool := [true, false, false, true, true, true, false, false, false, false, true]
def outB (r : Option (Bd × Src)) : Option Bool := match r with
  | some (.imm (.bool b), _) => some b
  | _ => none
theorem outB_get {r : Option (Bd × Src)} {b : Bool} (h : outB r = some b) : ∃ S', r = some (.imm (.bool b), S') := by
  unfold outB at h
  split at h
  · cases h; exact ⟨_, rfl⟩
  · cases h
structure LsEnd (ls : List Str) (l : Str) : Prop where
  ix : ixB (.imm (.tuple (encS ls))) (.imm (.int 0)) = some (.imm (.str l))
  isp : ∀ S : Src, ∀ i : Fin 11, outB (F_is_piece [.imm ((valsL l).getD i .none), .imm (.tuple (encS ls))] S) = dueL[i.val]?
theorem lsEnd0 : LsEnd ["x", "y"] "x" := ⟨rfl, fun S => of_decide_eq_true (by kernel_rfl)⟩
theorem lsEnd1 : LsEnd ["x"] "x" := ⟨rfl, fun S => of_decide_eq_true (by kernel_rfl)⟩
theorem lsEnd2 : LsEnd ["a", "b"] "a" := ⟨rfl, fun S => of_decide_eq_true (by kernel_rfl)⟩
theorem sheets_end {d : PyData} {as ls : List Str} (h : d ∈ sheets) (e : d = sheetD as ls) : ∃ l, LsEnd ls l := by
  have inj : ∀ xs ys : List Str, encS xs = encS ys → xs = ys := fun xs => by
    induction xs with
    | nil => intro ys e; cases ys with
      | nil => rfl
      | cons y ys => cases e
    | cons x xs ih => intro ys e; cases ys with
      | nil => cases e
      | cons y ys =>
        simp only [encS, List.map_cons, List.cons.injEq, PyData.str.injEq] at e
        rw [e.1, ih ys e.2]
  have go : ∀ (A : PyData) (ys : List Str), T2 A (.tuple (encS ys)) = sheetD as ls → ls = ys := fun A ys e => by
    unfold sheetD T2 at e
    simp only [PyData.tuple.injEq, List.cons.injEq, and_true] at e
    exact (inj _ _ e.2).symm
  simp only [sheets, List.mem_cons, List.not_mem_nil, or_false] at h
  rcases h with rfl | rfl | rfl | rfl
  · rw [go _ ["x", "y"] e]; exact ⟨_, lsEnd0⟩
  · rw [go _ ["x"] e]; exact ⟨_, lsEnd1⟩
  · rw [go _ ["a", "b"] e]; exact ⟨_, lsEnd2⟩
  · rw [go _ ["x"] e]; exact ⟨_, lsEnd1⟩
theorem due_eq : eqB false (.lst (dueL.map PyData.bool)) (.bor (dueL.map PyData.bool)) = some (.imm (.bool true)) := by kernel_rfl
theorem plain_law (S : Src) : ∃ ρ S', g_law (none :: some .src :: List.replicate 15 none) S = .ok (.rt (.imm (.bool true))) ρ S' := by
  suffices h : (g_law (none :: some .src :: List.replicate 15 none) S).Post fun fl ρ S => fl = .rt (.imm (.bool true)) by
    obtain ⟨fl, ρ', S', e, rfl⟩ := h.get
    exact ⟨ρ', S', e⟩
  unfold g_law
  (repeat (first | with_reducible refine p_seq ?_ | with_reducible refine nx_nx ?_ | with_reducible refine nx_rt ?_ | with_reducible refine p_if ?_ | with_reducible refine p_asg ?_ | with_reducible refine p_par ?_ | with_reducible refine p_parN ?_ | with_reducible refine p_ret ?_ | with_reducible refine p_retN ?_ | with_reducible refine p_next ?_ | with_reducible refine p_brk ?_ | with_reducible refine p_cnt ?_ | with_reducible refine p_drop ?_ | with_reducible refine p_appE ?_ | with_reducible refine p_lenE ?_ | with_reducible refine p_setI ?_ | with_reducible refine p_dput ?_ | with_reducible refine p_for ?_ | with_reducible refine p_varE ?_ | with_reducible refine p_frzE ?_ | with_reducible refine p_movE ?_ | with_reducible refine p_c ?_ | with_reducible refine p_op ?_ | with_reducible refine p_un ?_ | with_reducible refine p_ar ?_ | with_reducible refine p_me ?_ | with_reducible refine p_ife ?_ | with_reducible refine p_nil ?_ | with_reducible refine p_cons ?_ | with_reducible refine p_call ?_ | with_reducible refine p_lc ?_ | with_reducible refine p_sl ?_ | with_reducible refine p_on ?_ | with_reducible refine p_os ?_ | with_reducible refine p_fis ?_ | with_reducible refine p_rng1 ?_ | with_reducible refine p_rng2 ?_ | with_reducible refine p_fia ?_ | with_reducible refine p_din ?_ | with_reducible refine p_newT ?_ | with_reducible refine p_newK ?_ | with_reducible refine p_test ?_ | with_reducible refine p_band ?_ | with_reducible refine p_bor ?_ | with_reducible refine p_bnot ?_ | with_reducible refine p_yes ?_ | with_reducible refine p_or ?_ | with_reducible refine p_and ?_ | with_reducible refine p_not ?_ | with_reducible refine bh_t ?_ | with_reducible refine bh_f ?_ | with_reducible refine bh_nt ?_ | with_reducible refine bh_nf ?_ | ((with_reducible refine bh_r ?_); refine Exists.intro _ (And.intro rfl ?_)) | ((with_reducible refine ex_id ?_); first | refine Exists.intro _ (And.intro rfl ?_) | refine Exists.intro _ (Exists.intro _ (And.intro rfl ?_))) | ((with_reducible refine and_id ?_); refine And.intro rfl ?_)))
  obtain ⟨b, S1, e, d, hd, rfl⟩ := sheet_ok (S := S)
  refine callP rfl e rfl ?_
  obtain ⟨as, ls, ed, ok⟩ := sheets_ok hd
  obtain ⟨l, LE⟩ := sheets_end hd ed
  subst ed
  have ix := LE.ix
  (repeat (first | with_reducible refine p_seq ?_ | with_reducible refine nx_nx ?_ | with_reducible refine nx_rt ?_ | with_reducible refine p_if ?_ | with_reducible refine p_asg ?_ | with_reducible refine p_par ?_ | with_reducible refine p_parN ?_ | with_reducible refine p_ret ?_ | with_reducible refine p_retN ?_ | with_reducible refine p_next ?_ | with_reducible refine p_brk ?_ | with_reducible refine p_cnt ?_ | with_reducible refine p_drop ?_ | with_reducible refine p_appE ?_ | with_reducible refine p_lenE ?_ | with_reducible refine p_setI ?_ | with_reducible refine p_dput ?_ | with_reducible refine p_for ?_ | with_reducible refine p_varE ?_ | with_reducible refine p_frzE ?_ | with_reducible refine p_movE ?_ | with_reducible refine p_c ?_ | with_reducible refine p_op ?_ | with_reducible refine p_un ?_ | with_reducible refine p_ar ?_ | with_reducible refine p_me ?_ | with_reducible refine p_ife ?_ | with_reducible refine p_nil ?_ | with_reducible refine p_cons ?_ | with_reducible refine p_call ?_ | with_reducible refine p_lc ?_ | with_reducible refine p_sl ?_ | with_reducible refine p_on ?_ | with_reducible refine p_os ?_ | with_reducible refine p_fis ?_ | with_reducible refine p_rng1 ?_ | with_reducible refine p_rng2 ?_ | with_reducible refine p_fia ?_ | with_reducible refine p_din ?_ | with_reducible refine p_newT ?_ | with_reducible refine p_newK ?_ | with_reducible refine p_test ?_ | with_reducible refine p_band ?_ | with_reducible refine p_bor ?_ | with_reducible refine p_bnot ?_ | with_reducible refine p_yes ?_ | with_reducible refine p_or ?_ | with_reducible refine p_and ?_ | with_reducible refine p_not ?_ | with_reducible refine bh_t ?_ | with_reducible refine bh_f ?_ | with_reducible refine bh_nt ?_ | with_reducible refine bh_nf ?_ | ((with_reducible refine bh_r ?_); refine Exists.intro _ (And.intro rfl ?_)) | ((with_reducible refine ex_id ?_); first | refine Exists.intro _ (And.intro rfl ?_) | refine Exists.intro _ (Exists.intro _ (And.intro rfl ?_))) | ((with_reducible refine and_id ?_); refine And.intro rfl ?_)))
  refine ⟨by omega, rfl, ?_⟩
  refine p_forS (fun i ρ => LapJ as ls ρ) ⟨_, _, _, _, _, _, _, _, _, _, rfl, rfl⟩ ?_ ?_
  · intro i d ρ S hd hJ
    obtain ⟨hi, rfl⟩ := rangeD_get hd
    exact lap_body ok (by omega) hJ
  · rintro ρ S ⟨v3, v4, v5, v6, v7, v8, v9, v10, v11, v12, rfl, nb⟩
    (repeat (first | with_reducible refine ⟨_, ix, ?_⟩ | with_reducible refine p_seq ?_ | with_reducible refine nx_nx ?_ | with_reducible refine nx_rt ?_ | with_reducible refine p_if ?_ | with_reducible refine p_asg ?_ | with_reducible refine p_par ?_ | with_reducible refine p_parN ?_ | with_reducible refine p_ret ?_ | with_reducible refine p_retN ?_ | with_reducible refine p_next ?_ | with_reducible refine p_brk ?_ | with_reducible refine p_cnt ?_ | with_reducible refine p_drop ?_ | with_reducible refine p_appE ?_ | with_reducible refine p_lenE ?_ | with_reducible refine p_setI ?_ | with_reducible refine p_dput ?_ | with_reducible refine p_for ?_ | with_reducible refine p_varE ?_ | with_reducible refine p_frzE ?_ | with_reducible refine p_movE ?_ | with_reducible refine p_c ?_ | with_reducible refine p_op ?_ | with_reducible refine p_un ?_ | with_reducible refine p_ar ?_ | with_reducible refine p_me ?_ | with_reducible refine p_ife ?_ | with_reducible refine p_nil ?_ | with_reducible refine p_cons ?_ | with_reducible refine p_call ?_ | with_reducible refine p_lc ?_ | with_reducible refine p_sl ?_ | with_reducible refine p_on ?_ | with_reducible refine p_os ?_ | with_reducible refine p_fis ?_ | with_reducible refine p_rng1 ?_ | with_reducible refine p_rng2 ?_ | with_reducible refine p_fia ?_ | with_reducible refine p_din ?_ | with_reducible refine p_newT ?_ | with_reducible refine p_newK ?_ | with_reducible refine p_test ?_ | with_reducible refine p_band ?_ | with_reducible refine p_bor ?_ | with_reducible refine p_bnot ?_ | with_reducible refine p_yes ?_ | with_reducible refine p_or ?_ | with_reducible refine p_and ?_ | with_reducible refine p_not ?_ | with_reducible refine bh_t ?_ | with_reducible refine bh_f ?_ | with_reducible refine bh_nt ?_ | with_reducible refine bh_nf ?_ | ((with_reducible refine bh_r ?_); refine Exists.intro _ (And.intro rfl ?_)) | ((with_reducible refine ex_id ?_); first | refine Exists.intro _ (And.intro rfl ?_) | refine Exists.intro _ (Exists.intro _ (And.intro rfl ?_))) | ((with_reducible refine and_id ?_); refine And.intro rfl ?_)))
    have nbX : nbE [none, some .src, some (.imm (sheetD as ls)), v3, v4, v5, v6, v7, v8, v9, v10, v11, v12, some (.imm (.str l)), some (.lst [.tuple [.str "L", .str l, .str "L"], .tuple [.str "L", .str "L"], .tuple [.str l, .str "R", .str "R"], .tuple [.str "R", .str "L", .str "R"], .tuple [], .none, .list [.str "L"], .tuple [.str "zz"], .tuple [.int 1], .str "L"]), none, none] = true := nbE_cons rfl (nbE_cons rfl (nbE_cons rfl (nbE_cons (nb1 nb (by simp)) (nbE_cons (nb1 nb (by simp)) (nbE_cons (nb1 nb (by simp)) (nbE_cons (nb1 nb (by simp)) (nbE_cons (nb1 nb (by simp)) (nbE_cons (nb1 nb (by simp)) (nbE_cons (nb1 nb (by simp)) (nbE_cons (nb1 nb (by simp)) (nbE_cons (nb1 nb (by simp)) (nbE_cons (nb1 nb (by simp)) rfl))))))))))))
    refine ⟨_, _, rfl, rfl, by show 10 < 1000000; omega, nbX, ?_⟩
    (repeat (first | with_reducible refine p_seq ?_ | with_reducible refine nx_nx ?_ | with_reducible refine nx_rt ?_ | with_reducible refine p_if ?_ | with_reducible refine p_asg ?_ | with_reducible refine p_par ?_ | with_reducible refine p_parN ?_ | with_reducible refine p_ret ?_ | with_reducible refine p_retN ?_ | with_reducible refine p_next ?_ | with_reducible refine p_brk ?_ | with_reducible refine p_cnt ?_ | with_reducible refine p_drop ?_ | with_reducible refine p_appE ?_ | with_reducible refine p_lenE ?_ | with_reducible refine p_setI ?_ | with_reducible refine p_dput ?_ | with_reducible refine p_for ?_ | with_reducible refine p_varE ?_ | with_reducible refine p_frzE ?_ | with_reducible refine p_movE ?_ | with_reducible refine p_c ?_ | with_reducible refine p_op ?_ | with_reducible refine p_un ?_ | with_reducible refine p_ar ?_ | with_reducible refine p_me ?_ | with_reducible refine p_ife ?_ | with_reducible refine p_nil ?_ | with_reducible refine p_cons ?_ | with_reducible refine p_call ?_ | with_reducible refine p_lc ?_ | with_reducible refine p_sl ?_ | with_reducible refine p_on ?_ | with_reducible refine p_os ?_ | with_reducible refine p_fis ?_ | with_reducible refine p_rng1 ?_ | with_reducible refine p_rng2 ?_ | with_reducible refine p_fia ?_ | with_reducible refine p_din ?_ | with_reducible refine p_newT ?_ | with_reducible refine p_newK ?_ | with_reducible refine p_test ?_ | with_reducible refine p_band ?_ | with_reducible refine p_bor ?_ | with_reducible refine p_bnot ?_ | with_reducible refine p_yes ?_ | with_reducible refine p_or ?_ | with_reducible refine p_and ?_ | with_reducible refine p_not ?_ | with_reducible refine bh_t ?_ | with_reducible refine bh_f ?_ | with_reducible refine bh_nt ?_ | with_reducible refine bh_nf ?_ | ((with_reducible refine bh_r ?_); refine Exists.intro _ (And.intro rfl ?_)) | ((with_reducible refine ex_id ?_); first | refine Exists.intro _ (And.intro rfl ?_) | refine Exists.intro _ (Exists.intro _ (And.intro rfl ?_))) | ((with_reducible refine and_id ?_); refine And.intro rfl ?_)))
    have nbY : ∀ d : PyData, nbE [none, some .src, some (.imm (sheetD as ls)), v3, v4, v5, v6, v7, v8, v9, v10, v11, v12, some (.imm (.str l)), some (.lst (valsL l)), some (.lst (dueL.map PyData.bool)), some (.imm d)] = true := fun d => nbE_cons rfl (nbE_cons rfl (nbE_cons rfl (nbE_cons (nb1 nb (by simp)) (nbE_cons (nb1 nb (by simp)) (nbE_cons (nb1 nb (by simp)) (nbE_cons (nb1 nb (by simp)) (nbE_cons (nb1 nb (by simp)) (nbE_cons (nb1 nb (by simp)) (nbE_cons (nb1 nb (by simp)) (nbE_cons (nb1 nb (by simp)) (nbE_cons (nb1 nb (by simp)) (nbE_cons (nb1 nb (by simp)) rfl))))))))))))
    refine p_lcS (fun i acc ρ => i ≤ 11 ∧ acc = (dueL.take i).map PyData.bool ∧ ∃ w16, ρ = [none, some .src, some (.imm (sheetD as ls)), v3, v4, v5, v6, v7, v8, v9, v10, v11, v12, some (.imm (.str l)), some (.lst (valsL l)), some (.lst (dueL.map PyData.bool)), w16]) ⟨by omega, rfl, _, rfl⟩ ?_ ?_
    · rintro i d acc ρ S hd ⟨_, rfl, w16, rfl⟩
      have hd : (valsL l)[i]? = some d := hd
      have hi : i < 11 := (List.getElem?_eq_some_iff.mp hd).1
      have e1 := LE.isp S ⟨i, hi⟩
      have e2 : (valsL l).getD i .none = d := by rw [List.getD_eq_getElem?_getD, hd]; rfl
      have e3 : dueL[i]? = some dueL[i] := List.getElem?_eq_getElem hi
      simp only [e2, e3] at e1
      obtain ⟨S', e4⟩ := outB_get e1
      refine ⟨_, rfl, ?_⟩
      (repeat (first | with_reducible refine p_seq ?_ | with_reducible refine nx_nx ?_ | with_reducible refine nx_rt ?_ | with_reducible refine p_if ?_ | with_reducible refine p_asg ?_ | with_reducible refine p_par ?_ | with_reducible refine p_parN ?_ | with_reducible refine p_ret ?_ | with_reducible refine p_retN ?_ | with_reducible refine p_next ?_ | with_reducible refine p_brk ?_ | with_reducible refine p_cnt ?_ | with_reducible refine p_drop ?_ | with_reducible refine p_appE ?_ | with_reducible refine p_lenE ?_ | with_reducible refine p_setI ?_ | with_reducible refine p_dput ?_ | with_reducible refine p_for ?_ | with_reducible refine p_varE ?_ | with_reducible refine p_frzE ?_ | with_reducible refine p_movE ?_ | with_reducible refine p_c ?_ | with_reducible refine p_op ?_ | with_reducible refine p_un ?_ | with_reducible refine p_ar ?_ | with_reducible refine p_me ?_ | with_reducible refine p_ife ?_ | with_reducible refine p_nil ?_ | with_reducible refine p_cons ?_ | with_reducible refine p_call ?_ | with_reducible refine p_lc ?_ | with_reducible refine p_sl ?_ | with_reducible refine p_on ?_ | with_reducible refine p_os ?_ | with_reducible refine p_fis ?_ | with_reducible refine p_rng1 ?_ | with_reducible refine p_rng2 ?_ | with_reducible refine p_fia ?_ | with_reducible refine p_din ?_ | with_reducible refine p_newT ?_ | with_reducible refine p_newK ?_ | with_reducible refine p_test ?_ | with_reducible refine p_band ?_ | with_reducible refine p_bor ?_ | with_reducible refine p_bnot ?_ | with_reducible refine p_yes ?_ | with_reducible refine p_or ?_ | with_reducible refine p_and ?_ | with_reducible refine p_not ?_ | with_reducible refine bh_t ?_ | with_reducible refine bh_f ?_ | with_reducible refine bh_nt ?_ | with_reducible refine bh_nf ?_ | ((with_reducible refine bh_r ?_); refine Exists.intro _ (And.intro rfl ?_)) | ((with_reducible refine ex_id ?_); first | refine Exists.intro _ (And.intro rfl ?_) | refine Exists.intro _ (Exists.intro _ (And.intro rfl ?_))) | ((with_reducible refine and_id ?_); refine And.intro rfl ?_)))
      refine callP rfl e4 rfl ?_
      refine ⟨_, rfl, nbY d, ?_, by omega, ?_, _, rfl⟩
      · rw [List.length_map, List.length_take]; omega
      · rw [List.take_add_one, e3, List.map_append]; rfl
    · rintro acc ρ S ⟨_, rfl, w16, rfl⟩
      (repeat (first | with_reducible refine p_seq ?_ | with_reducible refine nx_nx ?_ | with_reducible refine nx_rt ?_ | with_reducible refine p_if ?_ | with_reducible refine p_asg ?_ | with_reducible refine p_par ?_ | with_reducible refine p_parN ?_ | with_reducible refine p_ret ?_ | with_reducible refine p_retN ?_ | with_reducible refine p_next ?_ | with_reducible refine p_brk ?_ | with_reducible refine p_cnt ?_ | with_reducible refine p_drop ?_ | with_reducible refine p_appE ?_ | with_reducible refine p_lenE ?_ | with_reducible refine p_setI ?_ | with_reducible refine p_dput ?_ | with_reducible refine p_for ?_ | with_reducible refine p_varE ?_ | with_reducible refine p_frzE ?_ | with_reducible refine p_movE ?_ | with_reducible refine p_c ?_ | with_reducible refine p_op ?_ | with_reducible refine p_un ?_ | with_reducible refine p_ar ?_ | with_reducible refine p_me ?_ | with_reducible refine p_ife ?_ | with_reducible refine p_nil ?_ | with_reducible refine p_cons ?_ | with_reducible refine p_call ?_ | with_reducible refine p_lc ?_ | with_reducible refine p_sl ?_ | with_reducible refine p_on ?_ | with_reducible refine p_os ?_ | with_reducible refine p_fis ?_ | with_reducible refine p_rng1 ?_ | with_reducible refine p_rng2 ?_ | with_reducible refine p_fia ?_ | with_reducible refine p_din ?_ | with_reducible refine p_newT ?_ | with_reducible refine p_newK ?_ | with_reducible refine p_test ?_ | with_reducible refine p_band ?_ | with_reducible refine p_bor ?_ | with_reducible refine p_bnot ?_ | with_reducible refine p_yes ?_ | with_reducible refine p_or ?_ | with_reducible refine p_and ?_ | with_reducible refine p_not ?_ | with_reducible refine bh_t ?_ | with_reducible refine bh_f ?_ | with_reducible refine bh_nt ?_ | with_reducible refine bh_nf ?_ | ((with_reducible refine bh_r ?_); refine Exists.intro _ (And.intro rfl ?_)) | ((with_reducible refine ex_id ?_); first | refine Exists.intro _ (And.intro rfl ?_) | refine Exists.intro _ (Exists.intro _ (And.intro rfl ?_))) | ((with_reducible refine and_id ?_); refine And.intro rfl ?_)))
      kernel_rfl
end
end Lw
set_option maxRecDepth 100000
set_option maxHeartbeats 4000000
namespace Lw
open PySem PySem.Spec PyProof.Rows L2 DL
theorem all_mk {l : PySem.W.OpenLaw} {w : World} {K : PySem.W.Frag} {h : Heap} {mg : Str → Option Value} {fa f0 f1 f2 f3 f4 f5 f6 f7 f8 f9 f10 f11 f12 f13 f14 f15 f16 f17 f18 f19 : Addr} (X : K.In h) (G : h.Ns mainGlobals mg) (hfa : mg "law" = some (.ref fa))
    {od0 an0 od1 an1 od2 an2 od3 an3 od4 an4 od5 an5 od6 an6 od7 an7 od8 an8 od9 an9 od10 an10 od11 an11 od12 an12 od13 an13 od14 an14 od15 an15 od16 an16 od17 an17 od18 an18 od19 an19 : Option Addr} {sl0 sl1 sl2 sl3 sl4 sl5 sl6 sl7 sl8 sl9 sl10 sl11 sl12 sl13 sl14 sl15 sl16 sl17 sl18 sl19 : Array (Option Value)} {oc0 kV0 dc0 pm0 cd0 ct0 oc1 kV1 dc1 pm1 cd1 ct1 oc2 kV2 dc2 pm2 cd2 ct2 oc3 kV3 dc3 pm3 cd3 ct3 oc4 kV4 dc4 pm4 cd4 ct4 oc5 kV5 dc5 pm5 cd5 ct5 oc6 kV6 dc6 pm6 cd6 ct6 oc7 kV7 dc7 pm7 cd7 ct7 oc8 kV8 dc8 pm8 cd8 ct8 oc9 kV9 dc9 pm9 cd9 ct9 oc10 kV10 dc10 pm10 cd10 ct10 oc11 kV11 dc11 pm11 cd11 ct11 oc12 kV12 dc12 pm12 cd12 ct12 oc13 kV13 dc13 pm13 cd13 ct13 oc14 kV14 dc14 pm14 cd14 ct14 oc15 kV15 dc15 pm15 cd15 ct15 oc16 kV16 dc16 pm16 cd16 ct16 oc17 kV17 dc17 pm17 cd17 ct17 oc18 kV18 dc18 pm18 cd18 ct18 oc19 kV19 dc19 pm19 cd19 ct19 : Value}
    {tk0 tk1 : Tok}
    (a0 : PySem.W.nsIn K mainGlobals "_law_source" = some (some (.ref f0))) (l0 : K.lookup f0 = some ⟨oc0, od0, .func (PySem.W.fnOf "_law_source" "_law_source" (defArgs s__law_source) (defBody s__law_source) (defScope s__law_source) .none kV0 dc0 pm0 an0 cd0 ct0), sl0⟩) (c0 : PySem.W.codeIn K cd0 "_law_source" = true) (k0 : PySem.W.keepIn K (.ref f0) = true)
    (a1 : PySem.W.nsIn K mainGlobals "_law_pick" = some (some (.ref f1))) (l1 : K.lookup f1 = some ⟨oc1, od1, .func (PySem.W.fnOf "_law_pick" "_law_pick" (defArgs s__law_pick) (defBody s__law_pick) (defScope s__law_pick) .none kV1 dc1 pm1 an1 cd1 ct1), sl1⟩) (c1 : PySem.W.codeIn K cd1 "_law_pick" = true) (k1 : PySem.W.keepIn K (.ref f1) = true)
    (a2 : PySem.W.nsIn K mainGlobals "_law_of" = some (some (.ref f2))) (l2 : K.lookup f2 = some ⟨oc2, od2, .func (PySem.W.fnOf "_law_of" "_law_of" (defArgs s__law_of) (defBody s__law_of) (defScope s__law_of) .none kV2 dc2 pm2 an2 cd2 ct2), sl2⟩) (c2 : PySem.W.codeIn K cd2 "_law_of" = true) (k2 : PySem.W.keepIn K (.ref f2) = true)
    (a3 : PySem.W.nsIn K mainGlobals "_law_sheet" = some (some (.ref f3))) (l3 : K.lookup f3 = some ⟨oc3, od3, .func (PySem.W.fnOf "_law_sheet" "_law_sheet" (defArgs s__law_sheet) (defBody s__law_sheet) (defScope s__law_sheet) .none kV3 dc3 pm3 an3 cd3 ct3), sl3⟩) (c3 : PySem.W.codeIn K cd3 "_law_sheet" = true) (k3 : PySem.W.keepIn K (.ref f3) = true)
    (a4 : PySem.W.nsIn K mainGlobals "_law_sweeps" = some (some (.ref f4))) (l4 : K.lookup f4 = some ⟨oc4, od4, .func (PySem.W.fnOf "_law_sweeps" "_law_sweeps" (defArgs s__law_sweeps) (defBody s__law_sweeps) (defScope s__law_sweeps) .none kV4 dc4 pm4 an4 cd4 ct4), sl4⟩) (c4 : PySem.W.codeIn K cd4 "_law_sweeps" = true) (k4 : PySem.W.keepIn K (.ref f4) = true)
    (a5 : PySem.W.nsIn K mainGlobals "_law_sign" = some (some (.ref f5))) (l5 : K.lookup f5 = some ⟨oc5, od5, .func (PySem.W.fnOf "_law_sign" "_law_sign" (defArgs s__law_sign) (defBody s__law_sign) (defScope s__law_sign) .none kV5 dc5 pm5 an5 cd5 ct5), sl5⟩) (c5 : PySem.W.codeIn K cd5 "_law_sign" = true) (k5 : PySem.W.keepIn K (.ref f5) = true)
    (a6 : PySem.W.nsIn K mainGlobals "_law_run" = some (some (.ref f6))) (l6 : K.lookup f6 = some ⟨oc6, od6, .func (PySem.W.fnOf "_law_run" "_law_run" (defArgs s__law_run) (defBody s__law_run) (defScope s__law_run) .none kV6 dc6 pm6 an6 cd6 ct6), sl6⟩) (c6 : PySem.W.codeIn K cd6 "_law_run" = true) (k6 : PySem.W.keepIn K (.ref f6) = true)
    (a7 : PySem.W.nsIn K mainGlobals "_law_turns" = some (some (.ref f7))) (l7 : K.lookup f7 = some ⟨oc7, od7, .func (PySem.W.fnOf "_law_turns" "_law_turns" (defArgs s__law_turns) (defBody s__law_turns) (defScope s__law_turns) .none kV7 dc7 pm7 an7 cd7 ct7), sl7⟩) (c7 : PySem.W.codeIn K cd7 "_law_turns" = true) (k7 : PySem.W.keepIn K (.ref f7) = true)
    (a8 : PySem.W.nsIn K mainGlobals "is_piece" = some (some (.ref f8))) (l8 : K.lookup f8 = some ⟨oc8, od8, .func (PySem.W.fnOf "is_piece" "is_piece" (defArgs s_is_piece) (defBody s_is_piece) (defScope s_is_piece) .none kV8 dc8 pm8 an8 cd8 ct8), sl8⟩) (c8 : PySem.W.codeIn K cd8 "is_piece" = true) (k8 : PySem.W.keepIn K (.ref f8) = true)
    (a9 : PySem.W.nsIn K mainGlobals "put_sign" = some (some (.ref f9))) (l9 : K.lookup f9 = some ⟨oc9, od9, .func (PySem.W.fnOf "put_sign" "put_sign" (defArgs s_put_sign) (defBody s_put_sign) (defScope s_put_sign) .none kV9 dc9 pm9 an9 cd9 ct9), sl9⟩) (c9 : PySem.W.codeIn K cd9 "put_sign" = true) (k9 : PySem.W.keepIn K (.ref f9) = true)
    (a10 : PySem.W.nsIn K mainGlobals "piece_of" = some (some (.ref f10))) (l10 : K.lookup f10 = some ⟨oc10, od10, .func (PySem.W.fnOf "piece_of" "piece_of" (defArgs s_piece_of) (defBody s_piece_of) (defScope s_piece_of) .none kV10 dc10 pm10 an10 cd10 ct10), sl10⟩) (c10 : PySem.W.codeIn K cd10 "piece_of" = true) (k10 : PySem.W.keepIn K (.ref f10) = true)
    (a11 : PySem.W.nsIn K mainGlobals "blocks_of" = some (some (.ref f11))) (l11 : K.lookup f11 = some ⟨oc11, od11, .func (PySem.W.fnOf "blocks_of" "blocks_of" (defArgs s_blocks_of) (defBody s_blocks_of) (defScope s_blocks_of) .none kV11 dc11 pm11 an11 cd11 ct11), sl11⟩) (c11 : PySem.W.codeIn K cd11 "blocks_of" = true) (k11 : PySem.W.keepIn K (.ref f11) = true)
    (a12 : PySem.W.nsIn K mainGlobals "_law_blocks" = some (some (.ref f12))) (l12 : K.lookup f12 = some ⟨oc12, od12, .func (PySem.W.fnOf "_law_blocks" "_law_blocks" (defArgs s__law_blocks) (defBody s__law_blocks) (defScope s__law_blocks) .none kV12 dc12 pm12 an12 cd12 ct12), sl12⟩) (c12 : PySem.W.codeIn K cd12 "_law_blocks" = true) (k12 : PySem.W.keepIn K (.ref f12) = true)
    (a13 : PySem.W.nsIn K mainGlobals "turns_of" = some (some (.ref f13))) (l13 : K.lookup f13 = some ⟨oc13, od13, .func (PySem.W.fnOf "turns_of" "turns_of" (defArgs s_turns_of) (defBody s_turns_of) (defScope s_turns_of) .none kV13 dc13 pm13 an13 cd13 ct13), sl13⟩) (c13 : PySem.W.codeIn K cd13 "turns_of" = true) (k13 : PySem.W.keepIn K (.ref f13) = true)
    (a14 : PySem.W.nsIn K mainGlobals "_law_piece" = some (some (.ref f14))) (l14 : K.lookup f14 = some ⟨oc14, od14, .func (PySem.W.fnOf "_law_piece" "_law_piece" (defArgs s__law_piece) (defBody s__law_piece) (defScope s__law_piece) .none kV14 dc14 pm14 an14 cd14 ct14), sl14⟩) (c14 : PySem.W.codeIn K cd14 "_law_piece" = true) (k14 : PySem.W.keepIn K (.ref f14) = true)
    (a15 : PySem.W.nsIn K mainGlobals "turns_told" = some (some (.ref f15))) (l15 : K.lookup f15 = some ⟨oc15, od15, .func (PySem.W.fnOf "turns_told" "turns_told" (defArgs s_turns_told) (defBody s_turns_told) (defScope s_turns_told) .none kV15 dc15 pm15 an15 cd15 ct15), sl15⟩) (c15 : PySem.W.codeIn K cd15 "turns_told" = true) (k15 : PySem.W.keepIn K (.ref f15) = true)
    (a16 : PySem.W.nsIn K mainGlobals "turns_behind" = some (some (.ref f16))) (l16 : K.lookup f16 = some ⟨oc16, od16, .func (PySem.W.fnOf "turns_behind" "turns_behind" (defArgs s_turns_behind) (defBody s_turns_behind) (defScope s_turns_behind) .none kV16 dc16 pm16 an16 cd16 ct16), sl16⟩) (c16 : PySem.W.codeIn K cd16 "turns_behind" = true) (k16 : PySem.W.keepIn K (.ref f16) = true)
    (a17 : PySem.W.nsIn K mainGlobals "turns_ahead" = some (some (.ref f17))) (l17 : K.lookup f17 = some ⟨oc17, od17, .func (PySem.W.fnOf "turns_ahead" "turns_ahead" (defArgs s_turns_ahead) (defBody s_turns_ahead) (defScope s_turns_ahead) .none kV17 dc17 pm17 an17 cd17 ct17), sl17⟩) (c17 : PySem.W.codeIn K cd17 "turns_ahead" = true) (k17 : PySem.W.keepIn K (.ref f17) = true)
    (a18 : PySem.W.nsIn K mainGlobals "_law_parts" = some (some (.ref f18))) (l18 : K.lookup f18 = some ⟨oc18, od18, .func (PySem.W.fnOf "_law_parts" "_law_parts" (defArgs s__law_parts) (defBody s__law_parts) (defScope s__law_parts) .none kV18 dc18 pm18 an18 cd18 ct18), sl18⟩) (c18 : PySem.W.codeIn K cd18 "_law_parts" = true) (k18 : PySem.W.keepIn K (.ref f18) = true)
    (a19 : PySem.W.nsIn K mainGlobals "law" = some (some (.ref f19))) (l19 : K.lookup f19 = some ⟨oc19, od19, .func (PySem.W.fnOf "law" "law" (defArgs s_law) (defBody s_law) (defScope s_law) .none kV19 dc19 pm19 an19 cd19 ct19), sl19⟩) (c19 : PySem.W.codeIn K cd19 "law" = true) (k19 : PySem.W.keepIn K (.ref f19) = true)
    (z0 : PySem.W.nsIn K mainGlobals "abs" = some none)
    (z1 : PySem.W.nsIn K mainGlobals "all" = some none)
    (z2 : PySem.W.nsIn K mainGlobals "enumerate" = some none)
    (z3 : PySem.W.nsIn K mainGlobals "int" = some none)
    (z4 : PySem.W.nsIn K mainGlobals "isinstance" = some none)
    (z5 : PySem.W.nsIn K mainGlobals "len" = some none)
    (z6 : PySem.W.nsIn K mainGlobals "list" = some none)
    (z7 : PySem.W.nsIn K mainGlobals "max" = some none)
    (z8 : PySem.W.nsIn K mainGlobals "range" = some none)
    (z9 : PySem.W.nsIn K mainGlobals "repr" = some none)
    (z10 : PySem.W.nsIn K mainGlobals "str" = some none)
    (z11 : PySem.W.nsIn K mainGlobals "tuple" = some none)
    (uc0 : PySem.W.nsIn K mainGlobals "LEFT" = some (some (.str "L" tk0)))
    (uc1 : PySem.W.nsIn K mainGlobals "RIGHT" = some (some (.str "R" tk1)))
    : ∃ fd : FuncData, (∀ (s : Shared) (v : Value), BindsTo s fd ⟨[v], []⟩ [("script", v)]) ∧ ∀ base : Heap, K.In base → base.Ns mainGlobals mg → FnG l.prog w K mg base 4 fa fd ["script"] (spLaw K) := by
  have e := hfa.symm.trans (PySem.W.mg_of X G a19)
  cases e
  have F0 := fun_mk (st := s__law_source) l0 c0 k0
  have b0 := F0.binds (ps := ["script"]) fun _ _ _ _ _ _ us hl => match us, hl with | [_], _ => rfl
  have F1 := fun_mk (st := s__law_pick) l1 c1 k1
  have b1 := F1.binds (ps := ["source", "many"]) fun _ _ _ _ _ _ us hl => match us, hl with | [_, _], _ => rfl
  have F2 := fun_mk (st := s__law_of) l2 c2 k2
  have b2 := F2.binds (ps := ["source", "some"]) fun _ _ _ _ _ _ us hl => match us, hl with | [_, _], _ => rfl
  have F3 := fun_mk (st := s__law_sheet) l3 c3 k3
  have b3 := F3.binds (ps := ["source"]) fun _ _ _ _ _ _ us hl => match us, hl with | [_], _ => rfl
  have F4 := fun_mk (st := s__law_sweeps) l4 c4 k4
  have b4 := F4.binds (ps := ["source", "sheet"]) fun _ _ _ _ _ _ us hl => match us, hl with | [_, _], _ => rfl
  have F5 := fun_mk (st := s__law_sign) l5 c5 k5
  have b5 := F5.binds (ps := ["sheet", "row", "place"]) fun _ _ _ _ _ _ us hl => match us, hl with | [_, _, _], _ => rfl
  have F6 := fun_mk (st := s__law_run) l6 c6 k6
  have b6 := F6.binds (ps := ["sheet", "program", "row"]) fun _ _ _ _ _ _ us hl => match us, hl with | [_, _, _], _ => rfl
  have F7 := fun_mk (st := s__law_turns) l7 c7 k7
  have b7 := F7.binds (ps := ["writing", "cut"]) fun _ _ _ _ _ _ us hl => match us, hl with | [_, _], _ => rfl
  have F8 := fun_mk (st := s_is_piece) l8 c8 k8
  have b8 := F8.binds (ps := ["value", "letters"]) fun _ _ _ _ _ _ us hl => match us, hl with | [_, _], _ => rfl
  have F9 := fun_mk (st := s_put_sign) l9 c9 k9
  have b9 := F9.binds (ps := ["found", "sign"]) fun _ _ _ _ _ _ us hl => match us, hl with | [_, _], _ => rfl
  have F10 := fun_mk (st := s_piece_of) l10 c10 k10
  have b10 := F10.binds (ps := ["writing", "place"]) fun _ _ _ _ _ _ us hl => match us, hl with | [_, _], _ => rfl
  have F11 := fun_mk (st := s_blocks_of) l11 c11 k11
  have b11 := F11.binds (ps := ["writing", "cut"]) fun _ _ _ _ _ _ us hl => match us, hl with | [_, _], _ => rfl
  have F12 := fun_mk (st := s__law_blocks) l12 c12 k12
  have b12 := F12.binds (ps := ["writing", "cut"]) fun _ _ _ _ _ _ us hl => match us, hl with | [_, _], _ => rfl
  have F13 := fun_mk (st := s_turns_of) l13 c13 k13
  have b13 := F13.binds (ps := ["writing", "cut"]) fun _ _ _ _ _ _ us hl => match us, hl with | [_, _], _ => rfl
  have F14 := fun_mk (st := s__law_piece) l14 c14 k14
  have b14 := F14.binds (ps := ["writing", "place"]) fun _ _ _ _ _ _ us hl => match us, hl with | [_, _], _ => rfl
  have F15 := fun_mk (st := s_turns_told) l15 c15 k15
  have b15 := F15.binds (ps := ["piece", "side", "other"]) fun _ _ _ _ _ _ us hl => match us, hl with | [_, _, _], _ => rfl
  have F16 := fun_mk (st := s_turns_behind) l16 c16 k16
  have b16 := F16.binds (ps := ["piece"]) fun _ _ _ _ _ _ us hl => match us, hl with | [_], _ => rfl
  have F17 := fun_mk (st := s_turns_ahead) l17 c17 k17
  have b17 := F17.binds (ps := ["piece"]) fun _ _ _ _ _ _ us hl => match us, hl with | [_], _ => rfl
  have F18 := fun_mk (st := s__law_parts) l18 c18 k18
  have b18 := F18.binds (ps := ["piece", "own"]) fun _ _ _ _ _ _ us hl => match us, hl with | [_, _], _ => rfl
  have F19 := fun_mk (st := s_law) l19 c19 k19
  have b19 := F19.binds (ps := ["script"]) fun _ _ _ _ _ _ us hl => match us, hl with | [_], _ => rfl
  let t : TD := ⟨f0, (PySem.W.fnOf "_law_source" "_law_source" (defArgs s__law_source) (defBody s__law_source) (defScope s__law_source) .none kV0 dc0 pm0 an0 cd0 ct0), f1, (PySem.W.fnOf "_law_pick" "_law_pick" (defArgs s__law_pick) (defBody s__law_pick) (defScope s__law_pick) .none kV1 dc1 pm1 an1 cd1 ct1), f2, (PySem.W.fnOf "_law_of" "_law_of" (defArgs s__law_of) (defBody s__law_of) (defScope s__law_of) .none kV2 dc2 pm2 an2 cd2 ct2), f3, (PySem.W.fnOf "_law_sheet" "_law_sheet" (defArgs s__law_sheet) (defBody s__law_sheet) (defScope s__law_sheet) .none kV3 dc3 pm3 an3 cd3 ct3), f4, (PySem.W.fnOf "_law_sweeps" "_law_sweeps" (defArgs s__law_sweeps) (defBody s__law_sweeps) (defScope s__law_sweeps) .none kV4 dc4 pm4 an4 cd4 ct4), f5, (PySem.W.fnOf "_law_sign" "_law_sign" (defArgs s__law_sign) (defBody s__law_sign) (defScope s__law_sign) .none kV5 dc5 pm5 an5 cd5 ct5), f6, (PySem.W.fnOf "_law_run" "_law_run" (defArgs s__law_run) (defBody s__law_run) (defScope s__law_run) .none kV6 dc6 pm6 an6 cd6 ct6), f7, (PySem.W.fnOf "_law_turns" "_law_turns" (defArgs s__law_turns) (defBody s__law_turns) (defScope s__law_turns) .none kV7 dc7 pm7 an7 cd7 ct7), f8, (PySem.W.fnOf "is_piece" "is_piece" (defArgs s_is_piece) (defBody s_is_piece) (defScope s_is_piece) .none kV8 dc8 pm8 an8 cd8 ct8), f9, (PySem.W.fnOf "put_sign" "put_sign" (defArgs s_put_sign) (defBody s_put_sign) (defScope s_put_sign) .none kV9 dc9 pm9 an9 cd9 ct9), f10, (PySem.W.fnOf "piece_of" "piece_of" (defArgs s_piece_of) (defBody s_piece_of) (defScope s_piece_of) .none kV10 dc10 pm10 an10 cd10 ct10), f11, (PySem.W.fnOf "blocks_of" "blocks_of" (defArgs s_blocks_of) (defBody s_blocks_of) (defScope s_blocks_of) .none kV11 dc11 pm11 an11 cd11 ct11), f12, (PySem.W.fnOf "_law_blocks" "_law_blocks" (defArgs s__law_blocks) (defBody s__law_blocks) (defScope s__law_blocks) .none kV12 dc12 pm12 an12 cd12 ct12), f13, (PySem.W.fnOf "turns_of" "turns_of" (defArgs s_turns_of) (defBody s_turns_of) (defScope s_turns_of) .none kV13 dc13 pm13 an13 cd13 ct13), f14, (PySem.W.fnOf "_law_piece" "_law_piece" (defArgs s__law_piece) (defBody s__law_piece) (defScope s__law_piece) .none kV14 dc14 pm14 an14 cd14 ct14), f15, (PySem.W.fnOf "turns_told" "turns_told" (defArgs s_turns_told) (defBody s_turns_told) (defScope s_turns_told) .none kV15 dc15 pm15 an15 cd15 ct15), f16, (PySem.W.fnOf "turns_behind" "turns_behind" (defArgs s_turns_behind) (defBody s_turns_behind) (defScope s_turns_behind) .none kV16 dc16 pm16 an16 cd16 ct16), f17, (PySem.W.fnOf "turns_ahead" "turns_ahead" (defArgs s_turns_ahead) (defBody s_turns_ahead) (defScope s_turns_ahead) .none kV17 dc17 pm17 an17 cd17 ct17), f18, (PySem.W.fnOf "_law_parts" "_law_parts" (defArgs s__law_parts) (defBody s__law_parts) (defScope s__law_parts) .none kV18 dc18 pm18 an18 cd18 ct18), fa, (PySem.W.fnOf "law" "law" (defArgs s_law) (defBody s_law) (defScope s_law) .none kV19 dc19 pm19 an19 cd19 ct19)⟩
  have T : Tx K mg t := ⟨F0, PySem.W.mg_of X G a0, b0, F1, PySem.W.mg_of X G a1, b1, F2, PySem.W.mg_of X G a2, b2, F3, PySem.W.mg_of X G a3, b3, F4, PySem.W.mg_of X G a4, b4, F5, PySem.W.mg_of X G a5, b5, F6, PySem.W.mg_of X G a6, b6, F7, PySem.W.mg_of X G a7, b7, F8, PySem.W.mg_of X G a8, b8, F9, PySem.W.mg_of X G a9, b9, F10, PySem.W.mg_of X G a10, b10, F11, PySem.W.mg_of X G a11, b11, F12, PySem.W.mg_of X G a12, b12, F13, PySem.W.mg_of X G a13, b13, F14, PySem.W.mg_of X G a14, b14, F15, PySem.W.mg_of X G a15, b15, F16, PySem.W.mg_of X G a16, b16, F17, PySem.W.mg_of X G a17, b17, F18, PySem.W.mg_of X G a18, b18, F19, PySem.W.mg_of X G a19, b19, PySem.W.mg_none_of X G z0, PySem.W.mg_none_of X G z1, PySem.W.mg_none_of X G z2, PySem.W.mg_none_of X G z3, PySem.W.mg_none_of X G z4, PySem.W.mg_none_of X G z5, PySem.W.mg_none_of X G z6, PySem.W.mg_none_of X G z7, PySem.W.mg_none_of X G z8, PySem.W.mg_none_of X G z9, PySem.W.mg_none_of X G z10, PySem.W.mg_none_of X G z11, ⟨_, PySem.W.mg_of X G uc0⟩, ⟨_, PySem.W.mg_of X G uc1⟩⟩
  exact ⟨(PySem.W.fnOf "law" "law" (defArgs s_law) (defBody s_law) (defScope s_law) .none kV19 dc19 pm19 an19 cd19 ct19), fun s v => .of_eq rfl, fun base _ _ => d_law T plain_law⟩
end Lw
open PySem PySem.W PyProof.Rows
set_option maxRecDepth 100000 in
set_option maxHeartbeats 0 in
theorem PySem.Challenge.cw_camefrom_k15_pieces_by_own_blocks_holds : PySem.Challenge.rw_camefrom_k15_pieces_by_own_blocks.Holds := by
  w_on; o_law; k_head; (case hw => w_witness2)
  k_fill
  refine DL.walkG (l := PySem.Challenge.rw_camefrom_k15_pieces_by_own_blocks) (n := 63) (k := 4) (x := "script") (sp := DL.spLaw) rfl (by decide) rfl ⟨rfl, by decide, by decide⟩ (fun w h Y => PySem.W.kIn_of Y) ?F DL.spLaw_in
  case F =>
    intro w mg fa h KX G hmg
    refine' Lw.all_mk KX G hmg ?a0 ?l0 ?c0 ?k0 ?a1 ?l1 ?c1 ?k1 ?a2 ?l2 ?c2 ?k2 ?a3 ?l3 ?c3 ?k3 ?a4 ?l4 ?c4 ?k4 ?a5 ?l5 ?c5 ?k5 ?a6 ?l6 ?c6 ?k6 ?a7 ?l7 ?c7 ?k7 ?a8 ?l8 ?c8 ?k8 ?a9 ?l9 ?c9 ?k9 ?a10 ?l10 ?c10 ?k10 ?a11 ?l11 ?c11 ?k11 ?a12 ?l12 ?c12 ?k12 ?a13 ?l13 ?c13 ?k13 ?a14 ?l14 ?c14 ?k14 ?a15 ?l15 ?c15 ?k15 ?a16 ?l16 ?c16 ?k16 ?a17 ?l17 ?c17 ?k17 ?a18 ?l18 ?c18 ?k18 ?a19 ?l19 ?c19 ?k19 ?z0 ?z1 ?z2 ?z3 ?z4 ?z5 ?z6 ?z7 ?z8 ?z9 ?z10 ?z11 ?uc0 ?uc1
    (case a0 => k_is); (case l0 => k_is); (case c0 => k_is); (case k0 => k_is); (case a1 => k_is); (case l1 => k_is); (case c1 => k_is); (case k1 => k_is); (case a2 => k_is); (case l2 => k_is); (case c2 => k_is); (case k2 => k_is); (case a3 => k_is); (case l3 => k_is); (case c3 => k_is); (case k3 => k_is); (case a4 => k_is); (case l4 => k_is); (case c4 => k_is); (case k4 => k_is); (case a5 => k_is); (case l5 => k_is); (case c5 => k_is); (case k5 => k_is); (case a6 => k_is); (case l6 => k_is); (case c6 => k_is); (case k6 => k_is); (case a7 => k_is); (case l7 => k_is); (case c7 => k_is); (case k7 => k_is); (case a8 => k_is); (case l8 => k_is); (case c8 => k_is); (case k8 => k_is); (case a9 => k_is); (case l9 => k_is); (case c9 => k_is); (case k9 => k_is); (case a10 => k_is); (case l10 => k_is); (case c10 => k_is); (case k10 => k_is); (case a11 => k_is); (case l11 => k_is); (case c11 => k_is); (case k11 => k_is); (case a12 => k_is); (case l12 => k_is); (case c12 => k_is); (case k12 => k_is); (case a13 => k_is); (case l13 => k_is); (case c13 => k_is); (case k13 => k_is); (case a14 => k_is); (case l14 => k_is); (case c14 => k_is); (case k14 => k_is); (case a15 => k_is); (case l15 => k_is); (case c15 => k_is); (case k15 => k_is); (case a16 => k_is); (case l16 => k_is); (case c16 => k_is); (case k16 => k_is); (case a17 => k_is); (case l17 => k_is); (case c17 => k_is); (case k17 => k_is); (case a18 => k_is); (case l18 => k_is); (case c18 => k_is); (case k18 => k_is); (case a19 => k_is); (case l19 => k_is); (case c19 => k_is); (case k19 => k_is); (case z0 => k_is); (case z1 => k_is); (case z2 => k_is); (case z3 => k_is); (case z4 => k_is); (case z5 => k_is); (case z6 => k_is); (case z7 => k_is); (case z8 => k_is); (case z9 => k_is); (case z10 => k_is); (case z11 => k_is); (case uc0 => k_is); (case uc1 => k_is)
