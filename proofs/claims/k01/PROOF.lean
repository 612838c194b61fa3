import PyProof.Rows.All
import Wide.All
import OpenK.AllK
import Wide.FinOn
import HandS.ForMost
import HandS.TupAny
import HandS.Walk
import HandS.Conv
import HandS.Strs
import HandS.IsInst
import HandS.Style
import HandS.Deep
import HandS.NoneIn
import KE.GoesEnum
import PyProof.StrOps2
import HandS.Text
import HandS.Nested
import HandS.ExcInit
import HandS.ExcField
import KE.KExcSuper
import HandS.ExcOwn
import HandS.WordsExc
import HandS.ExcSuper
import PyProof.StrLawsRepr
import PySem.Challenge.RW_camefrom_k01_lexemes
set_option Elab.async false
set_option linter.all false
set_option maxRecDepth 100000
set_option maxHeartbeats 2000000
/-! DZ: new tuples, told as a tuple or told whole, as one likes; t.index of one told whole. -/
namespace DL
open PySem PySem.Spec PyProof.Rows L2
/-- what is asked of a new tuple -/
def MkT (H : Hp) (xs : List V) (Q : VK) : Prop := (∀ p, H p = none → Q (.ref p) (upd H p (.tup xs))) ∨ (∀ (p : Addr) (o : Obj), H p = none → o.cls = .type "tuple" → o.dict = none → Q (.ref p) (upd H p (.frz o (.tup xs))))
section
variable {X : Cx} {pos : Pos} {es : List Expr} {t : TA}
theorem mk_end {pins : List (Addr × Obj)} {σ : L2.St} {H : Hp} {s : Shared} {xs : List V} {its : List Value} {Q : VK} (I : Inv X pins σ H s) (r : Vals xs its) (z : xs.length ≤ sizeLine) (q : MkT H xs Q) :
    EP X pins σ Q (.ref s.heap.objs.size) { s with heap := s.heap.push { cls := .type "tuple", data := .seq its.toArray } } := by
  have hf : H s.heap.objs.size = none := I.hok.fresh (Nat.le_refl _)
  have hg : (s.heap.push { cls := .type "tuple", data := .seq its.toArray }).get? s.heap.objs.size = some { cls := .type "tuple", data := .seq its.toArray } := Heap.get?_push_size _ rfl
  rcases q with q | q
  · exact ⟨.ref s.heap.objs.size, _, I.laid (t' := s.toks) (o := .tup xs) (fun b u e => Heap.get?_push_of_some _ e) (Nat.le_refl _) ⟨z, its, r, IsTup.new _ _⟩, rfl, q _ hf⟩
  · exact ⟨.ref s.heap.objs.size, _, I.laid (t' := s.toks) (o := .frz { cls := .type "tuple", data := .seq its.toArray } (.tup xs)) (fun b u e => Heap.get?_push_of_some _ e) (Nat.le_refl _) ⟨hg, z, its, r, IsTup.new _ _⟩, rfl, q _ _ hf rfl rfl⟩
def tTupC (t : TA) : TE := fun σ H Q => t σ H fun xs H1 => xs.length ≤ sizeLine ∧ MkT H1 xs Q
theorem pe_tupC {x1} (h : PA X es t) : PE X (.Tuple es x1 pos) (tTupC t) := by
  refine ⟨fun pins s σ H Q I hq => ?_⟩
  refine wpAny_Tuple_spliced (thn (h.run pos pins s σ H _ I hq) fun us s1 ⟨xs, H1, I1, r, z, q⟩ => ⟨by rw [← r.length]; exact z, ?_⟩)
  exact mk_end I1 r z q
/-- tuple(list), tuple(tuple) -/
def rTupC (K : PySem.W.Frag) : List V → Hp → VK → Prop := fun xs H Q => ∃ p ys, xs = [.ref p] ∧ ((SqL K H p ys ∧ MkT H ys Q) ∨ (SqT K H p ys ∧ Q (.ref p) H))
theorem call_tupleC : CallR X (.type "tuple") (rTupC X.K) := by
  intro pins s σ H xs us Q I r h
  obtain ⟨p, ys, rfl, h⟩ := h
  obtain ⟨u, rfl, rx⟩ := vals1 r
  cases rx
  rcases h with ⟨hq, q⟩ | ⟨hq, q⟩
  · obtain ⟨its, r', pl, hz⟩ := I.list hq
    have hlen := r'.length
    refine call_tuple_list pl.isList (fun h' kp => ?_) (by simp only [List.size_toArray] <;> omega)
    exact mk_end (I.kept (t' := s.toks) kp) r' hz q
  · obtain ⟨its, r', pl, hz⟩ := I.tuple hq
    exact call_tuple_same pl ⟨.ref p, H, I, rfl, q⟩
/-- t + u -/
def rCatC (K : PySem.W.Frag) : R2 := fun x y H Q => ∃ a b xs ys, x = .ref a ∧ y = .ref b ∧ SqT K H a xs ∧ SqT K H b ys ∧ xs.length + ys.length ≤ sizeLine ∧
  (xs = [] → Q (.ref b) H) ∧ (xs ≠ [] → ys = [] → Q (.ref a) H) ∧ (xs ≠ [] → ys ≠ [] → MkT H (xs ++ ys) Q)
theorem op_catC : OpR X (binaryOp .Add) (rCatC X.K) := by
  intro pins s σ H x y v u Q I rx ry h
  obtain ⟨a, b, xs, ys, rfl, rfl, ha, hb, hz, q0, q1, q2⟩ := h
  cases rx
  cases ry
  obtain ⟨its, r1, p1, _⟩ := I.tuple ha
  obtain ⟨its2, r2, p2, _⟩ := I.tuple hb
  by_cases hx : xs = []
  · subst hx
    cases r1
    exact cat_tup0 p1 p2 ⟨.ref b, H, I, rfl, q0 rfl⟩
  · refine HT.cat_tup p1 p2 (fun z => hx (r1.nil_iff.mp z)) (fun z => ⟨.ref a, H, I, rfl, q1 hx (r2.nil_iff.mp z)⟩) (fun z => ?_) (by rw [← r1.length, ← r2.length]; exact hz)
    exact mk_end I (r1.append r2) (by rw [List.length_append]; exact hz) (q2 hx fun w => z (r2.nil_iff.mpr w))
/-- t[lo:hi] -/
def rSlC (K : PySem.W.Frag) : V → Option Int → Option Int → Hp → VK → Prop := fun x lo hi H Q => ∃ a xs, x = .ref a ∧ SqT K H a xs ∧
  (HT.sIx xs.length 0 lo = 0 ∧ HT.sIx xs.length xs.length hi = xs.length → Q (.ref a) H) ∧ (¬ (HT.sIx xs.length 0 lo = 0 ∧ HT.sIx xs.length xs.length hi = xs.length) → MkT H (cutV xs lo hi) Q)
theorem sl_tupC : SlR X (rSlC X.K) := by
  intro pins s σ H x v vl vu lo hi sl Q I rx hs pl pu h
  obtain ⟨a, xs, rfl, hx, q1, q2⟩ := h
  cases rx
  obtain ⟨its, r, ht, hz⟩ := I.tuple hx
  have hlen : its.toArray.size = xs.length := by rw [List.size_toArray]; exact r.length.symm
  refine ⟨"tuple", _, PyProof.Rows.slot_tuple_getitem.lookup, ht.typeIs, ?_⟩
  by_cases hw : HT.sIx xs.length 0 lo = 0 ∧ HT.sIx xs.length xs.length hi = xs.length
  · exact getItem_tuple_whole ht hs pl pu (by rw [hlen]; exact hw) ⟨.ref a, H, I, rfl, q1 hw⟩
  · refine HT.getItem_tuple_cut ht hs pl pu (by rw [hlen]; exact hw) ?_ (by rw [hlen]; exact hz)
    rw [hlen]
    exact mk_end I ((r.drop (HT.sIx xs.length 0 lo)).take (HT.sIx xs.length xs.length hi - HT.sIx xs.length 0 lo)) (Nat.le_trans (cutV_length xs lo hi) hz) (q2 hw)
end
/-! ### t.index(x), t told whole -/
section
variable {X : Cx} {o e : Expr} {to te : TE} {apos cpos : Pos}
def tTIdx (K : PySem.W.Frag) (to te : TE) : TE := fun σ H Q => to σ H fun x H1 => ∃ (p : Addr) (ob : Obj) (ys : List Str), x = .ref p ∧ ob.cls = .type "tuple" ∧ ob.dict = none ∧ H1 p = some (.frz ob (.tup (ys.map V.str))) ∧
  te σ H1 fun y H2 => ∃ z j, y = .str z ∧ SqT K H2 p (ys.map V.str) ∧ ys[j]? = some z ∧ (∀ m, m < j → ys[m]? ≠ some z) ∧ Q (.int (j : Nat)) H2
def one1 (R : V → Hp → Prop) : List V → Hp → Prop := fun vs H => match vs with
  | [y] => R y H
  | _ => False
theorem pe_tidx (ho : PE X o to) (ha : PE X e te)
    (hbase : attributeBase o "index" X.env (eval o X.env) = eval o X.env := by rfl)
    (hfew : ((backTo cpos (starEach [e] X.env)).all (fun x => !x.1) && (backToKw cpos (keywordEach [] X.env)).all (fun x => x.1.isSome)
      && decide ([e].length + ([] : List Keyword).length + (if ([] : List Keyword).isEmpty then 0 else 1) < 30)) = true := by rfl)
    (hline : (apos.endLine == cpos.line) = true := by rfl) (hs : starEach [e] X.env = (false, eval e X.env) :: starEach [] X.env := by rfl) (hplain : (backTo cpos (starEach [] X.env)).any (·.1) = false := by rfl) :
    PE X (.Call (.Attribute o "index" apos) [e] [] cpos) (tTIdx X.K to te) := by
  refine ⟨fun pins s σ H Q I h => ?_⟩
  refine wpAny_Call_method_late hbase hfew hline rfl (thn (ho.run pins s σ H _ I h) fun v s1 ⟨x, H1, I1, r1, p, ob, ys, ex, hc, hd, hp, q1⟩ => ?_)
  subst ex
  cases r1
  obtain ⟨hg, _⟩ := I1.hok p _ hp
  refine ⟨"tuple", "tuple.index", PySem.F.plainAttrs_tuple, PySem.F.slot_tuple_index, PySem.F.type_tuple_index, ⟨ob, hg, hc⟩, fun a ea => by cases ea; exact ⟨ob, hg, hd⟩, ?_⟩
  have hA := (pa_cons ha pa_nil hs).run cpos pins s1 σ H1 (one1 fun y H2 => ∃ z j, y = .str z ∧ SqT X.K H2 p (ys.map V.str) ∧ ys[j]? = some z ∧ (∀ m, m < j → ys[m]? ≠ some z) ∧ Q (.int (j : Nat)) H2) I1 q1
  rw [hs] at hA ⊢
  refine Calls.callWith_builtin (by show (false || (backTo cpos (starEach [] X.env)).any (·.1)) = false; rw [hplain] <;> rfl) (Calls.evalArgs_plain ?_)
  refine thn hA fun us s2 ⟨vs, H2, I2, r2, q2⟩ => ?_
  match vs, q2, r2 with
  | [y], q2, r2 =>
    obtain ⟨z, j, ey, q3⟩ := q2
    subst ey
    exact mt_tup_index pins s2 σ H2 (.ref p) [.str z] (.ref p) us Q I2 rfl r2 ⟨p, ys, z, j, rfl, rfl, q3⟩
  | [], q2, _ => exact q2.elim
  | _ :: _ :: _, q2, _ => exact q2.elim
end
end DL
set_option maxRecDepth 100000
set_option maxHeartbeats 2000000
/-! DA: the data layer. What a def does, told by plain data (PyData), with who owns which list. -/
namespace DL
open PySem PySem.Spec PyProof.Rows L2

/-- the laws' source of draws -/
structure Src where
  cells : List Int
  left : Int
  mixed : Int
  turn : Int
/-- where the source stands: its dict, its list of cells -/
abbrev SO := Option (Addr × Addr)
def Has (so : SO) (b : Addr) : Prop := match so with
  | none => False
  | some (a, c) => b = a ∨ b = c
def srcKvs (S : Src) (c : Addr) : List (Key × V) := [(.inr "cells", .ref c), (.inr "left", .int S.left), (.inr "mixed", .int S.mixed), (.inr "turn", .int S.turn)]
def SrcOk (so : SO) (S : Src) (H : Hp) : Prop := match so with
  | none => True
  | some (a, c) => H a = some (.dK (srcKvs S c)) ∧ H c = some (.lst (S.cells.map V.int))

/-- what a slot holds: data for good; a borrowed list; an own list; an own dict; the source; any address -/
inductive Bd where
  | imm (d : PyData)
  | bor (ds : List PyData)
  | lst (ds : List PyData)
  | dk (kvs : List (Key × PyData))
  | dt (kvs : List (List Key × PyData))
  | src
  | ref (a : Addr)
  | wr (d : PyData)
def Bd.own : Bd → Bool
  | .lst _ => true
  | .dk _ => true
  | .dt _ => true
  | _ => false
def Bd.isBor : Bd → Bool
  | .bor _ => true
  | _ => false
abbrev En := List (Option Bd)
abbrev Sl := List (Option V)

/-- a row of texts alone, not empty -/
def allS : List PyData → Bool
  | [] => true
  | .str _ :: r => allS r
  | _ => false
def strsT : List PyData → Bool
  | [] => false
  | d :: r => allS (d :: r)
def tupHO : HO → Bool
  | .tup _ => true
  | .frz _ (.tup _) => true
  | _ => false
/-- a tuple's object: one of texts alone is known whole -/
def TupAt (H : Hp) (a : Addr) (xs : List V) (b : Bool) : Prop := if b = true then ∃ o : Obj, o.cls = .type "tuple" ∧ o.dict = none ∧ H a = some (.frz o (.tup xs)) else H a = some (.tup xs)
theorem TupAt.ex {H : Hp} {a : Addr} {xs : List V} {b : Bool} (h : TupAt H a xs b) : ∃ u, tupHO u = true ∧ H a = some u := by
  unfold TupAt at h
  split at h
  · obtain ⟨o, _, _, e⟩ := h; exact ⟨_, rfl, e⟩
  · exact ⟨_, rfl, h⟩
theorem TupAt.up {H H' : Hp} {a : Addr} {xs : List V} {b : Bool} (hT : ∀ a o, tupHO o = true → H a = some o → H' a = some o) (h : TupAt H a xs b) : TupAt H' a xs b := by
  unfold TupAt at h ⊢
  split at h
  · rename_i hb
    rw [if_pos hb]
    obtain ⟨o, c, d, e⟩ := h
    exact ⟨o, c, d, hT _ _ rfl e⟩
  · rename_i hb
    rw [if_neg hb]
    exact hT _ _ rfl h
theorem TupAt.sq {K : PySem.W.Frag} {H : Hp} {a : Addr} {xs : List V} {b : Bool} (h : TupAt H a xs b) : SqT K H a xs := by
  unfold TupAt at h
  split at h
  · obtain ⟨o, _, _, e⟩ := h; exact .inl (.inr ⟨o, e⟩)
  · exact .inl (.inl h)
theorem TupAt.plain {H : Hp} {a : Addr} {xs : List V} {b : Bool} (h : TupAt H a xs b) (hb : b = false) : H a = some (.tup xs) := by
  unfold TupAt at h
  rw [hb] at h
  exact h
theorem TupAt.of {H : Hp} {a : Addr} {xs : List V} {b : Bool} (h : H a = some (.tup xs)) (hb : b = false) : TupAt H a xs b := by
  unfold TupAt
  rw [hb]
  exact h
mutual
inductive Den (K : PySem.W.Frag) (H : Hp) (A : Addr → Prop) : V → PyData → Prop
  | non : Den K H A .non .none
  | bl (b : Bool) : Den K H A (.bl b) (.bool b)
  | int (i : Int) : Den K H A (.int i) (.int i)
  | str (x : Str) : Den K H A (.str x) (.str x)
  | lst {a : Addr} {xs : List V} {ds : List PyData} : A a → H a = some (.lst xs) → DenL K H A xs ds → Den K H A (.ref a) (.list ds)
  | tup {a : Addr} {xs : List V} {ds : List PyData} : TupAt H a xs (strsT ds) → DenL K H A xs ds → Den K H A (.ref a) (.tuple ds)
inductive DenL (K : PySem.W.Frag) (H : Hp) (A : Addr → Prop) : List V → List PyData → Prop
  | nil : DenL K H A [] []
  | cons {v : V} {vs : List V} {d : PyData} {ds : List PyData} : Den K H A v d → DenL K H A vs ds → DenL K H A (v :: vs) (d :: ds)
end
section
variable {K : PySem.W.Frag} {H H' : Hp} {A A' : Addr → Prop}
mutual
theorem Den.dp : ∀ {d : PyData} {v : V}, Den K H A v d → Dp K H v d
  | .none, _, h => by cases h; exact .non
  | .bool b, _, h => by cases h; exact .bl b
  | .int i, _, h => by cases h; exact .int i
  | .str x, _, h => by cases h; exact .str x
  | .list ds, _, h => by
    cases h with
    | lst ha hh hl => exact .lst (SqL.of hh) (DenL.dp hl)
  | .tuple ds, _, h => by
    cases h with
    | tup hs hl => exact .tup hs.sq (DenL.dp hl)
  | .dict _, _, h => by cases h
theorem DenL.dp : ∀ {ds : List PyData} {vs : List V}, DenL K H A vs ds → DpAll K H vs ds
  | [], _, h => by cases h; exact .nil
  | d :: ds, _, h => by
    cases h with
    | cons h1 h2 => exact .cons (Den.dp h1) (DenL.dp h2)
end
mutual
theorem Den.mono (hA : ∀ b, A b → A' b) (hH : ∀ b xs, A b → H b = some (.lst xs) → H' b = some (.lst xs)) (hT : ∀ a o, tupHO o = true → H a = some o → H' a = some o) : ∀ {d : PyData} {v : V}, Den K H A v d → Den K H' A' v d
  | .none, _, h => by cases h; exact .non
  | .bool b, _, h => by cases h; exact .bl b
  | .int i, _, h => by cases h; exact .int i
  | .str x, _, h => by cases h; exact .str x
  | .list ds, _, h => by
    cases h with
    | lst ha hh hl => exact .lst (hA _ ha) (hH _ _ ha hh) (DenL.mono hA hH hT hl)
  | .tuple ds, _, h => by
    cases h with
    | tup hs hl => exact .tup (hs.up hT) (DenL.mono hA hH hT hl)
  | .dict _, _, h => by cases h
theorem DenL.mono (hA : ∀ b, A b → A' b) (hH : ∀ b xs, A b → H b = some (.lst xs) → H' b = some (.lst xs)) (hT : ∀ a o, tupHO o = true → H a = some o → H' a = some o) : ∀ {ds : List PyData} {vs : List V}, DenL K H A vs ds → DenL K H' A' vs ds
  | [], _, h => by cases h; exact .nil
  | d :: ds, _, h => by
    cases h with
    | cons h1 h2 => exact .cons (Den.mono hA hH hT h1) (DenL.mono hA hH hT h2)
end
-- no list within
mutual
def noL : PyData → Bool
  | .list _ => false
  | .tuple ds => noLs ds
  | .dict _ => false
  | _ => true
def noLs : List PyData → Bool
  | [] => true
  | d :: ds => noL d && noLs ds
end
mutual
theorem Den.anyA : ∀ {d : PyData} {v : V}, noL d = true → Den K H A v d → Den K H A' v d
  | .none, _, _, h => by cases h; exact .non
  | .bool b, _, _, h => by cases h; exact .bl b
  | .int i, _, _, h => by cases h; exact .int i
  | .str x, _, _, h => by cases h; exact .str x
  | .list ds, _, n, h => by simp [noL] at n
  | .tuple ds, _, n, h => by
    cases h with
    | tup hs hl => exact .tup hs (DenL.anyA (by simpa [noL] using n) hl)
  | .dict _, _, _, h => by cases h
theorem DenL.anyA : ∀ {ds : List PyData} {vs : List V}, noLs ds = true → DenL K H A vs ds → DenL K H A' vs ds
  | [], _, _, h => by cases h; exact .nil
  | d :: ds, _, n, h => by
    simp only [noLs, Bool.and_eq_true] at n
    cases h with
    | cons h1 h2 => exact .cons (Den.anyA n.1 h1) (DenL.anyA n.2 h2)
end
theorem DenL.length : ∀ {ds : List PyData} {vs : List V}, DenL K H A vs ds → vs.length = ds.length
  | [], _, h => by cases h; rfl
  | d :: ds, _, h => by
    cases h with
    | cons h1 h2 => simp [DenL.length h2]
theorem DenL.get : ∀ {ds : List PyData} {vs : List V} {i : Nat} {d : PyData}, DenL K H A vs ds → ds[i]? = some d → ∃ v, vs[i]? = some v ∧ Den K H A v d
  | [], _, i, d, h, e => by simp at e
  | d0 :: ds, _, i, d, h, e => by
    cases h with
    | cons h1 h2 =>
      cases i with
      | zero => simp at e; subst e; exact ⟨_, rfl, h1⟩
      | succ i =>
        obtain ⟨v, e1, e2⟩ := DenL.get h2 (i := i) (by simpa using e)
        exact ⟨v, by simpa using e1, e2⟩
theorem DenL.append : ∀ {ds es : List PyData} {vs ws : List V}, DenL K H A vs ds → DenL K H A ws es → DenL K H A (vs ++ ws) (ds ++ es)
  | [], _, _, _, h, h2 => by cases h; exact h2
  | d :: ds, _, _, _, h, h2 => by
    cases h with
    | cons h0 h1 => exact .cons h0 (DenL.append h1 h2)
theorem DenL.take : ∀ {ds : List PyData} {vs : List V} (n : Nat), DenL K H A vs ds → DenL K H A (vs.take n) (ds.take n)
  | _, _, 0, _ => .nil
  | [], _, n + 1, h => by cases h; exact .nil
  | d :: ds, _, n + 1, h => by
    cases h with
    | cons h0 h1 => exact .cons h0 (DenL.take n h1)
theorem DenL.drop : ∀ {ds : List PyData} {vs : List V} (n : Nat), DenL K H A vs ds → DenL K H A (vs.drop n) (ds.drop n)
  | _, _, 0, h => h
  | [], _, n + 1, h => by cases h; exact .nil
  | d :: ds, _, n + 1, h => by
    cases h with
    | cons h0 h1 => exact DenL.drop n h1
theorem DenL.set : ∀ {ds : List PyData} {vs : List V} {v : V} {d : PyData} (n : Nat), DenL K H A vs ds → Den K H A v d → DenL K H A (vs.set n v) (ds.set n d)
  | [], _, _, _, n, h, _ => by cases h; exact .nil
  | d :: ds, _, _, _, 0, h, q => by
    cases h with
    | cons h0 h1 => exact .cons q h1
  | d :: ds, _, _, _, n + 1, h, q => by
    cases h with
    | cons h0 h1 => exact .cons h0 (DenL.set n h1 q)
theorem DenL.reverse : ∀ {ds : List PyData} {vs : List V}, DenL K H A vs ds → DenL K H A vs.reverse ds.reverse
  | [], _, h => by cases h; exact .nil
  | d :: ds, _, h => by
    cases h with
    | cons h0 h1 => simp only [List.reverse_cons]; exact (DenL.reverse h1).append (.cons h0 .nil)
theorem DenL.one {v : V} {d : PyData} (h : Den K H A v d) : DenL K H A [v] [d] := .cons h .nil
end

/-- an own dict's entries: keys that are ints, texts; tuples of them -/
def keyD : Key → PyData
  | .inl i => .int i
  | .inr x => .str x
def DKV {κ : Type} (K : PySem.W.Frag) (H : Hp) (A : Addr → Prop) : List (κ × V) → List (κ × PyData) → Prop :=
  Paired fun (p : κ × V) (q : κ × PyData) => p.1 = q.1 ∧ Den K H A p.2 q.2
def OOk (K : PySem.W.Frag) (so : SO) (H0 H : Hp) (A : Addr → Prop) (v : V) : Bd → Prop
  | .imm d => Den K H A v d
  | .bor ds => ∃ a vs, v = .ref a ∧ H a = some (.lst vs) ∧ ¬ Has so a ∧ DenL K H A vs ds
  | .lst ds => ∃ a vs, v = .ref a ∧ H a = some (.lst vs) ∧ ¬ A a ∧ H0 a = none ∧ DenL K H A vs ds
  | .dk kvs => ∃ a kv, v = .ref a ∧ H a = some (.dK kv) ∧ ¬ A a ∧ H0 a = none ∧ DKV K H A kv kvs
  | .dt kvs => ∃ a kv, v = .ref a ∧ H a = some (.dT kv) ∧ ¬ A a ∧ H0 a = none ∧ DKV K H A kv kvs
  | .src => ∃ a c, v = .ref a ∧ so = some (a, c)
  | .ref a => v = .ref a
  | .wr d => Dp K (fun _ => none) v d

/-- THE MATCH of slots and data. H0, A0: the heap at the entry, the lists frozen there; A: those frozen now -/
structure Mt (K : PySem.W.Frag) (so : SO) (H0 : Hp) (A0 : Addr → Prop) (S : Src) (σ : Sl) (ρ : En) (H : Hp) (A : Addr → Prop) : Prop where
  len : σ.length = ρ.length
  keep : ∀ b x, H0 b = some x → ¬ Has so b → H b = some x
  a0 : ∀ b, A0 b → A b
  an : ∀ b, A b → A0 b ∨ H0 b = none
  fz : ∀ b, A b → ∃ xs, H b = some (.lst xs)
  ns : ∀ b, A b → ¬ Has so b
  so0 : ∀ b, Has so b → ∃ x, H0 b = some x
  src : SrcOk so S H
  bd : ∀ (i : Nat) (b : Bd), ρ[i]? = some (some b) → ∃ v, σ[i]? = some (some v) ∧ OOk K so H0 H A v b
  sep : ∀ (i j : Nat) (b b' : Bd) (v : V), i ≠ j → ρ[i]? = some (some b) → ρ[j]? = some (some b') → b.own = true → b'.own = true → σ[i]? = some (some v) → σ[j]? ≠ some (some v)

section
variable {K : PySem.W.Frag} {so : SO} {H0 H H' : Hp} {A0 A A' : Addr → Prop} {S S' : Src} {σ σ' : Sl} {ρ ρ' : En} {v : V} {b : Bd}
theorem Has.src {a : Addr} (h : Has so a) (s : SrcOk so S H) : (∃ kv, H a = some (.dK kv)) ∨ ∃ xs, H a = some (.lst xs) := by
  cases so with
  | none => cases h
  | some p =>
    obtain ⟨x, y⟩ := p
    rcases h with rfl | rfl
    · exact .inl ⟨_, s.1⟩
    · exact .inr ⟨_, s.2⟩
theorem tup_up (hk : ∀ b x, H b = some x → ¬ Has so b → H' b = some x) (s : SrcOk so S H) {a : Addr} {o : HO} (t : tupHO o = true) (h : H a = some o) : H' a = some o := hk _ _ h fun q => by
  rcases q.src s with ⟨kv, z⟩ | ⟨ys, z⟩ <;> (rw [z] at h; cases h; cases t)
/-- the heap has grown; lists may have been frozen that were nobody's -/
theorem OOk.up (hk : ∀ b x, H b = some x → ¬ Has so b → H' b = some x) (s : SrcOk so S H) (so0 : ∀ b, Has so b → ∃ x, H0 b = some x) (ns : ∀ b, A b → ¬ Has so b) (hA : ∀ b, A b → A' b)
    (hn : ∀ a, b.own = true → v = .ref a → ¬ A a → ¬ A' a) (h : OOk K so H0 H A v b) : OOk K so H0 H' A' v b := by
  have hl : ∀ b xs, A b → H b = some (.lst xs) → H' b = some (.lst xs) := fun b xs ha e => hk b _ e (ns b ha)
  have hT : ∀ a o, tupHO o = true → H a = some o → H' a = some o := fun a o t => tup_up hk s t
  have n0 : ∀ a, H0 a = none → ¬ Has so a := fun a e q => by obtain ⟨x, z⟩ := so0 a q; rw [e] at z; cases z
  cases b with
  | imm d => exact Den.mono hA hl hT h
  | bor ds =>
    obtain ⟨a, vs, e, ha, nh, hd⟩ := h
    exact ⟨a, vs, e, hk _ _ ha nh, nh, DenL.mono hA hl hT hd⟩
  | lst ds =>
    obtain ⟨a, vs, e, ha, na, h0, hd⟩ := h
    exact ⟨a, vs, e, hk _ _ ha (n0 a h0), hn a rfl e na, h0, DenL.mono hA hl hT hd⟩
  | dk kvs =>
    obtain ⟨a, kv, e, ha, na, h0, q⟩ := h
    exact ⟨a, kv, e, hk _ _ ha (n0 a h0), hn a rfl e na, h0, Paired.mapP q fun p q z => ⟨z.1, Den.mono hA hl hT z.2⟩⟩
  | dt kvs =>
    obtain ⟨a, kv, e, ha, na, h0, q⟩ := h
    exact ⟨a, kv, e, hk _ _ ha (n0 a h0), hn a rfl e na, h0, Paired.mapP q fun p q z => ⟨z.1, Den.mono hA hl hT z.2⟩⟩
  | src => exact h
  | ref a => exact h
  | wr d => exact h

theorem Mt.n0 (M : Mt K so H0 A0 S σ ρ H A) {a : Addr} (h : H0 a = none) : ¬ Has so a := fun q => by
  obtain ⟨x, z⟩ := M.so0 a q
  rw [h] at z; cases z
theorem Mt.h0 (M : Mt K so H0 A0 S σ ρ H A) {p : Addr} (h : H p = none) : H0 p = none := by
  cases e : H0 p with
  | none => rfl
  | some x =>
    by_cases q : Has so p
    · rcases q.src M.src with ⟨_, z⟩ | ⟨_, z⟩ <;> (rw [h] at z; cases z)
    · rw [M.keep p x e q] at h; cases h
theorem Mt.nA (M : Mt K so H0 A0 S σ ρ H A) {p : Addr} (h : H p = none) : ¬ A p := fun q => by
  obtain ⟨xs, z⟩ := M.fz p q
  rw [h] at z; cases z
theorem OOk.there (h : OOk K so H0 H A v b) (ho : b.own = true) : ∃ a x, v = .ref a ∧ H a = some x ∧ H0 a = none ∧ ¬ A a := by
  cases b with
  | lst ds => obtain ⟨a, vs, e, ha, na, h0, _⟩ := h; exact ⟨a, _, e, ha, h0, na⟩
  | dk kvs => obtain ⟨a, kv, e, ha, na, h0, _⟩ := h; exact ⟨a, _, e, ha, h0, na⟩
  | dt kvs => obtain ⟨a, kv, e, ha, na, h0, _⟩ := h; exact ⟨a, _, e, ha, h0, na⟩
  | imm _ => cases ho
  | bor _ => cases ho
  | src => cases ho
  | ref _ => cases ho
  | wr _ => cases ho
/-- another state of the source -/
theorem SrcOk.keepd (s : SrcOk so S H) (hk : ∀ b, Has so b → H' b = H b) : SrcOk so S H' := by
  cases so with
  | none => trivial
  | some p =>
    obtain ⟨x, y⟩ := p
    exact ⟨(hk x (.inl rfl)).trans s.1, (hk y (.inr rfl)).trans s.2⟩
/-- the heap grows, more lists are frozen (none that is a slot's own) -/
theorem Mt.up (M : Mt K so H0 A0 S σ ρ H A) (hk : ∀ b x, H b = some x → ¬ Has so b → H' b = some x) (hs : SrcOk so S' H') (hA : ∀ b, A b → A' b) (han : ∀ b, A' b → A b ∨ H b = none) (hfz : ∀ b, A' b → ∃ xs, H' b = some (.lst xs))
    (hns : ∀ b, A' b → ¬ Has so b) : Mt K so H0 A0 S' σ ρ H' A' where
  len := M.len
  keep := fun b x e n => hk b x (M.keep b x e n) n
  a0 := fun b h => hA b (M.a0 b h)
  an := fun b h => (han b h).elim (M.an b) fun e => .inr (M.h0 e)
  fz := hfz
  ns := hns
  so0 := M.so0
  src := hs
  bd := fun i b e => by
    obtain ⟨v, e1, o⟩ := M.bd i b e
    refine ⟨v, e1, o.up hk M.src M.so0 M.ns hA fun a ho ev na q => ?_⟩
    obtain ⟨a', x, ev', hx, _, _⟩ := o.there ho
    rw [ev] at ev'; cases ev'
    rcases han a q with z | z
    · exact na z
    · rw [hx] at z; cases z
  sep := M.sep
/-- a new object stands at p -/
theorem Mt.new (M : Mt K so H0 A0 S σ ρ H A) {p : Addr} {o : HO} (hp : H p = none) : Mt K so H0 A0 S σ ρ (upd H p o) A := by
  have hk : ∀ b x, H b = some x → upd H p o b = some x := fun b x e => by rw [upd_ne (ne_of_none e hp)]; exact e
  refine M.up (fun b x e _ => hk b x e) (M.src.keepd fun b h => ?_) (fun _ h => h) (fun _ h => .inl h) (fun b h => ?_) M.ns
  · rcases h.src M.src with ⟨_, z⟩ | ⟨_, z⟩ <;> rw [z, hk _ _ z]
  · obtain ⟨xs, e⟩ := M.fz b h
    exact ⟨xs, hk _ _ e⟩
/-- one value more -/
theorem Mt.push (M : Mt K so H0 A0 S σ ρ H A) (o : OOk K so H0 H A v b) (hs : b.own = true → ∀ (i : Nat) (b' : Bd), ρ[i]? = some (some b') → b'.own = true → σ[i]? ≠ some (some v)) : Mt K so H0 A0 S (σ ++ [some v]) (ρ ++ [some b]) H A where
  len := by simp [M.len]
  keep := M.keep
  a0 := M.a0
  an := M.an
  fz := M.fz
  ns := M.ns
  so0 := M.so0
  src := M.src
  bd := fun i c e => by
    by_cases hi : i < ρ.length
    · rw [List.getElem?_append_left hi] at e
      obtain ⟨w, e1, q⟩ := M.bd i c e
      exact ⟨w, by rw [List.getElem?_append_left (by rw [M.len]; exact hi)]; exact e1, q⟩
    · rw [List.getElem?_append_right (by omega)] at e
      have : i - ρ.length = 0 := by
        cases h : i - ρ.length with
        | zero => rfl
        | succ n => rw [h] at e; simp at e
      rw [this] at e
      simp at e
      subst e
      refine ⟨v, ?_, o⟩
      rw [List.getElem?_append_right (by rw [M.len]; omega), M.len, this]
      rfl
  sep := fun i j c c' w ne e1 e2 o1 o2 e3 e4 => by
    have last : ∀ {k : Nat} {d : Bd}, ¬ k < ρ.length → (ρ ++ [some b])[k]? = some (some d) → k = ρ.length ∧ d = b := fun {k d} hk e => by
      rw [List.getElem?_append_right (by omega)] at e
      cases h : k - ρ.length with
      | zero => rw [h] at e; simp at e; exact ⟨by omega, e.symm⟩
      | succ n => rw [h] at e; simp at e
    by_cases hi : i < ρ.length
    · rw [List.getElem?_append_left hi] at e1
      rw [List.getElem?_append_left (by rw [M.len]; exact hi)] at e3
      by_cases hj : j < ρ.length
      · rw [List.getElem?_append_left hj] at e2
        rw [List.getElem?_append_left (by rw [M.len]; exact hj)] at e4
        exact M.sep i j c c' w ne e1 e2 o1 o2 e3 e4
      · obtain ⟨rfl, rfl⟩ := last hj e2
        rw [← M.len, List.getElem?_append_right (Nat.le_refl _)] at e4
        simp at e4
        subst e4
        exact hs o2 i c e1 o1 e3
    · obtain ⟨rfl, rfl⟩ := last hi e1
      rw [← M.len, List.getElem?_append_right (Nat.le_refl _)] at e3
      simp at e3
      subst e3
      by_cases hj : j < ρ.length
      · rw [List.getElem?_append_left hj] at e2
        rw [List.getElem?_append_left (by rw [M.len]; exact hj)] at e4
        exact hs o1 j c' e2 o2 e4
      · obtain ⟨rfl, rfl⟩ := last hj e2
        exact ne rfl
/-- .. that is no list of its own -/
theorem Mt.pushI (M : Mt K so H0 A0 S σ ρ H A) (o : OOk K so H0 H A v b) (hs : b.own = false) : Mt K so H0 A0 S (σ ++ [some v]) (ρ ++ [some b]) H A :=
  M.push o fun h => by rw [hs] at h; cases h
theorem Mt.fresh (M : Mt K so H0 A0 S σ ρ H A) {p : Addr} (hp : H p = none) : ∀ (i : Nat) (b' : Bd), ρ[i]? = some (some b') → b'.own = true → σ[i]? ≠ some (some (.ref p)) := fun i b' e ho e' => by
  obtain ⟨w, e1, q⟩ := M.bd i b' e
  obtain ⟨a, x, ev, hx, _, _⟩ := q.there ho
  rw [e1] at e'
  cases e'
  cases ev
  rw [hp] at hx; cases hx
/-- a new tuple, a new own list -/
theorem Mt.newT (M : Mt K so H0 A0 S σ ρ H A) {p : Addr} {xs : List V} {ds : List PyData} (hp : H p = none) (h : DenL K H A xs ds) (hb : strsT ds = false) : Mt K so H0 A0 S (σ ++ [some (.ref p)]) (ρ ++ [some (.imm (.tuple ds))]) (upd H p (.tup xs)) A := by
  have M1 := M.new (o := .tup xs) hp
  refine M1.pushI (Den.tup (TupAt.of upd_same hb) (h.mono (fun _ q => q) (fun b ys _ e => ?_) fun a o t => tup_up (so := so) (S := S) (fun b x e _ => ?_) M.src t)) rfl
  · rw [upd_ne (ne_of_none e hp)]; exact e
  · rw [upd_ne (ne_of_none e hp)]; exact e
theorem Mt.newF (M : Mt K so H0 A0 S σ ρ H A) {p : Addr} {xs : List V} {ds : List PyData} {o : Obj} (hp : H p = none) (h : DenL K H A xs ds) (hb : strsT ds = true) (hc : o.cls = .type "tuple") (hd : o.dict = none) : Mt K so H0 A0 S (σ ++ [some (.ref p)]) (ρ ++ [some (.imm (.tuple ds))]) (upd H p (.frz o (.tup xs))) A := by
  have M1 := M.new (o := .frz o (.tup xs)) hp
  refine M1.pushI (Den.tup (show TupAt _ _ _ _ by unfold TupAt; rw [if_pos hb]; exact ⟨o, hc, hd, upd_same⟩) (h.mono (fun _ q => q) (fun b ys _ e => ?_) fun a o t => tup_up (so := so) (S := S) (fun b x e _ => ?_) M.src t)) rfl
  · rw [upd_ne (ne_of_none e hp)]; exact e
  · rw [upd_ne (ne_of_none e hp)]; exact e
theorem Mt.mkT (M : Mt K so H0 A0 S σ ρ H A) {xs : List V} {ds : List PyData} {Q : VK} (h : DenL K H A xs ds) (fin : ∀ v H', Mt K so H0 A0 S (σ ++ [some v]) (ρ ++ [some (.imm (.tuple ds))]) H' A → Q v H') : MkT H xs Q := by
  by_cases hb : strsT ds = true
  · exact .inr fun p o hp hc hd => fin _ _ (M.newF hp h hb hc hd)
  · exact .inl fun p hp => fin _ _ (M.newT hp h (by simpa using hb))
theorem Mt.newL (M : Mt K so H0 A0 S σ ρ H A) {p : Addr} {xs : List V} {ds : List PyData} (hp : H p = none) (h : DenL K H A xs ds) : Mt K so H0 A0 S (σ ++ [some (.ref p)]) (ρ ++ [some (.lst ds)]) (upd H p (.lst xs)) A := by
  have M1 := M.new (o := .lst xs) hp
  refine M1.push ⟨p, xs, rfl, upd_same, M.nA hp, M.h0 hp, h.mono (fun _ q => q) (fun b ys _ e => ?_) fun a o t => tup_up (so := so) (S := S) (fun b x e _ => ?_) M.src t⟩ fun _ => M.fresh hp
  · rw [upd_ne (ne_of_none e hp)]; exact e
  · rw [upd_ne (ne_of_none e hp)]; exact e
/-- slots taken from others -/
theorem Mt.re (M : Mt K so H0 A0 S σ ρ H A) (f : Nat → Nat) (hl : σ'.length = ρ'.length) (h : ∀ (i : Nat) (b : Bd), ρ'[i]? = some (some b) → ρ[f i]? = some (some b) ∧ σ'[i]? = σ[f i]?)
    (hi : ∀ (i j : Nat) (b b' : Bd), i ≠ j → ρ'[i]? = some (some b) → ρ'[j]? = some (some b') → b.own = true → b'.own = true → f i ≠ f j) : Mt K so H0 A0 S σ' ρ' H A where
  len := hl
  keep := M.keep
  a0 := M.a0
  an := M.an
  fz := M.fz
  ns := M.ns
  so0 := M.so0
  src := M.src
  bd := fun i b e => by
    obtain ⟨e1, e2⟩ := h i b e
    obtain ⟨v, e3, o⟩ := M.bd _ b e1
    exact ⟨v, e2.trans e3, o⟩
  sep := fun i j b b' v ne e1 e2 o1 o2 e3 e4 => by
    obtain ⟨p1, p2⟩ := h i b e1
    obtain ⟨q1, q2⟩ := h j b' e2
    exact M.sep _ _ b b' v (hi i j b b' ne e1 e2 o1 o2) p1 q1 o1 o2 (p2.symm.trans e3) (q2.symm.trans e4)
theorem Mt.sub {xs : Sl} {ys : En} (M : Mt K so H0 A0 S (σ ++ xs) (ρ ++ ys) H A) (hl : σ.length = ρ.length) : Mt K so H0 A0 S σ ρ H A :=
  M.re id hl (fun i b e => by
    have hi : i < ρ.length := by
      rcases Nat.lt_or_ge i ρ.length with z | z
      · exact z
      · rw [List.getElem?_eq_none z] at e; cases e
    exact ⟨by show (ρ ++ ys)[i]? = _; rw [List.getElem?_append_left hi]; exact e, by show _ = (σ ++ xs)[i]?; rw [List.getElem?_append_left (by omega)]⟩) fun i j _ _ ne _ _ _ _ => ne
/-- what stands between falls away -/
theorem Mt.cut {xs : Sl} {ys : En} {x : Option V} {y : Option Bd} (M : Mt K so H0 A0 S (σ ++ xs ++ [x]) (ρ ++ ys ++ [y]) H A) (hl : σ.length = ρ.length) (hx : xs.length = ys.length) : Mt K so H0 A0 S (σ ++ [x]) (ρ ++ [y]) H A := by
  refine M.re (fun i => if i < ρ.length then i else ρ.length + ys.length) (by simp [hl]) (fun i b e => ?_) (fun i j b b' ne e1 e2 _ _ => ?_)
  · show (ρ ++ ys ++ [y])[if i < ρ.length then i else ρ.length + ys.length]? = _ ∧ _ = (σ ++ xs ++ [x])[if i < ρ.length then i else ρ.length + ys.length]?
    by_cases hi : i < ρ.length
    · rw [if_pos hi]
      rw [List.getElem?_append_left hi] at e
      refine ⟨?_, ?_⟩
      · rw [List.append_assoc, List.getElem?_append_left hi]; exact e
      · rw [List.append_assoc, List.getElem?_append_left (by omega), List.getElem?_append_left (by omega)]
    · rw [if_neg hi]
      rw [List.getElem?_append_right (by omega)] at e
      have z : i - ρ.length = 0 := by
        cases h : i - ρ.length with
        | zero => rfl
        | succ n => rw [h] at e; simp at e
      rw [z] at e
      refine ⟨?_, ?_⟩
      · rw [List.getElem?_append_right (by simp), List.length_append, Nat.sub_self]; exact e
      · rw [List.getElem?_append_right (by omega), List.getElem?_append_right (by simp; omega), List.length_append, show i - σ.length = 0 by omega, show ρ.length + ys.length - (σ.length + xs.length) = 0 by omega]
  · have last : ∀ {k : Nat} {d : Bd}, ¬ k < ρ.length → (ρ ++ [y])[k]? = some (some d) → k = ρ.length := fun {k d} hk e => by
      rw [List.getElem?_append_right (by omega)] at e
      cases h : k - ρ.length with
      | zero => omega
      | succ n => rw [h] at e; simp at e
    show (if i < ρ.length then i else ρ.length + ys.length) ≠ (if j < ρ.length then j else ρ.length + ys.length)
    by_cases hi : i < ρ.length <;> by_cases hj : j < ρ.length
    · rw [if_pos hi, if_pos hj]; exact ne
    · rw [if_pos hi, if_neg hj]; omega
    · rw [if_neg hi, if_pos hj]; omega
    · have := last hi e1; have := last hj e2; omega
/-- a slot takes the last value -/
theorem Mt.asg {xs : Sl} {ys : En} {x : V} {y : Bd} (M : Mt K so H0 A0 S (σ ++ xs ++ [some x]) (ρ ++ ys ++ [some y]) H A) (hl : σ.length = ρ.length) (hx : xs.length = ys.length) (i : Nat) :
    Mt K so H0 A0 S (σ.set i (some x) ++ xs) (ρ.set i (some y) ++ ys) H A := by
  have key : ∀ (k : Nat) (b : Bd), (ρ.set i (some y) ++ ys)[k]? = some (some b) → (k = i ∧ i < ρ.length ∧ b = y) ∨ (¬ (k = i ∧ i < ρ.length) ∧ k < ρ.length + ys.length ∧ (ρ ++ ys ++ [some y])[k]? = some (some b)) := fun k b e => by
    by_cases hk : k < ρ.length
    · rw [List.getElem?_append_left (by simpa using hk)] at e
      by_cases z : k = i
      · subst z
        rw [List.getElem?_set_self hk] at e
        cases e
        exact .inl ⟨rfl, hk, rfl⟩
      · rw [List.getElem?_set_ne (Ne.symm z)] at e
        exact .inr ⟨fun q => z q.1, by omega, by rw [List.append_assoc, List.getElem?_append_left hk]; exact e⟩
    · rw [List.getElem?_append_right (by simp; omega), List.length_set] at e
      have hk2 : k - ρ.length < ys.length := by
        rcases Nat.lt_or_ge (k - ρ.length) ys.length with z | z
        · exact z
        · rw [List.getElem?_eq_none z] at e; cases e
      exact .inr ⟨fun q => hk (by omega), by omega, by rw [List.append_assoc, List.getElem?_append_right (by omega), List.getElem?_append_left hk2]; exact e⟩
  refine M.re (fun k => if k = i ∧ i < ρ.length then ρ.length + ys.length else k) (by simp; omega) (fun k b e => ?_) (fun k j b b' ne e1 e2 _ _ => ?_)
  · show (ρ ++ ys ++ [some y])[if k = i ∧ i < ρ.length then ρ.length + ys.length else k]? = _ ∧ _ = (σ ++ xs ++ [some x])[if k = i ∧ i < ρ.length then ρ.length + ys.length else k]?
    rcases key k b e with ⟨rfl, h1, rfl⟩ | ⟨h1, h2, h3⟩
    · rw [if_pos ⟨rfl, h1⟩]
      refine ⟨by rw [List.getElem?_append_right (by simp), List.length_append, Nat.sub_self]; rfl, ?_⟩
      rw [List.getElem?_append_left (by simp; omega), List.getElem?_set_self (by omega), List.getElem?_append_right (by simp; omega), List.length_append, show ρ.length + ys.length - (σ.length + xs.length) = 0 by omega]
      rfl
    · rw [if_neg h1]
      refine ⟨h3, ?_⟩
      rw [List.getElem?_append_left (l₁ := σ ++ xs) (by rw [List.length_append]; omega)]
      by_cases hk : k < σ.length
      · rw [List.getElem?_append_left (by simpa using hk), List.getElem?_append_left hk, List.getElem?_set_ne]
        intro z; exact h1 ⟨z.symm, by omega⟩
      · rw [List.getElem?_append_right (by simp; omega), List.getElem?_append_right (by omega), List.length_set]
  · show (if k = i ∧ i < ρ.length then ρ.length + ys.length else k) ≠ (if j = i ∧ i < ρ.length then ρ.length + ys.length else j)
    rcases key k b e1 with ⟨a1, a2, _⟩ | ⟨a1, a2, _⟩ <;> rcases key j b' e2 with ⟨c1, c2, _⟩ | ⟨c1, c2, _⟩
    · omega
    · rw [if_pos ⟨a1, a2⟩, if_neg c1]; omega
    · rw [if_neg a1, if_pos ⟨c1, c2⟩]; omega
    · rw [if_neg a1, if_neg c1]; exact ne
/-- a slot is left -/
theorem Mt.unset (M : Mt K so H0 A0 S σ ρ H A) (i : Nat) : Mt K so H0 A0 S σ (ρ.set i none) H A :=
  M.re id (by simp [M.len]) (fun k b e => by
    by_cases z : k = i
    · subst z
      by_cases h : k < ρ.length
      · rw [List.getElem?_set_self h] at e; cases e
      · rw [List.getElem?_eq_none (by simpa using h)] at e; cases e
    · rw [List.getElem?_set_ne (Ne.symm z)] at e
      exact ⟨e, rfl⟩) fun i j _ _ ne _ _ _ _ => ne
/-- what is wiped -/
theorem Mt.weak (M : Mt K so H0 A0 S σ ρ H A) (hl : σ'.length = ρ'.length) (h : ∀ (i : Nat) (b : Bd), ρ'[i]? = some (some b) → ρ[i]? = some (some b) ∧ σ'[i]? = σ[i]?) : Mt K so H0 A0 S σ' ρ' H A :=
  M.re id hl h fun i j _ _ ne _ _ _ _ => ne
/-- an own list is frozen -/
theorem Mt.frz (M : Mt K so H0 A0 S σ ρ H A) {i : Nat} {ds : List PyData} (h : ρ[i]? = some (some (.lst ds))) : ∃ A', Mt K so H0 A0 S σ (ρ.set i (some (.imm (.list ds)))) H A' := by
  obtain ⟨v, e1, a, vs, rfl, ha, na, h0, hd⟩ := M.bd i _ h
  have hi : i < ρ.length := by
    rcases Nat.lt_or_ge i ρ.length with z | z
    · exact z
    · rw [List.getElem?_eq_none z] at h; cases h
  refine ⟨fun b => A b ∨ b = a, ⟨by simp [M.len], M.keep, fun b q => .inl (M.a0 b q), fun b q => ?_, fun b q => ?_, fun b q => ?_, M.so0, M.src, fun k c e => ?_, fun k j c c' w ne e2 e3 o1 o2 e4 => ?_⟩⟩
  · rcases q with q | rfl
    · exact M.an b q
    · exact .inr h0
  · rcases q with q | rfl
    · exact M.fz b q
    · exact ⟨_, ha⟩
  · rcases q with q | rfl
    · exact M.ns b q
    · exact M.n0 h0
  · by_cases z : k = i
    · subst z
      rw [List.getElem?_set_self hi] at e
      cases e
      refine ⟨_, e1, Den.lst (.inr rfl) ha (hd.mono (fun _ q => .inl q) (fun _ _ _ q => q) fun _ _ _ q => q)⟩
    · rw [List.getElem?_set_ne (Ne.symm z)] at e
      obtain ⟨w, e5, o⟩ := M.bd k c e
      refine ⟨w, e5, o.up (H' := H) (fun _ _ q _ => q) M.src M.so0 M.ns (fun _ q => .inl q) fun a' ho ev na' q => ?_⟩
      rcases q with q | rfl
      · exact na' q
      · subst ev
        exact M.sep k i c _ _ z e h ho rfl e5 e1
  · have old : ∀ {k : Nat} {c : Bd}, (ρ.set i (some (.imm (.list ds))))[k]? = some (some c) → c.own = true → ρ[k]? = some (some c) := fun {k c} e ho => by
      by_cases z : k = i
      · subst z
        rw [List.getElem?_set_self hi] at e
        cases e
        cases ho
      · rw [List.getElem?_set_ne (Ne.symm z)] at e; exact e
    exact M.sep k j c c' w ne (old e2 o1) (old e3 o2) o1 o2 e4
/-- an own list is changed -/
theorem Mt.mut (M : Mt K so H0 A0 S σ ρ H A) {i : Nat} {ds ds' : List PyData} {a : Addr} {vs' : List V} (nb : ∀ (j : Nat) (es : List PyData), ρ[j]? = some (some (.bor es)) → σ[j]? ≠ some (some (.ref a))) (h : ρ[i]? = some (some (.lst ds))) (hv : σ[i]? = some (some (.ref a))) (hd' : DenL K H A vs' ds') :
    Mt K so H0 A0 S σ (ρ.set i (some (.lst ds'))) (upd H a (.lst vs')) A := by
  obtain ⟨v, e1, a', vs, rfl, ha, na, h0, hd⟩ := M.bd i _ h
  rw [hv] at e1
  cases e1
  have hi : i < ρ.length := by
    rcases Nat.lt_or_ge i ρ.length with z | z
    · exact z
    · rw [List.getElem?_eq_none z] at h; cases h
  have nh := M.n0 h0
  have hAk : ∀ b xs, A b → H b = some (.lst xs) → upd H a (.lst vs') b = some (.lst xs) := fun b xs hb e => by
    rw [upd_ne (show b ≠ a from fun z => na (by rw [← z]; exact hb))]; exact e
  have hT : ∀ c o, tupHO o = true → H c = some o → upd H a (.lst vs') c = some o := fun c o t q => by
    rw [upd_ne (ne_of q ha (by intro z; subst z; cases t))]; exact q
  refine ⟨by simp [M.len], fun b x e n => ?_, M.a0, M.an, fun b q => ?_, M.ns, M.so0, M.src.keepd fun b q => upd_ne (show b ≠ a from fun z => nh (by rw [← z]; exact q)), fun k c e => ?_, fun k j c c' w ne e2 e3 o1 o2 e4 => ?_⟩
  · rw [upd_ne (fun z => by rw [z, h0] at e; cases e)]; exact M.keep b x e n
  · obtain ⟨xs, z⟩ := M.fz b q
    exact ⟨xs, hAk b xs q z⟩
  · by_cases z : k = i
    · subst z
      rw [List.getElem?_set_self hi] at e
      cases e
      exact ⟨_, hv, a, vs', rfl, upd_same, na, h0, hd'.mono (fun _ q => q) hAk hT⟩
    · rw [List.getElem?_set_ne (Ne.symm z)] at e
      obtain ⟨w, e5, o⟩ := M.bd k c e
      refine ⟨w, e5, ?_⟩
      have nea : ∀ a2, w = .ref a2 → c.own = true → a2 ≠ a := fun a2 ew ho q => by
        subst q; subst ew
        exact M.sep k i c _ _ z e h ho rfl e5 hv
      cases c with
      | imm d => exact Den.mono (fun _ q => q) hAk hT o
      | bor es =>
        obtain ⟨a2, vs2, rfl, g1, g2, g3⟩ := o
        have ne : a2 ≠ a := fun q => nb k es e (by rw [e5, q])
        exact ⟨a2, vs2, rfl, by rw [upd_ne ne]; exact g1, g2, g3.mono (fun _ q => q) hAk hT⟩
      | lst ds2 =>
        obtain ⟨a2, vs2, rfl, g1, g2, g3, g4⟩ := o
        exact ⟨a2, vs2, rfl, by rw [upd_ne (nea a2 rfl rfl)]; exact g1, g2, g3, g4.mono (fun _ q => q) hAk hT⟩
      | dk kvs =>
        obtain ⟨a2, kv, rfl, g1, g2, g3, g4⟩ := o
        exact ⟨a2, kv, rfl, by rw [upd_ne (nea a2 rfl rfl)]; exact g1, g2, g3, Paired.mapP g4 fun p q z => ⟨z.1, Den.mono (fun _ q => q) hAk hT z.2⟩⟩
      | dt kvs =>
        obtain ⟨a2, kv, rfl, g1, g2, g3, g4⟩ := o
        exact ⟨a2, kv, rfl, by rw [upd_ne (nea a2 rfl rfl)]; exact g1, g2, g3, Paired.mapP g4 fun p q z => ⟨z.1, Den.mono (fun _ q => q) hAk hT z.2⟩⟩
      | src => exact o
      | ref _ => exact o
      | wr _ => exact o
  · have old : ∀ {k : Nat} {c : Bd}, (ρ.set i (some (.lst ds')))[k]? = some (some c) → c.own = true → ∃ c2, ρ[k]? = some (some c2) ∧ c2.own = true := fun {k c} e ho => by
      by_cases z : k = i
      · subst z
        exact ⟨_, h, rfl⟩
      · rw [List.getElem?_set_ne (Ne.symm z)] at e; exact ⟨c, e, ho⟩
    obtain ⟨d1, f1, f2⟩ := old e2 o1
    obtain ⟨d2, f3, f4⟩ := old e3 o2
    exact M.sep k j d1 d2 w ne f1 f3 f2 f4 e4
end
end DL
set_option maxRecDepth 100000
set_option maxHeartbeats 2000000
/-! DB: the judgements of the data layer, expressions, tests, argument lists. -/
namespace DL
open PySem PySem.Spec PyProof.Rows L2

inductive R (α : Type) where
  | ok (a : α) (ρ : En) (S : Src)
  | bad
namespace R
def bind {α β : Type} (r : R α) (k : α → En → Src → R β) : R β := match r with
  | .ok a ρ S => k a ρ S
  | .bad => .bad
def Post {α : Type} (r : R α) (P : α → En → Src → Prop) : Prop := match r with
  | .ok a ρ S => P a ρ S
  | .bad => False
def of {α : Type} (o : Option α) (ρ : En) (S : Src) : R α := match o with
  | some a => .ok a ρ S
  | none => .bad
theorem post_bind {α β : Type} {r : R α} {k : α → En → Src → R β} {P : β → En → Src → Prop} : (r.bind k).Post P ↔ r.Post fun a ρ S => (k a ρ S).Post P := by
  cases r <;> exact Iff.rfl
theorem post_of {α : Type} {o : Option α} {ρ : En} {S : Src} {P : α → En → Src → Prop} : (R.of o ρ S).Post P ↔ ∃ a, o = some a ∧ P a ρ S := by
  cases o with
  | none => exact ⟨fun h => h.elim, fun ⟨_, e, _⟩ => nomatch e⟩
  | some a => exact ⟨fun h => ⟨a, rfl, h⟩, fun ⟨_, e, h⟩ => by cases e; exact h⟩
theorem Post.imp {α : Type} {r : R α} {P P' : α → En → Src → Prop} (h : r.Post P) (f : ∀ a ρ S, P a ρ S → P' a ρ S) : r.Post P' := by
  cases r with
  | ok a ρ S => exact f _ _ _ h
  | bad => exact h
theorem Post.get {α : Type} {r : R α} {P : α → En → Src → Prop} (h : r.Post P) : ∃ a ρ S, r = .ok a ρ S ∧ P a ρ S := by
  cases r with
  | ok a ρ S => exact ⟨a, ρ, S, rfl, h⟩
  | bad => exact h.elim
end R
abbrev SE := En → Src → R Bd
abbrev SA := En → Src → R (List Bd)
abbrev SB := En → Src → R Bool
inductive Fl where
  | nx | rt (b : Bd) | bk | ct
abbrev SS := En → Src → R Fl

section
variable (K : PySem.W.Frag) (so : SO)
def RdE (t : TE) (f : SE) : Prop := ∀ (H0 : Hp) (A0 : Addr → Prop) (S : Src) (σ : Sl) (ρ : En) (tv : Sl) (tb : En) (H : Hp) (A : Addr → Prop) (Q : VK), σ.length = ρ.length → Mt K so H0 A0 S (σ ++ tv) (ρ ++ tb) H A →
  (f ρ S).Post (fun b ρ' S' => ∀ v H' A', σ.length = ρ'.length → Mt K so H0 A0 S' (σ ++ tv ++ [some v]) (ρ' ++ tb ++ [some b]) H' A' → Q v H') → t σ H Q
def RdT (t : TT) (f : SB) : Prop := ∀ (H0 : Hp) (A0 : Addr → Prop) (S : Src) (σ : Sl) (ρ : En) (tv : Sl) (tb : En) (H : Hp) (A : Addr → Prop) (Q : Bool → Hp → Prop), σ.length = ρ.length → Mt K so H0 A0 S (σ ++ tv) (ρ ++ tb) H A →
  (f ρ S).Post (fun c ρ' S' => ∀ H' A', σ.length = ρ'.length → Mt K so H0 A0 S' (σ ++ tv) (ρ' ++ tb) H' A' → Q c H') → t σ H Q
def RdA (t : TA) (f : SA) : Prop := ∀ (H0 : Hp) (A0 : Addr → Prop) (S : Src) (σ : Sl) (ρ : En) (tv : Sl) (tb : En) (H : Hp) (A : Addr → Prop) (Q : List V → Hp → Prop), σ.length = ρ.length → Mt K so H0 A0 S (σ ++ tv) (ρ ++ tb) H A →
  (f ρ S).Post (fun bs ρ' S' => ∀ vs H' A', σ.length = ρ'.length → vs.length = bs.length → Mt K so H0 A0 S' (σ ++ tv ++ vs.map some) (ρ' ++ tb ++ bs.map some) H' A' → Q vs H') → t σ H Q
end
structure DE (X : Cx) (so : SO) (e : Expr) (t : TE) (f : SE) : Prop where
  pe : PE X e t
  rd : RdE X.K so t f
structure DT (X : Cx) (so : SO) (e : Expr) (t : TT) (f : SB) : Prop where
  pt : PT X e t
  rd : RdT X.K so t f
structure DW (X : Cx) (so : SO) (e : Expr) (t : TT) (f : SB) : Prop where
  pw : PW X e t
  rd : RdT X.K so t f
structure DAr (X : Cx) (so : SO) (es : List Expr) (t : TA) (f : SA) : Prop where
  pa : PA X es t
  rd : RdA X.K so t f

/-! ### what a value holds -/
def toD : Bd → Option PyData
  | .imm d => some d
  | .bor ds => some (.list ds)
  | .lst ds => some (.list ds)
  | .wr d => some d
  | _ => none
def toL : Bd → Option (List PyData)
  | .imm (.list ds) => some ds
  | .bor ds => some ds
  | .lst ds => some ds
  | _ => none
/-- as data for good -/
def toF : Bd → Option PyData
  | .imm d => some d
  | .lst ds => some (.list ds)
  | _ => none
/-- a binding that is frozen where it can be -/
def frzB : Bd → Bd
  | .lst ds => .imm (.list ds)
  | b => b
/-- what may be stored -/
def stB : Bd → Option Bd
  | .bor _ => none
  | b => some b
theorem sqL_k {K : PySem.W.Frag} {H : Hp} {a : Addr} {xs : List V} (h : SqL K (fun _ => none) a xs) : SqL K H a xs := by
  rcases h with (h | ⟨o, h⟩) | h
  · cases h
  · cases h
  · exact .inr h
theorem sqT_k {K : PySem.W.Frag} {H : Hp} {a : Addr} {xs : List V} (h : SqT K (fun _ => none) a xs) : SqT K H a xs := by
  rcases h with (h | ⟨o, h⟩) | h
  · cases h
  · cases h
  · exact .inr h
mutual
theorem dp_k {K : PySem.W.Frag} {H : Hp} : ∀ {d : PyData} {v : V}, Dp K (fun _ => none) v d → Dp K H v d
  | .none, _, h => by cases h; exact .non
  | .bool b, _, h => by cases h; exact .bl b
  | .int i, _, h => by cases h; exact .int i
  | .str x, _, h => by cases h; exact .str x
  | .list ds, _, h => by
    cases h with
    | lst hs hl => exact .lst (sqL_k hs) (dpAll_k hl)
  | .tuple ds, _, h => by
    cases h with
    | tup hs hl => exact .tup (sqT_k hs) (dpAll_k hl)
  | .dict _, _, h => by cases h
theorem dpAll_k {K : PySem.W.Frag} {H : Hp} : ∀ {ds : List PyData} {vs : List V}, DpAll K (fun _ => none) vs ds → DpAll K H vs ds
  | [], _, h => by cases h; exact .nil
  | d :: ds, _, h => by
    cases h with
    | cons h1 h2 => exact .cons (dp_k h1) (dpAll_k h2)
end
section
variable {K : PySem.W.Frag} {so : SO} {H0 H H' : Hp} {A0 A A' : Addr → Prop} {S S' : Src} {σ σ' tv : Sl} {ρ ρ' tb : En} {v x y : V} {b c : Bd}
theorem OOk.dp {d : PyData} (h : OOk K so H0 H A v b) (e : toD b = some d) : Dp K H v d := by
  cases b with
  | imm d => cases e; exact Den.dp h
  | bor ds => cases e; obtain ⟨a, vs, rfl, ha, _, hd⟩ := h; exact .lst (SqL.of ha) hd.dp
  | lst ds => cases e; obtain ⟨a, vs, rfl, ha, _, _, hd⟩ := h; exact .lst (SqL.of ha) hd.dp
  | wr d => cases e; exact dp_k h
  | dk _ => cases e
  | dt _ => cases e
  | src => cases e
  | ref _ => cases e
theorem OOk.lstI {ds : List PyData} (h : OOk K so H0 H A v b) (e : toL b = some ds) : ∃ a vs, v = .ref a ∧ H a = some (.lst vs) ∧ DenL K H A vs ds := by
  cases b with
  | imm d =>
    cases d with
    | list es => cases e; cases h with | lst ha hh hl => exact ⟨_, _, rfl, hh, hl⟩
    | _ => cases e
  | bor ds => cases e; obtain ⟨a, vs, rfl, ha, _, hd⟩ := h; exact ⟨a, vs, rfl, ha, hd⟩
  | lst ds => cases e; obtain ⟨a, vs, rfl, ha, _, _, hd⟩ := h; exact ⟨a, vs, rfl, ha, hd⟩
  | wr _ => cases e
  | dk _ => cases e
  | dt _ => cases e
  | src => cases e
  | ref _ => cases e
theorem OOk.tupI {ds : List PyData} (h : OOk K so H0 H A v (.imm (.tuple ds))) : ∃ a vs, v = .ref a ∧ TupAt H a vs (strsT ds) ∧ DenL K H A vs ds := by
  cases h with
  | tup hh hl => exact ⟨_, _, rfl, hh, hl⟩
theorem _root_.L2.Dp.intI {i : Int} (h : Dp K H v (.int i)) : v = .int i := by cases h; rfl
theorem _root_.L2.Dp.strI {i : Str} (h : Dp K H v (.str i)) : v = .str i := by cases h; rfl
theorem _root_.L2.Dp.blI {i : Bool} (h : Dp K H v (.bool i)) : v = .bl i := by cases h; rfl
theorem Mt.last (M : Mt K so H0 A0 S (σ ++ [some v]) (ρ ++ [some b]) H A) : OOk K so H0 H A v b := by
  have hl : σ.length = ρ.length := by have := M.len; simp at this; exact this
  obtain ⟨w, e, o⟩ := M.bd ρ.length b (by rw [List.getElem?_append_right (Nat.le_refl _), Nat.sub_self]; rfl)
  rw [← hl, List.getElem?_append_right (Nat.le_refl _), Nat.sub_self] at e
  simp at e
  subst e
  exact o
theorem Mt.init (M : Mt K so H0 A0 S (σ ++ [some v]) (ρ ++ [some b]) H A) : Mt K so H0 A0 S σ ρ H A := M.sub (by have := M.len; simp at this; exact this)
theorem Mt.len1 (M : Mt K so H0 A0 S (σ ++ [some v]) (ρ ++ [some b]) H A) : σ.length = ρ.length := by have := M.len; simp at this; exact this
/-- the last two, without the last but one -/
theorem Mt.cut1 (M : Mt K so H0 A0 S (σ ++ [some x] ++ [some v]) (ρ ++ [some c] ++ [some b]) H A) : Mt K so H0 A0 S (σ ++ [some v]) (ρ ++ [some b]) H A :=
  M.cut (by have := M.len; simp at this; exact this) rfl
theorem Mt.cut2 (M : Mt K so H0 A0 S (σ ++ [some x] ++ [some y] ++ [some v]) (ρ ++ [some c] ++ [some b'] ++ [some b]) H A) : Mt K so H0 A0 S (σ ++ [some v]) (ρ ++ [some b]) H A :=
  M.cut1.cut1
theorem Mt.slot (M : Mt K so H0 A0 S (σ ++ tv) (ρ ++ tb) H A) (hl : σ.length = ρ.length) {i : Nat} {b : Bd} (h : ρ[i]? = some (some b)) : ∃ v, σ[i]? = some (some v) ∧ OOk K so H0 H A v b := by
  have hi : i < ρ.length := by
    rcases Nat.lt_or_ge i ρ.length with z | z
    · exact z
    · rw [List.getElem?_eq_none z] at h; cases h
  obtain ⟨v, e, o⟩ := M.bd i b (by rw [List.getElem?_append_left hi]; exact h)
  exact ⟨v, by rw [List.getElem?_append_left (by omega)] at e; exact e, o⟩
theorem getlt {α : Type} {l : List α} {i : Nat} {x : α} (h : l[i]? = some x) : i < l.length := by
  rcases Nat.lt_or_ge i l.length with z | z
  · exact z
  · rw [List.getElem?_eq_none z] at h; cases h

/-! ### names, constants -/
/-- a name: an own list is borrowed -/
def fVar (i : Nat) : SE := fun ρ S => match ρ[i]? with
  | some (some (.lst ds)) => .ok (.bor ds) ρ S
  | some (some (.dk _)) => .bad
  | some (some (.dt _)) => .bad
  | some (some b) => .ok b ρ S
  | _ => .bad
theorem rd_var (i : Nat) : RdE K so (tVar i) (fVar i) := fun H0 A0 S σ ρ tv tb H A Q hl M h => by
  unfold fVar at h
  split at h
  · rename_i ds e
    obtain ⟨v, e1, o⟩ := M.slot hl e
    obtain ⟨a, vs, rfl, ha, na, h0, hd⟩ := o
    exact ⟨_, e1, h _ H A hl (M.pushI ⟨a, vs, rfl, ha, M.n0 h0, hd⟩ rfl)⟩
  · exact h.elim
  · exact h.elim
  · rename_i b n1 n2 n3 e
    obtain ⟨v, e1, o⟩ := M.slot hl e
    refine ⟨_, e1, h _ H A hl (M.push o fun ho => ?_)⟩
    cases b with
    | lst ds => exact (n1 ds rfl).elim
    | dk ds => exact (n2 ds rfl).elim
    | dt ds => exact (n3 ds rfl).elim
    | _ => cases ho
  · exact h.elim
/-- a name whose own list is frozen from here on -/
def fFrz (i : Nat) : SE := fun ρ S => match ρ[i]? with
  | some (some (.lst ds)) => .ok (.imm (.list ds)) (ρ.set i (some (.imm (.list ds)))) S
  | some (some (.dk _)) => .bad
  | some (some (.dt _)) => .bad
  | some (some b) => .ok b ρ S
  | _ => .bad
theorem set_app {α : Type} {l m : List α} {i : Nat} {x : α} (h : i < l.length) : (l ++ m).set i x = l.set i x ++ m := by
  rw [List.set_append, if_pos h]
theorem rd_frz (i : Nat) : RdE K so (tVar i) (fFrz i) := fun H0 A0 S σ ρ tv tb H A Q hl M h => by
  unfold fFrz at h
  split at h
  · rename_i ds e
    have hi := getlt e
    obtain ⟨v, e1, _⟩ := M.slot hl e
    obtain ⟨A', M'⟩ := M.frz (i := i) (ds := ds) (by rw [List.getElem?_append_left hi]; exact e)
    rw [set_app hi] at M'
    have hl' : σ.length = (ρ.set i (some (.imm (.list ds)))).length := by simpa using hl
    obtain ⟨v', e1', o⟩ := M'.slot hl' (i := i) (List.getElem?_set_self hi)
    rw [e1] at e1'
    cases e1'
    exact ⟨_, e1, h _ H A' hl' (M'.pushI o rfl)⟩
  · exact h.elim
  · exact h.elim
  · rename_i b n1 n2 n3 e
    obtain ⟨v, e1, o⟩ := M.slot hl e
    refine ⟨_, e1, h _ H A hl (M.push o fun ho => ?_)⟩
    cases b with
    | lst ds => exact (n1 ds rfl).elim
    | dk ds => exact (n2 ds rfl).elim
    | dt ds => exact (n3 ds rfl).elim
    | _ => cases ho
  · exact h.elim
/-- a name that is left by this -/
def fMov (i : Nat) : SE := fun ρ S => match ρ[i]? with
  | some (some b) => .ok b (ρ.set i none) S
  | _ => .bad
theorem rd_mov (i : Nat) : RdE K so (tVar i) (fMov i) := fun H0 A0 S σ ρ tv tb H A Q hl M h => by
  unfold fMov at h
  split at h
  · rename_i b e
    have hi := getlt e
    obtain ⟨v, e1, o⟩ := M.slot hl e
    have M' := M.unset i
    rw [set_app hi] at M'
    have hl' : σ.length = (ρ.set i none).length := by simpa using hl
    refine ⟨_, e1, h v H A hl' (M'.push o fun ho j b' ej hj ev => ?_)⟩
    by_cases z : j = i
    · subst z
      rw [List.getElem?_append_left (by simpa using hi), List.getElem?_set_self hi] at ej
      cases ej
    · have ej' : (ρ ++ tb)[j]? = some (some b') := by
        rw [← set_app hi, List.getElem?_set_ne (Ne.symm z)] at ej
        exact ej
      exact M.sep j i b' b v z ej' (by rw [List.getElem?_append_left hi]; exact e) hj ho ev (by rw [List.getElem?_append_left (by omega)]; exact e1)
  · exact h.elim
def fC (d : PyData) : SE := fun ρ S => .ok (.imm d) ρ S
theorem rd_c {d : PyData} (hv : ∀ H A, Den K H A v d) : RdE K so (tC v) (fC d) := fun H0 A0 S σ ρ tv tb H A Q hl M h => h v H A hl (M.pushI (hv H A) rfl)
/-- a written thing of the module -/
def fW (d : PyData) : SE := fun ρ S => .ok (.wr d) ρ S
theorem rd_w {d : PyData} (hv : Dp K (fun _ => none) v d) : RdE K so (tC v) (fW d) := fun H0 A0 S σ ρ tv tb H A Q hl M h => h v H A hl (M.pushI (b := .wr d) hv rfl)
def fRef (a : Addr) : SE := fun ρ S => .ok (.ref a) ρ S
theorem rd_ref {a : Addr} : RdE K so (tC (.ref a)) (fRef a) := fun H0 A0 S σ ρ tv tb H A Q hl M h => h _ H A hl (M.pushI (b := .ref a) rfl rfl)

/-! ### two values, one value -/
def OpS (K : PySem.W.Frag) (so : SO) (r : R2) (o : Bd → Bd → Option Bd) : Prop := ∀ (H0 : Hp) (A0 : Addr → Prop) (S : Src) (σ : Sl) (ρ : En) (H : Hp) (A : Addr → Prop) (x y : V) (bx by_ b : Bd) (Q : VK),
  Mt K so H0 A0 S (σ ++ [some x] ++ [some y]) (ρ ++ [some bx] ++ [some by_]) H A → o bx by_ = some b →
  (∀ v H' A', Mt K so H0 A0 S (σ ++ [some x] ++ [some y] ++ [some v]) (ρ ++ [some bx] ++ [some by_] ++ [some b]) H' A' → Q v H') → r x y H Q
def fOp (o : Bd → Bd → Option Bd) (fa fb : SE) : SE := fun ρ S => (fa ρ S).bind fun x ρ S => (fb ρ S).bind fun y ρ S => R.of (o x y) ρ S
theorem rd_op {r : R2} {o : Bd → Bd → Option Bd} {ta tb' : TE} {fa fb : SE} (ho : OpS K so r o) (ha : RdE K so ta fa) (hb : RdE K so tb' fb) : RdE K so (tOp r ta tb') (fOp o fa fb) := fun H0 A0 S σ ρ tv tb H A Q hl M h => by
  refine ha H0 A0 S σ ρ tv tb H A _ hl M ?_
  refine (R.post_bind.mp h).imp fun bx ρ1 S1 h v1 H1 A1 hl1 M1 => ?_
  refine hb H0 A0 S1 σ ρ1 (tv ++ [some v1]) (tb ++ [some bx]) H1 A1 _ hl1 (by simpa only [List.append_assoc] using M1) ?_
  refine (R.post_bind.mp h).imp fun by_ ρ2 S2 h v2 H2 A2 hl2 M2 => ?_
  obtain ⟨b, e, h⟩ := R.post_of.mp h
  have M2' : Mt K so H0 A0 S2 (σ ++ tv ++ [some v1] ++ [some v2]) (ρ2 ++ tb ++ [some bx] ++ [some by_]) H2 A2 := by simpa only [List.append_assoc] using M2
  exact ho H0 A0 S2 (σ ++ tv) (ρ2 ++ tb) H2 A2 v1 v2 bx by_ b Q M2' e fun v H' A' M' => h v H' A' hl2 M'.cut2
def UnS (K : PySem.W.Frag) (so : SO) (r : V → Hp → VK → Prop) (o : Bd → Option Bd) : Prop := ∀ (H0 : Hp) (A0 : Addr → Prop) (S : Src) (σ : Sl) (ρ : En) (H : Hp) (A : Addr → Prop) (x : V) (bx b : Bd) (Q : VK),
  Mt K so H0 A0 S (σ ++ [some x]) (ρ ++ [some bx]) H A → o bx = some b →
  (∀ v H' A', Mt K so H0 A0 S (σ ++ [some x] ++ [some v]) (ρ ++ [some bx] ++ [some b]) H' A' → Q v H') → r x H Q
def fUn (o : Bd → Option Bd) (fa : SE) : SE := fun ρ S => (fa ρ S).bind fun x ρ S => R.of (o x) ρ S
theorem rd_un {r : V → Hp → VK → Prop} {o : Bd → Option Bd} {ta : TE} {fa : SE} (ho : UnS K so r o) (ha : RdE K so ta fa) : RdE K so (fun σ H Q => ta σ H fun x H1 => r x H1 Q) (fUn o fa) := fun H0 A0 S σ ρ tv tb H A Q hl M h => by
  refine ha H0 A0 S σ ρ tv tb H A _ hl M ?_
  refine (R.post_bind.mp h).imp fun bx ρ1 S1 h v1 H1 A1 hl1 M1 => ?_
  obtain ⟨b, e, h⟩ := R.post_of.mp h
  exact ho H0 A0 S1 (σ ++ tv) (ρ1 ++ tb) H1 A1 v1 bx b Q M1 e fun v H' A' M' => h v H' A' hl1 M'.cut1

/-! ### argument lists, displays -/
def aNil : SA := fun ρ S => .ok [] ρ S
def aCons (fa : SE) (fr : SA) : SA := fun ρ S => (fa ρ S).bind fun b ρ S => (fr ρ S).bind fun bs ρ S => .ok (b :: bs) ρ S
theorem rda_nil : RdA K so tNil aNil := fun H0 A0 S σ ρ tv tb H A Q hl M h => h [] H A hl rfl (by simpa using M)
theorem rda_cons {ta : TE} {tr : TA} {fa : SE} {fr : SA} (ha : RdE K so ta fa) (hr : RdA K so tr fr) : RdA K so (tCons ta tr) (aCons fa fr) := fun H0 A0 S σ ρ tv tb H A Q hl M h => by
  refine ha H0 A0 S σ ρ tv tb H A _ hl M ?_
  refine (R.post_bind.mp h).imp fun b ρ1 S1 h v1 H1 A1 hl1 M1 => ?_
  refine hr H0 A0 S1 σ ρ1 (tv ++ [some v1]) (tb ++ [some b]) H1 A1 _ hl1 (by simpa only [List.append_assoc] using M1) ?_
  refine (R.post_bind.mp h).imp fun bs ρ2 S2 h vs H2 A2 hl2 hn M2 => ?_
  exact h (v1 :: vs) H2 A2 hl2 (by simp [hn]) (by simpa [List.append_assoc] using M2)
def toFs : List Bd → Option (List PyData)
  | [] => some []
  | b :: bs => match toF b, toFs bs with
    | some d, some ds => some (d :: ds)
    | _, _ => none
/-- a row of values frozen -/
theorem Mt.frzs : ∀ {bs : List Bd} {vs : List V} {ds : List PyData} {σ : Sl} {ρ : En} {A : Addr → Prop}, Mt K so H0 A0 S (σ ++ vs.map some) (ρ ++ bs.map some) H A → σ.length = ρ.length → toFs bs = some ds →
    ∃ A', Mt K so H0 A0 S (σ ++ vs.map some) (ρ ++ (ds.map fun d => some (Bd.imm d))) H A' ∧ DenL K H A' vs ds
  | [], vs, ds, σ, ρ, A, M, hl, e => by
    cases e
    have : vs = [] := by
      have := M.len
      simp [hl] at this
      exact this
    subst this
    exact ⟨A, M, .nil⟩
  | b :: bs, vs, ds, σ, ρ, A, M, hl, e => by
    cases vs with
    | nil => have := M.len; simp [hl] at this
    | cons v vs =>
    simp only [toFs] at e
    cases eb : toF b with
    | none => rw [eb] at e; cases e
    | some d =>
    cases er : toFs bs with
    | none => rw [eb, er] at e; cases e
    | some es =>
    rw [eb, er] at e
    cases e
    have M' : Mt K so H0 A0 S (σ ++ [some v] ++ vs.map some) (ρ ++ [some b] ++ bs.map some) H A := by simpa using M
    have one : ∃ A', Mt K so H0 A0 S (σ ++ [some v] ++ vs.map some) (ρ ++ [some (.imm d)] ++ bs.map some) H A' := by
      cases b with
      | imm d' => cases eb; exact ⟨A, M'⟩
      | lst ds' =>
        cases eb
        obtain ⟨A', M2⟩ := M'.frz (i := ρ.length) (ds := ds') (by rw [List.append_assoc, List.getElem?_append_right (Nat.le_refl _), Nat.sub_self]; rfl)
        refine ⟨A', ?_⟩
        rw [set_app (by simp), List.set_append, if_neg (by omega), Nat.sub_self] at M2
        exact M2
      | _ => cases eb
    obtain ⟨A1, M1⟩ := one
    obtain ⟨A2, M2, D2⟩ := Mt.frzs (σ := σ ++ [some v]) (ρ := ρ ++ [some (.imm d)]) M1 (by simp [hl]) er
    refine ⟨A2, by simpa using M2, .cons ?_ D2⟩
    have M3 := M2.sub (by simp [hl])
    exact M3.last
def tupB (bs : List Bd) : Option Bd := match toFs bs with
  | some ds => if ds.length ≤ 1000 then some (.imm (.tuple ds)) else none
  | none => none
def lstB (bs : List Bd) : Option Bd := match toFs bs with
  | some ds => if ds.length ≤ 1000 then some (.lst ds) else none
  | none => none
def fAr (o : List Bd → Option Bd) (fa : SA) : SE := fun ρ S => (fa ρ S).bind fun bs ρ S => R.of (o bs) ρ S
theorem Mt.cutN {vs : List V} {bs : List Bd} (M : Mt K so H0 A0 S (σ ++ vs.map some ++ [some v]) (ρ ++ bs.map some ++ [some b]) H A) (hl : σ.length = ρ.length) (hn : vs.length = bs.length) : Mt K so H0 A0 S (σ ++ [some v]) (ρ ++ [some b]) H A :=
  M.cut hl (by simp [hn])
theorem lim1000 {n : Nat} (h : n ≤ 1000) : n ≤ sizeLine := Nat.le_of_lt (small1000 h)
theorem rd_tup {ta : TA} {fa : SA} (ha : RdA K so ta fa) : RdE K so (tTupC ta) (fAr tupB fa) := fun H0 A0 S σ ρ tv tb H A Q hl M h => by
  refine ha H0 A0 S σ ρ tv tb H A _ hl M ?_
  refine (R.post_bind.mp h).imp fun bs ρ1 S1 h vs H1 A1 hl1 hn M1 => ?_
  obtain ⟨b, e, h⟩ := R.post_of.mp h
  unfold tupB at e
  cases ef : toFs bs with
  | none => rw [ef] at e; cases e
  | some ds =>
    rw [ef] at e
    simp only at e
    split at e
    · rename_i hz
      cases e
      have hlt : (σ ++ tv).length = (ρ1 ++ tb).length := by have := M1.len; simp at this ⊢; omega
      obtain ⟨A2, M2, D2⟩ := M1.frzs hlt ef
      refine ⟨lim1000 (by rw [DenL.length D2]; exact hz), M2.mkT D2 fun v H' M3 => ?_⟩
      exact h v _ A2 hl1 (M3.cut hlt (by simp [DenL.length D2]))
    · cases e
theorem rd_lst {ta : TA} {fa : SA} (ha : RdA K so ta fa) : RdE K so (tLst ta) (fAr lstB fa) := fun H0 A0 S σ ρ tv tb H A Q hl M h => by
  refine ha H0 A0 S σ ρ tv tb H A _ hl M ?_
  refine (R.post_bind.mp h).imp fun bs ρ1 S1 h vs H1 A1 hl1 hn M1 => ?_
  obtain ⟨b, e, h⟩ := R.post_of.mp h
  unfold lstB at e
  cases ef : toFs bs with
  | none => rw [ef] at e; cases e
  | some ds =>
    rw [ef] at e
    simp only at e
    split at e
    · rename_i hz
      cases e
      have hlt : (σ ++ tv).length = (ρ1 ++ tb).length := by have := M1.len; simp at this ⊢; omega
      obtain ⟨A2, M2, D2⟩ := M1.frzs hlt ef
      refine ⟨lim1000 (by rw [DenL.length D2]; exact hz), fun p hp => ?_⟩
      have M3 := M2.newL hp D2
      exact h (.ref p) _ A2 hl1 (M3.cut hlt (by simp [DenL.length D2]))
    · cases e
/-- a call of a built-in, by values -/
def CaS (K : PySem.W.Frag) (so : SO) (r : List V → Hp → VK → Prop) (o : List Bd → Option Bd) : Prop := ∀ (H0 : Hp) (A0 : Addr → Prop) (S : Src) (σ : Sl) (ρ : En) (H : Hp) (A : Addr → Prop) (vs : List V) (bs : List Bd) (b : Bd) (Q : VK), σ.length = ρ.length → vs.length = bs.length →
  Mt K so H0 A0 S (σ ++ vs.map some) (ρ ++ bs.map some) H A → o bs = some b →
  (∀ v H' A', Mt K so H0 A0 S (σ ++ vs.map some ++ [some v]) (ρ ++ bs.map some ++ [some b]) H' A' → Q v H') → r vs H Q
theorem rd_ca {r : List V → Hp → VK → Prop} {o : List Bd → Option Bd} {ta : TA} {fa : SA} (ho : CaS K so r o) (ha : RdA K so ta fa) : RdE K so (fun σ H Q => ta σ H fun xs H1 => r xs H1 Q) (fAr o fa) := fun H0 A0 S σ ρ tv tb H A Q hl M h => by
  refine ha H0 A0 S σ ρ tv tb H A _ hl M ?_
  refine (R.post_bind.mp h).imp fun bs ρ1 S1 h vs H1 A1 hl1 hn M1 => ?_
  obtain ⟨b, e, h⟩ := R.post_of.mp h
  have hlt : (σ ++ tv).length = (ρ1 ++ tb).length := by have := M1.len; simp at this ⊢; omega
  exact ho H0 A0 S1 (σ ++ tv) (ρ1 ++ tb) H1 A1 vs bs b Q hlt hn M1 e fun v H' A' M' => h v H' A' hl1 (M'.cutN hlt hn)
/-- .. of one value -/
theorem CaS.of1 {r : List V → Hp → VK → Prop} {o : Bd → Option Bd} (h : UnS K so (fun x H Q => r [x] H Q) o) : CaS K so r (fun bs => match bs with | [b] => o b | _ => none) := fun H0 A0 S σ ρ H A vs bs b Q hl hn M e q => by
  match bs, vs, hn with
  | [bx], [x], _ => exact h H0 A0 S σ ρ H A x bx b Q (by simpa using M) e fun v H' A' M' => q v H' A' (by simpa using M')
  | [], _, _ => cases e
  | _ :: _ :: _, _, _ => cases e
theorem CaS.of2 {r : List V → Hp → VK → Prop} {o : Bd → Bd → Option Bd} (h : OpS K so (fun x y H Q => r [x, y] H Q) o) : CaS K so r (fun bs => match bs with | [b, c] => o b c | _ => none) := fun H0 A0 S σ ρ H A vs bs b Q hl hn M e q => by
  match bs, vs, hn with
  | [bx, by_], [x, y], _ => exact h H0 A0 S σ ρ H A x y bx by_ b Q (by simpa using M) e fun v H' A' M' => q v H' A' (by simpa using M')
  | [], _, _ => cases e
  | [_], _, _ => cases e
  | _ :: _ :: _ :: _, _, _ => cases e

/-! ### tests -/
def fTest (fe : SE) : SB := fun ρ S => (fe ρ S).bind fun b ρ S => match b with
  | .imm (.bool c) => .ok c ρ S
  | _ => .bad
theorem rdt_val {te : TE} {fe : SE} (h : RdE K so te fe) : RdT K so (tB te) (fTest fe) := fun H0 A0 S σ ρ tv tb H A Q hl M q => by
  refine h H0 A0 S σ ρ tv tb H A _ hl M ?_
  refine (R.post_bind.mp q).imp fun b ρ1 S1 q v1 H1 A1 hl1 M1 => ?_
  split at q
  · rename_i c
    have o := M1.last
    cases o
    exact ⟨c, rfl, q H1 A1 hl1 M1.init⟩
  · exact q.elim
def bAnd (f g : SB) : SB := fun ρ S => (f ρ S).bind fun c ρ S => if c = true then g ρ S else .ok false ρ S
def bOr (f g : SB) : SB := fun ρ S => (f ρ S).bind fun c ρ S => if c = true then .ok true ρ S else g ρ S
def bNot (f : SB) : SB := fun ρ S => (f ρ S).bind fun c ρ S => .ok (!c) ρ S
theorem rdt_and {t u : TT} {f g : SB} (h1 : RdT K so t f) (h2 : RdT K so u g) : RdT K so (tAnd t u) (bAnd f g) := fun H0 A0 S σ ρ tv tb H A Q hl M q => by
  refine h1 H0 A0 S σ ρ tv tb H A _ hl M ?_
  refine (R.post_bind.mp q).imp fun c ρ1 S1 q H1 A1 hl1 M1 => ?_
  cases c with
  | true => rw [if_pos rfl] at q ⊢; exact h2 H0 A0 S1 σ ρ1 tv tb H1 A1 Q hl1 M1 q
  | false => rw [if_neg Bool.false_ne_true] at q ⊢; exact q H1 A1 hl1 M1
theorem rdt_or {t u : TT} {f g : SB} (h1 : RdT K so t f) (h2 : RdT K so u g) : RdT K so (tOr t u) (bOr f g) := fun H0 A0 S σ ρ tv tb H A Q hl M q => by
  refine h1 H0 A0 S σ ρ tv tb H A _ hl M ?_
  refine (R.post_bind.mp q).imp fun c ρ1 S1 q H1 A1 hl1 M1 => ?_
  cases c with
  | true => rw [if_pos rfl] at q ⊢; exact q H1 A1 hl1 M1
  | false => rw [if_neg Bool.false_ne_true] at q ⊢; exact h2 H0 A0 S1 σ ρ1 tv tb H1 A1 Q hl1 M1 q
theorem rdt_not {t : TT} {f : SB} (h1 : RdT K so t f) : RdT K so (tNot t) (bNot f) := fun H0 A0 S σ ρ tv tb H A Q hl M q => by
  refine h1 H0 A0 S σ ρ tv tb H A _ hl M ?_
  exact (R.post_bind.mp q).imp fun c ρ1 S1 q H1 A1 hl1 M1 => q H1 A1 hl1 M1
/-- a if c else b -/
def fIf (c : SB) (f g : SE) : SE := fun ρ S => (c ρ S).bind fun k ρ S => if k = true then f ρ S else g ρ S
theorem rd_if {tc : TT} {ta tb' : TE} {c : SB} {f g : SE} (hc : RdT K so tc c) (h1 : RdE K so ta f) (h2 : RdE K so tb' g) : RdE K so (tIf tc ta tb') (fIf c f g) := fun H0 A0 S σ ρ tv tb H A Q hl M q => by
  refine hc H0 A0 S σ ρ tv tb H A _ hl M ?_
  refine (R.post_bind.mp q).imp fun k ρ1 S1 q H1 A1 hl1 M1 => ?_
  cases k with
  | true => rw [if_pos rfl] at q ⊢; exact h1 H0 A0 S1 σ ρ1 tv tb H1 A1 Q hl1 M1 q
  | false => rw [if_neg Bool.false_ne_true] at q ⊢; exact h2 H0 A0 S1 σ ρ1 tv tb H1 A1 Q hl1 M1 q
/-- and, or, not of truth values, as values -/
def fAnd (f g : SE) : SE := fun ρ S => (f ρ S).bind fun b ρ S => match b with
  | .imm (.bool c) => if c = true then g ρ S else .ok (.imm (.bool false)) ρ S
  | _ => .bad
def fOr (f g : SE) : SE := fun ρ S => (f ρ S).bind fun b ρ S => match b with
  | .imm (.bool c) => if c = true then .ok (.imm (.bool true)) ρ S else g ρ S
  | _ => .bad
def fNot (f : SE) : SE := fun ρ S => (f ρ S).bind fun b ρ S => match b with
  | .imm (.bool c) => .ok (.imm (.bool (!c))) ρ S
  | _ => .bad
theorem rd_and {ta tb' : TE} {f g : SE} (h1 : RdE K so ta f) (h2 : RdE K so tb' g) : RdE K so (tAndV ta tb') (fAnd f g) := fun H0 A0 S σ ρ tv tb H A Q hl M q => by
  refine h1 H0 A0 S σ ρ tv tb H A _ hl M ?_
  refine (R.post_bind.mp q).imp fun b ρ1 S1 q v1 H1 A1 hl1 M1 => ?_
  split at q
  · rename_i c
    have o := M1.last
    cases o
    refine ⟨c, rfl, ?_⟩
    cases c with
    | true => rw [if_pos rfl] at q ⊢; exact h2 H0 A0 S1 σ ρ1 tv tb H1 A1 Q hl1 M1.init q
    | false => rw [if_neg Bool.false_ne_true] at q ⊢; exact q _ H1 A1 hl1 M1
  · exact q.elim
theorem rd_or {ta tb' : TE} {f g : SE} (h1 : RdE K so ta f) (h2 : RdE K so tb' g) : RdE K so (tOrV ta tb') (fOr f g) := fun H0 A0 S σ ρ tv tb H A Q hl M q => by
  refine h1 H0 A0 S σ ρ tv tb H A _ hl M ?_
  refine (R.post_bind.mp q).imp fun b ρ1 S1 q v1 H1 A1 hl1 M1 => ?_
  split at q
  · rename_i c
    have o := M1.last
    cases o
    refine ⟨c, rfl, ?_⟩
    cases c with
    | true => rw [if_pos rfl] at q ⊢; exact q _ H1 A1 hl1 M1
    | false => rw [if_neg Bool.false_ne_true] at q ⊢; exact h2 H0 A0 S1 σ ρ1 tv tb H1 A1 Q hl1 M1.init q
  · exact q.elim
theorem rd_not {ta : TE} {f : SE} (h1 : RdE K so ta f) : RdE K so (tNotV ta) (fNot f) := fun H0 A0 S σ ρ tv tb H A Q hl M q => by
  refine h1 H0 A0 S σ ρ tv tb H A _ hl M ?_
  refine (R.post_bind.mp q).imp fun b ρ1 S1 q v1 H1 A1 hl1 M1 => ?_
  split at q
  · rename_i c
    have o := M1.last
    cases o
    exact ⟨c, rfl, q _ H1 A1 hl1 (M1.init.pushI (Den.bl _) rfl)⟩
  · exact q.elim
end
end DL
set_option maxRecDepth 100000
set_option maxHeartbeats 2000000
/-! DC: what a def promises by data; its call; operators, built-ins by data. -/
namespace DL
open PySem PySem.Spec PyProof.Rows L2

/-- room, and no display under way -/
structure Rm (k : Nat) (A : Around) : Prop where
  room : Room k A
  gd : A.guards = some []
theorem Rm.mono {j k : Nat} {A : Around} (r : Rm k A) (h : j ≤ k) : Rm j A := ⟨r.room.mono h, r.gd⟩
theorem Rm.deeper {k : Nat} {A : Around} (r : Rm (k + 1) A) (env : PySem.Env) : Rm k (A.deeper env) := ⟨r.room.deeper env, r.gd⟩
theorem Rm.hu {k : Nat} {A : Around} (r : Rm k A) : A.units + 1 < cLine := hu_of r.room
/-- a def's promise at A's without displays -/
structure FnG (P : Program) (w : World) (K : PySem.W.Frag) (mg : Str → Option Value) (base : Heap) (k : Nat) (f : Addr) (fd : FuncData) (ps : List Str) (sp : Sp) : Prop where
  len : ∀ vs H Q E, sp vs H Q E → vs.length = ps.length
  run : ∀ (A : Around) (outer : List PySem.Env) (s : Shared) (H : Hp) (args : Args) (us : List Value) (vs : List V) (Q : VK), Rm k A → Env0 P w K mg base A outer s H → BindsTo s fd args (ps.zip us) → Vals vs us → sp vs H Q E0 →
    codeAny (model P w) A (.call (.ref f) args) (CR CX0 outer P w H s Q E0) s
section
variable {P : Program} {w : World} {K : PySem.W.Frag} {mg : Str → Option Value} {base : Heap}
theorem FnG.mono {j k : Nat} {f : Addr} {fd : FuncData} {ps : List Str} {sp : Sp} (F : FnG P w K mg base j f fd ps sp) (h : j ≤ k) : FnG P w K mg base k f fd ps sp :=
  ⟨F.len, fun A outer s H args us vs Q hr => F.run A outer s H args us vs Q (hr.mono h)⟩
theorem FnG.ofOk {k : Nat} {f : Addr} {fd : FuncData} {ps : List Str} {sp : Sp} (F : FnOk P w K mg base CX0 k f fd ps sp) : FnG P w K mg base k f fd ps sp :=
  ⟨F.len, fun A outer s H args us vs Q hr e0 hb r h => F.run A outer s H args us vs Q E0 hr.room e0 hb r h⟩
/-- by the body -/
theorem FnG.body {x qual : Str} {st : Stmt} {f : Addr} {fd : FuncData} {N ps : List Str} {k : Nat} {sp : Sp} (F : Fun K x qual st f fd) (S : FnScope N ps (defScope st)) (len : ∀ vs H Q E, sp vs H Q E → vs.length = ps.length)
    (hb : ∀ (cdv : Value) (A : Around) (outer : List PySem.Env) (s : Shared) (H : Hp) (vs : List V) (Q : VK), Rm k (A.deeper (envOfC qual (defScope st) s.heap.objs.size f cdv)) → sp vs H Q E0 →
      ∃ t, PSs (cxOf CX0 P w K mg base N qual (defScope st) f cdv A outer s H E0).nox (defBody st) t ∧ t { nx := fun _ H' => Q .non H', rt := Q } (start N vs) H) : FnG P w K mg base (k + 1) f fd ps sp := by
  obtain ⟨oc, od, kV, doc, pm, an, cdv, ct, osl, rfl, lk, hcd⟩ := F.ex
  constructor
  · exact len
  intro A outer s H args us vs Q hr e0 hbd r hsp
  have hl := len _ _ _ _ hsp
  have hin : K.In s.heap := e0.mod.kin.keeps fun b o e => (e0.bs b o e).1
  have hlim : s.heap.NoLimit := e0.mod.nolimit.keeps fun b o e => (e0.bs b o e).1
  have kinds : ∀ y ∈ ps.zip us, (defScope st).names.lookup y.1 = some .local ∨ ((defScope st).names.lookup y.1 = some .cell ∧ ((cellsFrom (s.heap.objs.size + 1) (defScope st).names []).lookup y.1).isSome = true) := by
    rintro ⟨n, v⟩ hy
    exact (S.par n (List.of_mem_zip hy).1).imp id fun q => ⟨q, PySem.W.cellsFrom_some _ _ _ (.inl q)⟩
  apply codeAny_call_function hr.room.depth (hin _ _ lk) rfl S.co S.gen rfl (PySem.W.codeRec_of hin hcd) (hbd _ _ _ _ ?_)
  apply wpAny_newFunctionEnv_cells S.kind kinds
  rintro env rfl s1 x
  refine ⟨hlim.keeps x.toInCall.keep, codeAny_func ?_⟩
  obtain ⟨t, ht, hq⟩ := hb cdv A outer s H vs Q (hr.deeper _) hsp
  have I0 : Inv (cxOf CX0 P w K mg base N qual (defScope st) f cdv A outer s H E0) [] (start N vs) H s1 := inv_start S hr.room.hd e0 hl r x
  refine wpAny_mono (ht.nox.run [] s1 (start N vs) H _ I0 hq) ?_ fun e s' hs => hs
  intro fl s' hs
  cases fl with
  | ret u => obtain ⟨v, σ', H', J, rv, q⟩ := hs; exact ⟨v, H', J.os, J.bare, J.base, J.hok, rv, q⟩
  | next => obtain ⟨σ', H', J, q⟩ := hs; exact ⟨V.non, H', J.os, J.bare, J.base, J.hok, rfl, q⟩
  | brk => obtain ⟨_, _, _, q⟩ := hs; exact q.elim
  | cont => obtain ⟨_, _, _, q⟩ := hs; exact q.elim
end
section
variable {X : Cx} {k : Nat} {f : Addr} {fd : FuncData} {ps : List Str} {sp : Sp} {x : Str} {p pos : Pos} {e : Expr} {es : List Expr} {t : TA}
theorem runG {pins : List (Addr × Obj)} {σ : Sl} {H : Hp} {s : Shared} {Q : VK} {us : List Value} {vs : List V} (F : FnG X.prog X.w X.K X.mg X.base k f fd ps sp) (hr : Rm k X.A) (hb : Binds X.K fd ps [])
    (I : Inv X pins σ H s) (r : Vals vs us) (h : sp vs H Q E0) : wpAny (model X.prog X.w) X.A (call (.ref f) us) (EP X pins σ Q) X.xe s := by
  have hl : us.length = ps.length := by rw [← r.length]; exact F.len _ _ _ _ h
  have bt : BindsTo s fd ⟨us, []⟩ (ps.zip us) := by
    have := hb s us I.kIn (by simpa using hl)
    simpa using this
  refine wpAny_call (codeAny_mono (F.run X.A X.stack s H ⟨us, []⟩ us vs Q hr I.env0 bt r h) ?_)
  intro r s' hq
  cases r with
  | error e => exact hq.elim
  | ok fl => cases fl with
    | ret u => exact I.after hq
    | _ => exact hq.elim
theorem pe_callG (F : FnG X.prog X.w X.K X.mg X.base k f fd ps sp) (hr : Rm k X.A) (hg : Gl X x) (hm : X.mg x = some (.ref f)) (hk : PySem.W.keepIn X.K (.ref f) = true) (hb : Binds X.K fd ps [])
    (ha : PA X (e :: es) t) (hdb : (x == ("__debug__" : Str)) = false := by decide) (he : starEach (e :: es) X.env = (false, eval e X.env) :: starEach es X.env := by rfl) (hpl : (backTo pos (starEach es X.env)).any (·.1) = false := by rfl) :
    PE X (.Call (.Name x p) (e :: es) [] pos) (fun σ H Q => t σ H fun vs H1 => sp vs H1 Q E0) := by
  constructor
  intro pins s σ H Q I h
  apply wpAny_Call_Name_kw (ld_glob I hg hm ?_ hdb)
  refine PySem.W.callWith_K (h₀ := X.base) I.ok.mod.kin hk (thn (ha.run pos pins s σ H _ I h) ?_) he hpl
  rintro us s1 ⟨vs, H1, I1, r, q⟩
  exact ⟨I1.kIn, runG F hr hb I1 r q⟩
theorem pe_callG0 (F : FnG X.prog X.w X.K X.mg X.base k f fd ps sp) (hr : Rm k X.A) (hg : Gl X x) (hm : X.mg x = some (.ref f)) (hk : PySem.W.keepIn X.K (.ref f) = true) (hb : Binds X.K fd ps [])
    (hdb : (x == ("__debug__" : Str)) = false := by decide) : PE X (.Call (.Name x p) [] [] pos) (fun σ H Q => sp [] H Q E0) := by
  constructor
  intro pins s σ H Q I h
  apply wpAny_Call_Name_kw (ld_glob I hg hm ?_ hdb)
  exact PySem.W.callWith_K0 I.kIn hk (runG (us := []) F hr hb I .nil h)
end

/-! ### promises by data -/
abbrev FD := List Bd → Src → Option (Bd × Src)
def Bd.arg : Bd → Option Bd
  | .imm d => some (.imm d)
  | .bor ds => some (.imm (.list ds))
  | .lst ds => some (.imm (.list ds))
  | .src => some .src
  | .ref a => some (.ref a)
  | .wr d => some (.wr d)
  | .dk _ => none
  | .dt _ => none
def argsB : List Bd → Option (List Bd)
  | [] => some []
  | b :: bs => match b.arg, argsB bs with
    | some c, some cs => some (c :: cs)
    | _, _ => none
/-- lent: its list is the caller's own -/
def Bd.lent : Bd → Bool
  | .bor _ => true
  | .lst _ => true
  | _ => false
def Bd.plain : Bd → Bool
  | .imm d => noL d
  | .lst ds => noLs ds
  | .dk _ => false
  | .dt _ => false
  | .bor _ => false
  | _ => true
def Bd.back : Bd → Bool
  | .dk _ => false
  | .dt _ => false
  | .bor _ => false
  | _ => true
def spD (K : PySem.W.Frag) (so : SO) (F : FD) : Sp := fun vs H Q _ => ∃ (bs : List Bd) (S : Src) (A : Addr → Prop), Mt K so H A S (vs.map some) (bs.map some) H A ∧
  match F bs S with
  | some (b, S') => ∀ v H' A', Mt K so H A S' [some v] [some b] H' A' → Q v H'
  | none => False
/-- THE PROMISE of a def by data -/
def FnD (P : Program) (w : World) (K : PySem.W.Frag) (mg : Str → Option Value) (base : Heap) (k : Nat) (f : Addr) (fd : FuncData) (ps : List Str) (F : FD) : Prop := ∀ so : SO, FnG P w K mg base k f fd ps (spD K so F)
/-- the call by data -/
def fCall (F : FD) (fa : SA) : SE := fun ρ S => (fa ρ S).bind fun bs ρ S => match argsB bs with
  | none => .bad
  | some cs => match F cs S with
    | none => .bad
    | some (b, S') => if (b.back && (!(bs.any Bd.lent) || b.plain)) = true then .ok b ρ S' else .bad
section
variable {K : PySem.W.Frag} {so : SO} {H0 H H' : Hp} {A0 A A' : Addr → Prop} {S S' : Src} {σ σ' tv : Sl} {ρ ρ' tb : En} {v x y : V} {b c : Bd}
theorem argsB_get : ∀ {bs cs : List Bd}, argsB bs = some cs → cs.length = bs.length ∧ ∀ (i : Nat) (c : Bd), cs[i]? = some c → ∃ b, bs[i]? = some b ∧ b.arg = some c
  | [], cs, e => by cases e; exact ⟨rfl, fun i c q => by simp at q⟩
  | b :: bs, cs, e => by
    simp only [argsB] at e
    cases eb : b.arg with
    | none => rw [eb] at e; cases e
    | some c0 =>
    cases er : argsB bs with
    | none => rw [eb, er] at e; cases e
    | some cr =>
    rw [eb, er] at e
    cases e
    obtain ⟨h1, h2⟩ := argsB_get er
    refine ⟨by simp [h1], fun i c q => ?_⟩
    cases i with
    | zero => simp at q; subst q; exact ⟨b, rfl, eb⟩
    | succ i => exact h2 i c (by simpa using q)
theorem Bd.arg_own {b c : Bd} (h : b.arg = some c) : c.own = false := by
  cases b <;> simp [Bd.arg] at h <;> subst h <;> rfl
theorem rd_call {F : FD} {ta : TA} {fa : SA} (ha : RdA K so ta fa) : RdE K so (fun σ H Q => ta σ H fun vs H1 => spD K so F vs H1 Q E0) (fCall F fa) := fun H0 A0 S σ ρ tv tb H A Q hl M h => by
  refine ha H0 A0 S σ ρ tv tb H A _ hl M ?_
  refine (R.post_bind.mp h).imp fun bs ρ1 S1 h vs H1 A1 hl1 hn M1 => ?_
  have hlt : (σ ++ tv).length = (ρ1 ++ tb).length := by have := M1.len; simp at this ⊢; omega
  cases ea : argsB bs with
  | none => rw [ea] at h; exact h.elim
  | some cs =>
  rw [ea] at h
  simp only at h
  obtain ⟨hcl, hcs⟩ := argsB_get ea
  have argAt : ∀ (i : Nat) (b : Bd), bs[i]? = some b → ∃ v, vs[i]? = some v ∧ OOk K so H0 H1 A1 v b := fun i b e => by
    obtain ⟨v, e1, o⟩ := M1.bd ((ρ1 ++ tb).length + i) b (by rw [List.getElem?_append_right (by omega), Nat.add_sub_cancel_left, List.getElem?_map, e]; rfl)
    rw [← hlt, List.getElem?_append_right (by omega), Nat.add_sub_cancel_left, List.getElem?_map] at e1
    cases ev : vs[i]? with
    | none => rw [ev] at e1; cases e1
    | some v' => rw [ev] at e1; simp at e1; subst e1; exact ⟨_, rfl, o⟩
  let Ac : Addr → Prop := fun b => A1 b ∨ ∃ (i : Nat) (c : Bd), bs[i]? = some c ∧ c.lent = true ∧ vs[i]? = some (.ref b)
  have lentAt : ∀ {a : Addr} {i : Nat} {c : Bd}, bs[i]? = some c → c.lent = true → vs[i]? = some (.ref a) → (∃ xs, H1 a = some (.lst xs)) ∧ ¬ Has so a := fun {a i c} e1 e2 e3 => by
    obtain ⟨v, e4, o⟩ := argAt i c e1
    rw [e3] at e4
    cases e4
    cases c with
    | bor ds => obtain ⟨a', xs, q, ha', nh, _⟩ := o; cases q; exact ⟨⟨xs, ha'⟩, nh⟩
    | lst ds => obtain ⟨a', xs, q, ha', _, h0, _⟩ := o; cases q; exact ⟨⟨xs, ha'⟩, M1.n0 h0⟩
    | _ => cases e2
  have Mc : Mt K so H1 Ac S1 (vs.map some) (cs.map some) H1 Ac := by
    refine ⟨by simp [hn, hcl], fun b x e _ => e, fun b q => q, fun b q => .inl q, fun b q => ?_, fun b q => ?_, fun b q => ?_, M1.src, fun i c e => ?_, fun i j c c' v ne e1 e2 o1 o2 => ?_⟩
    · rcases q with q | ⟨i, c, e1, e2, e3⟩
      · exact M1.fz b q
      · exact (lentAt e1 e2 e3).1
    · rcases q with q | ⟨i, c, e1, e2, e3⟩
      · exact M1.ns b q
      · exact (lentAt e1 e2 e3).2
    · rcases q.src M1.src with ⟨_, z⟩ | ⟨_, z⟩ <;> exact ⟨_, z⟩
    · rw [List.getElem?_map] at e
      cases ec : cs[i]? with
      | none => rw [ec] at e; cases e
      | some c' =>
      rw [ec] at e
      simp at e
      subst e
      obtain ⟨b, eb, ab⟩ := hcs i c' ec
      obtain ⟨v, ev, o⟩ := argAt i b eb
      refine ⟨v, by rw [List.getElem?_map, ev]; rfl, ?_⟩
      have mono : ∀ {d : PyData} {v : V}, Den K H1 A1 v d → Den K H1 Ac v d := fun h => h.mono (fun _ q => .inl q) (fun _ _ _ q => q) fun _ _ _ q => q
      have monoL : ∀ {ds : List PyData} {v : List V}, DenL K H1 A1 v ds → DenL K H1 Ac v ds := fun h => h.mono (fun _ q => .inl q) (fun _ _ _ q => q) fun _ _ _ q => q
      cases b with
      | imm d => cases ab; exact mono o
      | bor ds => cases ab; obtain ⟨a, xs, rfl, g1, g2, g3⟩ := o; exact Den.lst (.inr ⟨i, _, eb, rfl, ev⟩) g1 (monoL g3)
      | lst ds => cases ab; obtain ⟨a, xs, rfl, g1, g2, g3, g4⟩ := o; exact Den.lst (.inr ⟨i, _, eb, rfl, ev⟩) g1 (monoL g4)
      | src => cases ab; exact o
      | ref a => cases ab; exact o
      | wr d => cases ab; exact o
      | dk _ => cases ab
      | dt _ => cases ab
    · have own : ∀ {i : Nat} {c : Bd}, (cs.map some)[i]? = some (some c) → c.own = true → False := fun {i c} e o => by
        rw [List.getElem?_map] at e
        cases ec : cs[i]? with
        | none => rw [ec] at e; cases e
        | some c' =>
        rw [ec] at e
        simp at e
        subst e
        obtain ⟨b, _, ab⟩ := hcs i c' ec
        rw [Bd.arg_own ab] at o
        cases o
      exact (own e1 o1).elim
  refine ⟨cs, S1, Ac, Mc, ?_⟩
  cases eF : F cs S1 with
  | none => rw [eF] at h; exact h.elim
  | some r =>
  obtain ⟨b, S2⟩ := r
  rw [eF] at h
  simp only at h ⊢
  split at h
  · rename_i hb
    intro v H2 A2 M2
    have g := M2.last (σ := []) (ρ := [])
    simp only [Bool.and_eq_true, Bool.or_eq_true, Bool.not_eq_true'] at hb
    obtain ⟨hbk, hpl⟩ := hb
    let A3 : Addr → Prop := fun b => A1 b ∨ (A2 b ∧ H1 b = none)
    have keep : ∀ b x, H1 b = some x → ¬ Has so b → H2 b = some x := M2.keep
    have M3 : Mt K so H0 A0 S2 (σ ++ tv ++ vs.map some) (ρ1 ++ tb ++ bs.map some) H2 A3 := by
      refine M1.up keep M2.src (fun _ q => .inl q) (fun b q => q.imp id fun z => z.2) (fun b q => ?_) fun b q => ?_
      · rcases q with q | q
        · obtain ⟨xs, z⟩ := M1.fz b q
          exact ⟨xs, keep _ _ z (M1.ns b q)⟩
        · exact M2.fz b q.1
      · rcases q with q | q
        · exact M1.ns b q
        · exact M2.ns b q.1
    have noLent : bs.any Bd.lent = false → ∀ a, A2 a → A3 a := fun z a q => by
      rcases M2.an a q with (q1 | ⟨i, c, e1, e2, _⟩) | q1
      · exact .inl q1
      · have : bs.any Bd.lent = true := List.any_eq_true.mpr ⟨c, List.mem_of_getElem? e1, e2⟩
        rw [z] at this; cases this
      · exact .inr ⟨q, q1⟩
    have res : OOk K so H0 H2 A3 v b := by
      cases b with
      | imm d =>
        rcases hpl with z | z
        · exact Den.mono (noLent z) (fun _ _ _ q => q) (fun _ _ _ q => q) g
        · exact Den.anyA z g
      | lst ds =>
        obtain ⟨a, xs, rfl, g1, g2, g3, g4⟩ := g
        refine ⟨a, xs, rfl, g1, fun q => ?_, M1.h0 g3, ?_⟩
        · rcases q with q | q
          · exact M1.nA g3 q
          · exact g2 q.1
        · rcases hpl with z | z
          · exact DenL.mono (noLent z) (fun _ _ _ q => q) (fun _ _ _ q => q) g4
          · exact DenL.anyA z g4
      | src => exact g
      | ref a => exact g
      | wr d => exact g
      | dk _ => cases hbk
      | dt _ => cases hbk
      | bor _ => cases hbk
    have M4 := M3.push res fun ho i b' e1 o1 => by
      obtain ⟨a, _, rfl, _, h0, _⟩ := g.there ho
      exact M1.fresh h0 i b' e1 o1
    exact h v H2 A3 hl1 (M4.cut hlt (by simp [hn]))
  · exact h.elim
end
end DL
set_option maxRecDepth 100000
set_option maxHeartbeats 2000000
/-! DD: statements of the data layer; loops; a def by its body. -/
namespace DL
open PySem PySem.Spec PyProof.Rows L2

def NB (tb : En) : Prop := ∀ b : Bd, some b ∈ tb → b.isBor = false
def nbE : En → Bool
  | [] => true
  | none :: r => nbE r
  | some b :: r => !b.isBor && nbE r
theorem nbE_nb : ∀ {ρ : En}, nbE ρ = true → NB ρ
  | [], _, b, h => by cases h
  | none :: r, e, b, h => by
    rcases List.mem_cons.mp h with z | z
    · cases z
    · exact nbE_nb (ρ := r) e b z
  | some c :: r, e, b, h => by
    simp only [nbE, Bool.and_eq_true, Bool.not_eq_true'] at e
    rcases List.mem_cons.mp h with z | z
    · cases z; exact e.1
    · exact nbE_nb e.2 b z
/-- slots but some are as they were -/
structure Off (is : List Nat) (σ σ' : Sl) : Prop where
  len : σ'.length = σ.length
  off : ∀ j, j ∉ is → σ'[j]? = σ[j]?
section
variable (K : PySem.W.Frag) (so : SO)
/-- a statement's end -/
def EndOk (H0 : Hp) (A0 : Addr → Prop) (tv : Sl) (tb : En) (D : Ends) (fl : Fl) (ρ : En) (S : Src) : Prop := match fl with
  | .nx => ∀ (σ : Sl) H A, σ.length = ρ.length → Mt K so H0 A0 S (σ ++ tv) (ρ ++ tb) H A → D.nx σ H
  | .bk => ∀ (σ : Sl) H A, σ.length = ρ.length → Mt K so H0 A0 S (σ ++ tv) (ρ ++ tb) H A → D.bk σ H
  | .ct => ∀ (σ : Sl) H A, σ.length = ρ.length → Mt K so H0 A0 S (σ ++ tv) (ρ ++ tb) H A → D.ct σ H
  | .rt b => ∀ (σ : Sl) v H A, σ.length = ρ.length → Mt K so H0 A0 S (σ ++ tv ++ [some v]) (ρ ++ tb ++ [some b]) H A → D.rt v H
def RdS (t : TS) (g : SS) : Prop := ∀ (H0 : Hp) (A0 : Addr → Prop) (S : Src) (σ : Sl) (ρ : En) (tv : Sl) (tb : En) (H : Hp) (A : Addr → Prop) (D : Ends), σ.length = ρ.length → NB tb → Mt K so H0 A0 S (σ ++ tv) (ρ ++ tb) H A →
  (g ρ S).Post (EndOk K so H0 A0 tv tb D) → t D σ H
/-- a target -/
def RdG (g : TG) (s : Bd → En → Option En) (is : List Nat) : Prop := ∀ (H0 : Hp) (A0 : Addr → Prop) (S : Src) (σ : Sl) (ρ ρ' : En) (tv : Sl) (tb : En) (H : Hp) (A : Addr → Prop) (v : V) (b : Bd) (Q : Sl → Hp → Prop), σ.length = ρ.length →
  Mt K so H0 A0 S (σ ++ tv ++ [some v]) (ρ ++ tb ++ [some b]) H A → s b ρ = some ρ' → (∀ σ' H' A', σ'.length = ρ'.length → Off is σ σ' → Mt K so H0 A0 S (σ' ++ tv) (ρ' ++ tb) H' A' → Q σ' H') → g v σ H Q
def RdGs (g : TGs) (s : List Bd → En → Option En) (is : List Nat) : Prop := ∀ (H0 : Hp) (A0 : Addr → Prop) (S : Src) (σ : Sl) (ρ ρ' : En) (tv : Sl) (tb : En) (H : Hp) (A : Addr → Prop) (vs : List V) (bs : List Bd) (Q : Sl → Hp → Prop), σ.length = ρ.length → vs.length = bs.length →
  Mt K so H0 A0 S (σ ++ tv ++ vs.map some) (ρ ++ tb ++ bs.map some) H A → s bs ρ = some ρ' → (∀ σ' H' A', σ'.length = ρ'.length → Off is σ σ' → Mt K so H0 A0 S (σ' ++ tv) (ρ' ++ tb) H' A' → Q σ' H') → g vs σ H Q
end
structure DS (X : Cx) (so : SO) (st : Stmt) (t : TS) (g : SS) : Prop where
  ps : PS X st t
  rd : RdS X.K so t g
structure DSs (X : Cx) (so : SO) (st : List Stmt) (t : TS) (g : SS) : Prop where
  pss : PSs X st t
  rd : RdS X.K so t g
section
variable {K : PySem.W.Frag} {so : SO} {H0 H H' : Hp} {A0 A A' : Addr → Prop} {S S' : Src} {σ σ' tv : Sl} {ρ ρ' tb : En} {v x y : V} {b c : Bd}
/-! ### targets -/
def sName (i : Nat) (b : Bd) (ρ : En) : Option En := (stB b).map fun c => ρ.set i (some c)
theorem stB_eq {b c : Bd} (h : stB b = some c) : c = b := by cases b <;> simp [stB] at h <;> exact h.symm
theorem rdg_name (i : Nat) : RdG K so (gName i) (sName i) [i] := fun H0 A0 S σ ρ ρ' tv tb H A v b Q hl M e q => by
  unfold sName at e
  cases es : stB b with
  | none => rw [es] at e; cases e
  | some c =>
    rw [es] at e
    cases e
    have := stB_eq es
    subst this
    have hx : tv.length = tb.length := by have := M.len; simp at this; omega
    exact q _ H A (by simpa using hl) ⟨by simp, fun j hj => by rw [List.getElem?_set_ne]; intro z; exact hj (by simp [z])⟩ (M.asg hl hx i)
def sNil (bs : List Bd) (ρ : En) : Option En := match bs with
  | [] => some ρ
  | _ => none
def sCons (s : Bd → En → Option En) (r : List Bd → En → Option En) (bs : List Bd) (ρ : En) : Option En := match bs with
  | b :: bs => (s b ρ).bind fun ρ => r bs ρ
  | [] => none
theorem rdg_nil : RdGs K so gNil sNil [] := fun H0 A0 S σ ρ ρ' tv tb H A vs bs Q hl hn M e q => by
  cases bs with
  | nil =>
    cases e
    have : vs = [] := by simpa using hn
    subst this
    exact ⟨rfl, q σ H A hl ⟨rfl, fun _ _ => rfl⟩ (by simpa using M)⟩
  | cons b bs => cases e
/-- the values that wait stand behind -/
theorem Mt.swap {xs : Sl} {ys : En} {u : Option V} {d : Option Bd} (M : Mt K so H0 A0 S (σ ++ [u] ++ xs) (ρ ++ [d] ++ ys) H A) (hl : σ.length = ρ.length) (hx : xs.length = ys.length) : Mt K so H0 A0 S (σ ++ xs ++ [u]) (ρ ++ ys ++ [d]) H A := by
  have key : ∀ {α : Type} (l m : List α) (z : α) (i : Nat), (l ++ m ++ [z])[i]? = (l ++ [z] ++ m)[if i < l.length then i else if i < l.length + m.length then i + 1 else if i = l.length + m.length then l.length else i]? := fun {α} l m z i => by
    by_cases h1 : i < l.length
    · rw [if_pos h1, List.append_assoc, List.append_assoc, List.getElem?_append_left h1, List.getElem?_append_left h1]
    · rw [if_neg h1]
      by_cases h2 : i < l.length + m.length
      · rw [if_pos h2, List.getElem?_append_left (by simp; omega), List.getElem?_append_right (by omega), List.getElem?_append_right (by simp; omega)]
        congr 1
        rw [List.length_append, List.length_singleton]
        omega
      · rw [if_neg h2]
        by_cases h3 : i = l.length + m.length
        · rw [if_pos h3, List.getElem?_append_right (by simp; omega), List.append_assoc, List.getElem?_append_right (Nat.le_refl _)]
          rw [h3, List.length_append, Nat.sub_self, Nat.sub_self]
          rfl
        · rw [if_neg h3, List.getElem?_eq_none (by simp; omega), List.getElem?_eq_none (by simp; omega)]
  refine M.re (fun i => if i < ρ.length then i else if i < ρ.length + ys.length then i + 1 else if i = ρ.length + ys.length then ρ.length else i) (by simp [hl, hx]) (fun i b e => ⟨by rw [← key]; exact e, ?_⟩) fun i j b b' ne e1 e2 _ _ => ?_
  · have := key σ xs u i
    rw [hl, hx] at this
    exact this
  · have h1 := getlt e1
    have h2 := getlt e2
    simp at h1 h2
    show (if i < ρ.length then i else if i < ρ.length + ys.length then i + 1 else if i = ρ.length + ys.length then ρ.length else i) ≠ (if j < ρ.length then j else if j < ρ.length + ys.length then j + 1 else if j = ρ.length + ys.length then ρ.length else j)
    intro z
    (repeat' split at z) <;> omega
theorem rdg_cons {t : TG} {u : TGs} {s : Bd → En → Option En} {r : List Bd → En → Option En} {i1 i2 : List Nat} (h1 : RdG K so t s i1) (h2 : RdGs K so u r i2) : RdGs K so (gCons t u) (sCons s r) (i1 ++ i2) := fun H0 A0 S σ ρ ρ' tv tb H A vs bs Q hl hn M e q => by
  cases bs with
  | nil => cases e
  | cons b bs =>
    cases vs with
    | nil => cases hn
    | cons v vs =>
    simp only [sCons] at e
    cases e1 : s b ρ with
    | none => rw [e1] at e; cases e
    | some ρ1 =>
    rw [e1] at e
    have hx : tv.length = tb.length := by have := M.len; simp at this hn; omega
    have hn' : vs.length = bs.length := by simpa using hn
    have M' : Mt K so H0 A0 S (σ ++ tv ++ [some v] ++ vs.map some) (ρ ++ tb ++ [some b] ++ bs.map some) H A := by simpa using M
    have M2 := M'.swap (by simp; omega) (by simpa using hn')
    refine ⟨v, vs, rfl, ?_⟩
    refine h1 H0 A0 S σ ρ ρ1 (tv ++ vs.map some) (tb ++ bs.map some) H A v b _ hl (by simpa only [List.append_assoc] using M2) e1 ?_
    intro σ2 H2 A2 hl2 O2 M3
    exact h2 H0 A0 S σ2 ρ1 ρ' tv tb H2 A2 vs bs Q hl2 hn' (by simpa only [List.append_assoc] using M3) e fun σ3 H3 A3 hl3 O3 M4 => q σ3 H3 A3 hl3 ⟨O3.len.trans O2.len, fun j hj => by simp at hj; rw [O3.off j hj.2, O2.off j hj.1]⟩ M4
def sTup (n : Nat) (r : List Bd → En → Option En) (b : Bd) (ρ : En) : Option En := match b with
  | .imm (.tuple ds) => if ds.length = n then r (ds.map Bd.imm) ρ else none
  | _ => none
/-- a row of data is pushed -/
theorem Mt.pushL : ∀ {ds : List PyData} {vs : List V} {σ : Sl} {ρ : En}, Mt K so H0 A0 S σ ρ H A → DenL K H A vs ds → Mt K so H0 A0 S (σ ++ vs.map some) (ρ ++ (ds.map Bd.imm).map some) H A
  | [], vs, σ, ρ, M, h => by cases h; simpa using M
  | d :: ds, vs, σ, ρ, M, h => by
    cases h with
    | cons h1 h2 =>
      have M1 := M.pushI (b := .imm d) h1 rfl
      simpa using Mt.pushL M1 h2
theorem rdg_tup {n : Nat} {u : TGs} {r : List Bd → En → Option En} {is : List Nat} (h : RdGs K so u r is) : RdG K so (gTup K n u) (sTup n r) is := fun H0 A0 S σ ρ ρ' tv tb H A v b Q hl M e q => by
  unfold sTup at e
  split at e
  · rename_i ds
    split at e
    · rename_i hn
      obtain ⟨a, vs, rfl, ha, hd⟩ := M.last.tupI
      refine ⟨a, vs, rfl, ha.sq, by rw [hd.length]; exact hn, ?_⟩
      exact h H0 A0 S σ ρ ρ' tv tb H A vs (ds.map Bd.imm) Q hl (by simp [hd.length]) (M.init.pushL hd) e q
    · cases e
  · cases e
/-- a, b = a list -/
def sUnl (n : Nat) (r : List Bd → En → Option En) (b : Bd) (ρ : En) : Option En := match toL b with
  | some ds => if ds.length = n then r (ds.map Bd.imm) ρ else none
  | none => none
theorem rdg_unl {n : Nat} {u : TGs} {r : List Bd → En → Option En} {is : List Nat} (h : RdGs K so u r is) : RdG K so (gUnl K n u) (sUnl n r) is := fun H0 A0 S σ ρ ρ' tv tb H A v b Q hl M e q => by
  unfold sUnl at e
  split at e
  · rename_i ds et
    split at e
    · rename_i hn
      obtain ⟨a, vs, rfl, ha, hd⟩ := M.last.lstI et
      refine ⟨a, vs, rfl, SqL.of ha, by rw [hd.length]; exact hn, ?_⟩
      exact h H0 A0 S σ ρ ρ' tv tb H A vs (ds.map Bd.imm) Q hl (by simp [hd.length]) (M.init.pushL hd) e q
    · cases e
  · cases e
/-! ### statements -/
def gAsg (s : Bd → En → Option En) (fe : SE) : SS := fun ρ S => (fe ρ S).bind fun b ρ S => match s b ρ with
  | some ρ' => .ok .nx ρ' S
  | none => .bad
theorem rds_asg {te : TE} {g : TG} {s : Bd → En → Option En} {fe : SE} {is : List Nat} (he : RdE K so te fe) (hg : RdG K so g s is) : RdS K so (tAsg te g) (gAsg s fe) := fun H0 A0 S σ ρ tv tb H A D hl nb M h => by
  refine he H0 A0 S σ ρ tv tb H A _ hl M ?_
  refine (R.post_bind.mp h).imp fun b ρ1 S1 h v1 H1 A1 hl1 M1 => ?_
  cases e : s b ρ1 with
  | none => rw [e] at h; exact h.elim
  | some ρ' =>
    rw [e] at h
    exact hg H0 A0 S1 σ ρ1 ρ' tv tb H1 A1 v1 b D.nx hl1 M1 e fun σ' H' A' hl' _ M' => h σ' H' A' hl' M'
/-- several names at once -/
def gPar (r : List Bd → En → Option En) (fa : SA) : SS := fun ρ S => (fa ρ S).bind fun bs ρ S => match r bs ρ with
  | some ρ' => .ok .nx ρ' S
  | none => .bad
theorem rds_par {ta : TA} {u : TGs} {r : List Bd → En → Option En} {fa : SA} {is : List Nat} (ha : RdA K so ta fa) (hg : RdGs K so u r is) : RdS K so (fun D σ H => ta σ H fun vs H1 => u vs σ H1 D.nx) (gPar r fa) := fun H0 A0 S σ ρ tv tb H A D hl nb M h => by
  refine ha H0 A0 S σ ρ tv tb H A _ hl M ?_
  refine (R.post_bind.mp h).imp fun bs ρ1 S1 h vs H1 A1 hl1 hn M1 => ?_
  cases e : r bs ρ1 with
  | none => rw [e] at h; exact h.elim
  | some ρ' =>
    rw [e] at h
    exact hg H0 A0 S1 σ ρ1 ρ' tv tb H1 A1 vs bs D.nx hl1 hn M1 e fun σ' H' A' hl' _ M' => h σ' H' A' hl' M'
def gDrop (fe : SE) : SS := fun ρ S => (fe ρ S).bind fun _ ρ S => .ok .nx ρ S
theorem rds_expr {te : TE} {fe : SE} (he : RdE K so te fe) : RdS K so (tDrop te) (gDrop fe) := fun H0 A0 S σ ρ tv tb H A D hl nb M h => by
  refine he H0 A0 S σ ρ tv tb H A _ hl M ?_
  exact (R.post_bind.mp h).imp fun b ρ1 S1 h v1 H1 A1 hl1 M1 => h σ H1 A1 hl1 M1.init
def gRet (fe : SE) : SS := fun ρ S => (fe ρ S).bind fun b ρ S => .ok (.rt b) ρ S
theorem rds_ret {te : TE} {fe : SE} (he : RdE K so te fe) : RdS K so (tRet te) (gRet fe) := fun H0 A0 S σ ρ tv tb H A D hl nb M h => by
  refine he H0 A0 S σ ρ tv tb H A _ hl M ?_
  exact (R.post_bind.mp h).imp fun b ρ1 S1 h v1 H1 A1 hl1 M1 => h σ v1 H1 A1 hl1 M1
def gRetN : SS := fun ρ S => .ok (.rt (.imm .none)) ρ S
theorem rds_retN : RdS K so tRetN gRetN := fun H0 A0 S σ ρ tv tb H A D hl nb M h => h σ .non H A hl (M.pushI Den.non rfl)
def gNext : SS := fun ρ S => .ok .nx ρ S
theorem rds_next : RdS K so tNext gNext := fun H0 A0 S σ ρ tv tb H A D hl nb M h => h σ H A hl M
def gBrk : SS := fun ρ S => .ok .bk ρ S
theorem rds_brk : RdS K so tBreak gBrk := fun H0 A0 S σ ρ tv tb H A D hl nb M h => h σ H A hl M
def gCnt : SS := fun ρ S => .ok .ct ρ S
theorem rds_cnt : RdS K so tCont gCnt := fun H0 A0 S σ ρ tv tb H A D hl nb M h => h σ H A hl M
def gNever : SS := fun _ _ => .bad
theorem rds_never {t : TS} : RdS K so t gNever := fun H0 A0 S σ ρ tv tb H A D hl nb M h => h.elim
def gIf (c : SB) (g1 g2 : SS) : SS := fun ρ S => (c ρ S).bind fun k ρ S => if k = true then g1 ρ S else g2 ρ S
theorem rds_if {tc : TT} {t u : TS} {c : SB} {g1 g2 : SS} (hc : RdT K so tc c) (h1 : RdS K so t g1) (h2 : RdS K so u g2) : RdS K so (tIfS tc t u) (gIf c g1 g2) := fun H0 A0 S σ ρ tv tb H A D hl nb M h => by
  refine hc H0 A0 S σ ρ tv tb H A _ hl M ?_
  refine (R.post_bind.mp h).imp fun k ρ1 S1 h H1 A1 hl1 M1 => ?_
  cases k with
  | true => rw [if_pos rfl] at h ⊢; exact h1 H0 A0 S1 σ ρ1 tv tb H1 A1 D hl1 nb M1 h
  | false => rw [if_neg Bool.false_ne_true] at h ⊢; exact h2 H0 A0 S1 σ ρ1 tv tb H1 A1 D hl1 nb M1 h
def gSeq (g1 g2 : SS) : SS := fun ρ S => (g1 ρ S).bind fun fl ρ S => match fl with
  | .nx => g2 ρ S
  | fl => .ok fl ρ S
theorem rds_seq {t u : TS} {g1 g2 : SS} (h1 : RdS K so t g1) (h2 : RdS K so u g2) : RdS K so (tSeq t u) (gSeq g1 g2) := fun H0 A0 S σ ρ tv tb H A D hl nb M h => by
  refine h1 H0 A0 S σ ρ tv tb H A _ hl nb M ?_
  refine (R.post_bind.mp h).imp fun fl ρ1 S1 h => ?_
  cases fl with
  | nx => exact fun σ' H' A' hl' M' => h2 H0 A0 S1 σ' ρ1 tv tb H' A' D hl' nb M' h
  | rt b => exact h
  | bk => exact h
  | ct => exact h
/-! ### append and the like -/
theorem Mt.frz1 {d : PyData} (M : Mt K so H0 A0 S (σ ++ [some v]) (ρ ++ [some b]) H A) (h : toF b = some d) : ∃ A', Mt K so H0 A0 S (σ ++ [some v]) (ρ ++ [some (.imm d)]) H A' := by
  cases b with
  | imm d' => cases h; exact ⟨A, M⟩
  | lst ds =>
    cases h
    obtain ⟨A', M2⟩ := M.frz (i := ρ.length) (ds := ds) (by rw [List.getElem?_append_right (Nat.le_refl _), Nat.sub_self]; rfl)
    refine ⟨A', ?_⟩
    rw [List.set_append, if_neg (by omega), Nat.sub_self] at M2
    exact M2
  | _ => cases h
theorem lim1 {n : Nat} (h : n < 1000000) : n < sizeLine := Nat.lt_of_lt_of_le h (by rw [sizeLine_eq]; decide)
theorem lim2 {n : Nat} (h : n ≤ 1000000) : n ≤ sizeLine := Nat.le_trans h (by rw [sizeLine_eq]; decide)
theorem NB.app {ρ tb : En} (h : nbE ρ = true) (nb : NB tb) : NB (ρ ++ tb) := fun b hb => (List.mem_append.mp hb).elim (nbE_nb h b) (nb b)
/-- what an own list becomes -/
def ownSet (i : Nat) (ρ : En) (S : Src) (o : List PyData → Option (List PyData)) : R Fl := match ρ[i]? with
  | some (some (.lst ds)) => match o ds with
    | some ds' => if nbE ρ = true then .ok .nx (ρ.set i (some (.lst ds'))) S else .bad
    | none => .bad
  | _ => .bad
theorem ownSet_post {i : Nat} {o : List PyData → Option (List PyData)} {P : Fl → En → Src → Prop} (h : (ownSet i ρ S o).Post P) : ∃ ds ds', ρ[i]? = some (some (.lst ds)) ∧ o ds = some ds' ∧ nbE ρ = true ∧ P .nx (ρ.set i (some (.lst ds'))) S := by
  unfold ownSet at h
  split at h
  · rename_i ds e1
    split at h
    · rename_i ds' e2
      split at h
      · rename_i e3
        exact ⟨ds, ds', e1, e2, e3, h⟩
      · exact h.elim
    · exact h.elim
  · exact h.elim
/-- the change made: what stands at the slot -/
theorem Mt.own (M : Mt K so H0 A0 S (σ ++ tv) (ρ ++ tb) H A) (hl : σ.length = ρ.length) {i : Nat} {ds : List PyData} (h : ρ[i]? = some (some (.lst ds))) : ∃ a vs, σ[i]? = some (some (.ref a)) ∧ H a = some (.lst vs) ∧ DenL K H A vs ds := by
  obtain ⟨v, e, a, vs, rfl, g1, _, _, g4⟩ := M.slot hl h
  exact ⟨a, vs, e, g1, g4⟩
theorem Mt.change (M : Mt K so H0 A0 S (σ ++ tv) (ρ ++ tb) H A) (hl : σ.length = ρ.length) (nb : NB tb) (nr : nbE ρ = true) {i : Nat} {ds ds' : List PyData} {a : Addr} {vs' : List V} (h : ρ[i]? = some (some (.lst ds))) (hv : σ[i]? = some (some (.ref a))) (hd : DenL K H A vs' ds') :
    Mt K so H0 A0 S (σ ++ tv) (ρ.set i (some (.lst ds')) ++ tb) (upd H a (.lst vs')) A := by
  have hi := getlt h
  have M2 := M.mut (nb := fun j es e _ => by have := NB.app nr nb _ (List.mem_of_getElem? e); cases this) (i := i) (ds := ds) (ds' := ds') (a := a) (vs' := vs') (by rw [List.getElem?_append_left hi]; exact h) (by rw [List.getElem?_append_left (by omega)]; exact hv) hd
  rw [set_app hi] at M2
  exact M2
def isOwn (i : Nat) (ρ : En) : Bool := match ρ[i]? with
  | some (some (.lst _)) => true
  | _ => false
/-- xs.append(e) -/
def gAppend (i : Nat) (fe : SE) : SS := fun ρ S => if isOwn i ρ = true then (fe ρ S).bind fun b ρ S => ownSet i ρ S fun ds => (toF b).bind fun d => if ds.length < 1000000 then some (ds ++ [d]) else none else .bad
theorem isOwn_at {i : Nat} (h : isOwn i ρ = true) : ∃ ds, ρ[i]? = some (some (.lst ds)) := by
  unfold isOwn at h
  split at h
  · rename_i ds e; exact ⟨ds, e⟩
  · cases h
theorem rds_append {te : TE} {fe : SE} {i : Nat} (he : RdE K so te fe) : RdS K so (tDrop (tBM K "list" rAppend (tVar i) (tCons te tNil))) (gAppend i fe) := fun H0 A0 S σ ρ tv tb H A D hl nb M h => by
  unfold gAppend at h
  split at h
  · rename_i ho
    obtain ⟨ds0, e0⟩ := isOwn_at ho
    obtain ⟨a, vs0, e1, ha, _⟩ := M.own hl e0
    refine ⟨.ref a, e1, .inl ⟨rfl, _, SqL.of ha⟩, he H0 A0 S σ ρ tv tb H A _ hl M ?_⟩
    refine (R.post_bind.mp h).imp fun b ρ1 S1 h v1 H1 A1 hl1 M1 => ?_
    obtain ⟨ds, ds', g1, g2, g3, g4⟩ := ownSet_post h
    cases ef : toF b with
    | none => rw [ef] at g2; cases g2
    | some d =>
    rw [ef] at g2
    simp only [Option.bind_some] at g2
    split at g2
    · rename_i hz
      cases g2
      obtain ⟨A2, M2⟩ := M1.frz1 ef
      have dd : Den K H1 A2 v1 d := M2.last
      obtain ⟨a', vs, e2, ha', hd⟩ := M2.init.own hl1 g1
      rw [e1] at e2
      cases e2
      refine ⟨a, vs, v1, rfl, rfl, ha', lim1 (by rw [hd.length]; exact hz), ?_⟩
      exact g4 σ _ A2 (by simpa using hl1) (M2.init.change hl1 nb g3 g1 e1 (hd.append (.one dd)))
    · cases g2
  · exact h.elim
/-- xs[k] = e -/
def gSetI (i : Nat) (fe fk : SE) : SS := fun ρ S => (fe ρ S).bind fun b ρ S => if isOwn i ρ = true then (fk ρ S).bind fun k ρ S => match k with
  | .imm (.int k) => ownSet i ρ S fun ds => (toF b).bind fun d => (ixN ds.length k).map fun j => ds.set j d
  | _ => .bad else .bad
theorem Mt.last2 {d : PyData} (M : Mt K so H0 A0 S (σ ++ [some x] ++ [some v]) (ρ ++ [some c] ++ [some b]) H A) : OOk K so H0 H A x c := M.init.last
theorem Mt.frz2 {d : PyData} (M : Mt K so H0 A0 S (σ ++ [some x] ++ [some v]) (ρ ++ [some c] ++ [some b]) H A) (h : toF c = some d) : ∃ A', Mt K so H0 A0 S (σ ++ [some x] ++ [some v]) (ρ ++ [some (.imm d)] ++ [some b]) H A' := by
  cases c with
  | imm d' => cases h; exact ⟨A, M⟩
  | lst ds =>
    cases h
    obtain ⟨A', M2⟩ := M.frz (i := ρ.length) (ds := ds) (by rw [List.append_assoc, List.getElem?_append_right (Nat.le_refl _), Nat.sub_self]; rfl)
    refine ⟨A', ?_⟩
    rw [set_app (by simp), List.set_append, if_neg (by omega), Nat.sub_self] at M2
    exact M2
  | _ => cases h
theorem rds_setI {te tk : TE} {fe fk : SE} {i : Nat} (he : RdE K so te fe) (hk : RdE K so tk fk) : RdS K so (tAsg te (gSub (tVar i) tk rSetL)) (gSetI i fe fk) := fun H0 A0 S σ ρ tv tb H A D hl nb M h => by
  refine he H0 A0 S σ ρ tv tb H A _ hl M ?_
  refine (R.post_bind.mp h).imp fun b ρ1 S1 h v1 H1 A1 hl1 M1 => ?_
  split at h
  · rename_i ho
    obtain ⟨ds0, e0⟩ := isOwn_at ho
    obtain ⟨a, vs0, e1, ha, _⟩ := M1.init.own hl1 e0
    refine ⟨.ref a, e1, hk H0 A0 S1 σ ρ1 (tv ++ [some v1]) (tb ++ [some b]) H1 A1 _ hl1 (by simpa only [List.append_assoc] using M1) ?_⟩
    refine (R.post_bind.mp h).imp fun kb ρ2 S2 h v2 H2 A2 hl2 M2 => ?_
    have M2' : Mt K so H0 A0 S2 (σ ++ tv ++ [some v1] ++ [some v2]) (ρ2 ++ tb ++ [some b] ++ [some kb]) H2 A2 := by simpa only [List.append_assoc] using M2
    split at h
    · rename_i k
      have ok := M2'.last
      cases ok
      obtain ⟨ds, ds', g1, g2, g3, g4⟩ := ownSet_post h
      cases ef : toF b with
      | none => rw [ef] at g2; cases g2
      | some d =>
      rw [ef] at g2
      simp only [Option.bind_some] at g2
      cases ej : ixN ds.length k with
      | none => rw [ej] at g2; cases g2
      | some j =>
      rw [ej] at g2
      cases g2
      obtain ⟨A3, M3⟩ := M2'.frz2 ef
      have dd : Den K H2 A3 v1 d := M3.init.last
      obtain ⟨a', vs, e2, ha', hd⟩ := M3.init.init.own hl2 g1
      rw [e1] at e2
      cases e2
      refine ⟨a, vs, k, j, rfl, rfl, ha', by rw [hd.length]; exact ej, ?_⟩
      exact g4 σ _ A3 (by simpa using hl2) (M3.init.init.change hl2 nb g3 g1 e1 (hd.set j dd))
    · exact h.elim
  · exact h.elim
/-! ### loops -/
/-- what is walked: n turns of data, while what is held stands -/
structure Wk (K : PySem.W.Frag) (so : SO) (J : It) (hv : Sl) (hb : En) (ds : List PyData) : Prop where
  len : hv.length = hb.length
  ex : ∃ (G : Hp → Prop) (Y : Nat → Hp → V → Hp → Prop), Walk J ds.length G Y ∧
    (∀ (H0 : Hp) (A0 : Addr → Prop) (S : Src) (σ : Sl) (ρ : En) (H : Hp) (A : Addr → Prop), σ.length = ρ.length → Mt K so H0 A0 S (σ ++ hv) (ρ ++ hb) H A → G H) ∧
    (∀ (H0 : Hp) (A0 : Addr → Prop) (S : Src) (σ : Sl) (ρ : En) (H : Hp) (A : Addr → Prop) (i : Nat) (d : PyData) (x : V) (H' : Hp), σ.length = ρ.length → Mt K so H0 A0 S (σ ++ hv) (ρ ++ hb) H A → ds[i]? = some d → Y i H x H' →
      ∃ A', Mt K so H0 A0 S (σ ++ hv ++ [some x]) (ρ ++ hb ++ [some (.imm d)]) H' A')
/-- an iterable -/
def RdI (K : PySem.W.Frag) (so : SO) (wi : TI) (fi : En → Src → R (Bool × List PyData)) : Prop := ∀ (H0 : Hp) (A0 : Addr → Prop) (S : Src) (σ : Sl) (ρ : En) (tv : Sl) (tb : En) (H : Hp) (A : Addr → Prop) (Q : It → Hp → Prop), σ.length = ρ.length → Mt K so H0 A0 S (σ ++ tv) (ρ ++ tb) H A →
  (fi ρ S).Post (fun p ρ' S' => ∀ (J : It) (hv : Sl) (hb : En) (H' : Hp) (A' : Addr → Prop), σ.length = ρ'.length → Wk K so J hv hb p.2 → (p.1 = true → NB hb) → Mt K so H0 A0 S' (σ ++ tv ++ hv) (ρ' ++ tb ++ hb) H' A' → Q J H') → wi σ H Q
def forS (s : Bd → En → Option En) (g : SS) : List PyData → En → Src → R Fl
  | [], ρ, S => .ok .nx ρ S
  | d :: ds, ρ, S => match s (.imm d) ρ with
    | none => .bad
    | some ρ1 => match g ρ1 S with
      | .bad => .bad
      | .ok .nx ρ2 S2 => forS s g ds ρ2 S2
      | .ok .ct ρ2 S2 => forS s g ds ρ2 S2
      | .ok .bk ρ2 S2 => .ok .nx ρ2 S2
      | .ok (.rt b) ρ2 S2 => .ok (.rt b) ρ2 S2
def gFor (s : Bd → En → Option En) (fi : En → Src → R (Bool × List PyData)) (g : SS) : SS := fun ρ S => (fi ρ S).bind fun p ρ S => if p.1 = true then forS s g p.2 ρ S else .bad
theorem rds_for {wi : TI} {gt : TG} {t : TS} {s : Bd → En → Option En} {fi : En → Src → R (Bool × List PyData)} {g : SS} {is : List Nat} (hi : RdI K so wi fi) (hg : RdG K so gt s is) (hb : RdS K so t g) : RdS K so (tFor wi gt t) (gFor s fi g) := fun H0 A0 S σ ρ tv tb H A D hl nb M h => by
  refine hi H0 A0 S σ ρ tv tb H A _ hl M ?_
  refine (R.post_bind.mp h).imp fun p ρ1 S1 h J hv hbd H1 A1 hl1 W hnb M1 => ?_
  split at h
  · rename_i hp
    have hN := hnb hp
    obtain ⟨G, Y, walk, hG, hY⟩ := W.ex
    have hx : tv.length = tb.length := by have := M1.len; have := W.len; simp at *; omega
    refine for_it walk (fun i σ' H' => ∃ (ρ' : En) (S' : Src) (A' : Addr → Prop), σ'.length = ρ'.length ∧ Mt K so H0 A0 S' (σ' ++ tv ++ hv) (ρ' ++ tb ++ hbd) H' A' ∧ (forS s g (p.2.drop i) ρ' S').Post (EndOk K so H0 A0 tv tb D))
      ⟨ρ1, S1, A1, hl1, M1, by simpa using h⟩ (fun i σ' H' _ q => ?_) (fun i x σ' H' H2 hlt q y => ?_) (fun σ' H' q => ?_)
    · obtain ⟨ρ', S', A', l, m, _⟩ := q
      exact hG H0 A0 S' (σ' ++ tv) (ρ' ++ tb) H' A' (by simp; omega) m
    · obtain ⟨ρ', S', A', l, m, po⟩ := q
      have ed : p.2[i]? = some p.2[i] := List.getElem?_eq_getElem hlt
      obtain ⟨A2, m2⟩ := hY H0 A0 S' (σ' ++ tv) (ρ' ++ tb) H' A' i p.2[i] x H2 (by simp; omega) m ed y
      rw [List.drop_eq_getElem_cons hlt] at po
      simp only [forS] at po
      cases es : s (.imm p.2[i]) ρ' with
      | none => rw [es] at po; exact po.elim
      | some ρ2 =>
      rw [es] at po
      simp only at po
      refine hg H0 A0 S' σ' ρ' ρ2 (tv ++ hv) (tb ++ hbd) H2 A2 x _ _ l (by simpa only [List.append_assoc] using m2) es fun σ3 H3 A3 l3 _ m3 => ?_
      refine hb H0 A0 S' σ3 ρ2 (tv ++ hv) (tb ++ hbd) H3 A3 _ l3 (fun b hb2 => (List.mem_append.mp hb2).elim (nb b) (hN b)) m3 ?_
      cases eg : g ρ2 S' with
      | bad => rw [eg] at po; exact po.elim
      | ok fl ρ4 S4 =>
      rw [eg] at po
      have nxt : (forS s g (p.2.drop (i + 1)) ρ4 S4).Post (EndOk K so H0 A0 tv tb D) → ∀ (σ5 : Sl) H5 A5, σ5.length = ρ4.length → Mt K so H0 A0 S4 (σ5 ++ (tv ++ hv)) (ρ4 ++ (tb ++ hbd)) H5 A5 →
          ∃ (ρ' : En) (S' : Src) (A' : Addr → Prop), σ5.length = ρ'.length ∧ Mt K so H0 A0 S' (σ5 ++ tv ++ hv) (ρ' ++ tb ++ hbd) H5 A' ∧ (forS s g (p.2.drop (i + 1)) ρ' S').Post (EndOk K so H0 A0 tv tb D) :=
        fun po σ5 H5 A5 l5 m5 => ⟨ρ4, S4, A5, l5, by simpa only [List.append_assoc] using m5, po⟩
      cases fl with
      | nx => exact nxt po
      | ct => exact nxt po
      | bk => exact fun σ5 H5 A5 l5 m5 => po σ5 H5 A5 l5 (Mt.sub (xs := hv) (ys := hbd) (by simpa only [List.append_assoc] using m5) (by simp; omega))
      | rt b => exact fun σ5 v5 H5 A5 l5 m5 => po σ5 v5 H5 A5 l5 (Mt.cut (xs := hv) (ys := hbd) (by simpa only [List.append_assoc] using m5) (by simp; omega) W.len)
    · obtain ⟨ρ', S', A', l, m, po⟩ := q
      rw [List.drop_of_length_le (Nat.le_refl _)] at po
      exact po σ' H' A' l (m.sub (by simp; omega))
  · exact h.elim
/-- a while, at most n turns -/
def whS (c : SB) (g : SS) : Nat → En → Src → R Fl
  | 0, _, _ => .bad
  | n + 1, ρ, S => (c ρ S).bind fun k ρ1 S1 => if k = true then match g ρ1 S1 with
    | .bad => .bad
    | .ok .nx ρ2 S2 => whS c g n ρ2 S2
    | .ok .ct ρ2 S2 => whS c g n ρ2 S2
    | .ok .bk ρ2 S2 => .ok .nx ρ2 S2
    | .ok (.rt b) ρ2 S2 => .ok (.rt b) ρ2 S2 else .ok .nx ρ1 S1
/-- how many turns a while is let -/
def FU : Nat := 1000000
def gWhile (c : SB) (g : SS) : SS := whS c g FU
theorem rds_while {tc : TT} {t : TS} {c : SB} {g : SS} (hc : RdT K so tc c) (hb : RdS K so t g) : RdS K so (tWhile tc t) (gWhile c g) := fun H0 A0 S σ ρ tv tb H A D hl nb M h => by
  refine ⟨fun n σ' H' => ∃ (ρ' : En) (S' : Src) (A' : Addr → Prop), σ'.length = ρ'.length ∧ Mt K so H0 A0 S' (σ' ++ tv) (ρ' ++ tb) H' A' ∧ (whS c g n ρ' S').Post (EndOk K so H0 A0 tv tb D), ⟨FU, ρ, S, A, hl, M, h⟩, ?_⟩
  rintro n σ' H' ⟨ρ', S', A', l, m, po⟩
  cases n with
  | zero => exact po.elim
  | succ n =>
  simp only [whS] at po
  refine hc H0 A0 S' σ' ρ' tv tb H' A' _ l m ?_
  refine (R.post_bind.mp po).imp fun k ρ1 S1 po H1 A1 l1 m1 => ?_
  cases k with
  | false => rw [if_neg Bool.false_ne_true] at po ⊢; exact po σ' H1 A1 l1 m1
  | true =>
  rw [if_pos rfl] at po ⊢
  refine ⟨fun σ' H' => ∃ (ρ' : En) (S' : Src) (A' : Addr → Prop), σ'.length = ρ'.length ∧ Mt K so H0 A0 S' (σ' ++ tv) (ρ' ++ tb) H' A' ∧ (whS c g n ρ' S').Post (EndOk K so H0 A0 tv tb D), fun σ2 H2 q => ⟨n, Nat.lt_succ_self n, q⟩, ?_⟩
  refine hb H0 A0 S1 σ' ρ1 tv tb H1 A1 _ l1 nb m1 ?_
  cases eg : g ρ1 S1 with
  | bad => rw [eg] at po; exact po.elim
  | ok fl ρ2 S2 =>
  rw [eg] at po
  cases fl with
  | nx => exact fun σ5 H5 A5 l5 m5 => ⟨ρ2, S2, A5, l5, m5, po⟩
  | ct => exact fun σ5 H5 A5 l5 m5 => ⟨ρ2, S2, A5, l5, m5, po⟩
  | bk => exact po
  | rt b => exact po
end
/-! ### a def by its body -/
def runB (m n : Nat) (g : SS) : FD := fun bs S => if (decide (bs.length = m) && bs.all fun b => !b.own && !b.isBor) = true then match g (bs.map some ++ List.replicate (n - m) none) S with
  | .ok (.rt b) _ S' => some (b, S')
  | .ok .nx _ S' => some (.imm .none, S')
  | _ => none else none
theorem runB_some {m n : Nat} {g : SS} {bs : List Bd} {S S' : Src} {b : Bd} (h : runB m n g bs S = some (b, S')) : bs.length = m ∧
    ((∃ ρ, g (bs.map some ++ List.replicate (n - m) none) S = .ok (.rt b) ρ S') ∨ (b = .imm .none ∧ ∃ ρ, g (bs.map some ++ List.replicate (n - m) none) S = .ok .nx ρ S')) := by
  unfold runB at h
  by_cases hc : (decide (bs.length = m) && bs.all fun b => !b.own && !b.isBor) = true
  · rw [if_pos hc] at h
    simp only [Bool.and_eq_true, decide_eq_true_eq] at hc
    refine ⟨hc.1, ?_⟩
    cases eg : g (bs.map some ++ List.replicate (n - m) none) S with
    | bad => rw [eg] at h; cases h
    | ok fl ρ S2 =>
      rw [eg] at h
      cases fl with
      | nx => cases h; exact .inr ⟨rfl, ρ, rfl⟩
      | rt c => cases h; exact .inl ⟨ρ, rfl⟩
      | bk => cases h
      | ct => cases h
  · rw [if_neg hc] at h; cases h
section
variable {P : Program} {w : World} {K : PySem.W.Frag} {mg : Str → Option Value} {base : Heap}
theorem Mt.nones {so : SO} {H0 H : Hp} {A0 A : Addr → Prop} {S : Src} {σ : Sl} {ρ : En} (m : Mt K so H0 A0 S σ ρ H A) (n : Nat) : Mt K so H0 A0 S (σ ++ List.replicate n none) (ρ ++ List.replicate n none) H A :=
  m.re id (by simp [m.len]) (fun i b e => by
    by_cases hi : i < ρ.length
    · rw [List.getElem?_append_left hi] at e
      exact ⟨e, by rw [List.getElem?_append_left (by rw [m.len]; exact hi)]; rfl⟩
    · rw [List.getElem?_append_right (by omega)] at e
      have := List.mem_of_getElem? e
      rw [List.mem_replicate] at this
      cases this.2) fun i j _ _ ne _ _ _ _ => ne
theorem fn_d {x qual : Str} {st : Stmt} {f : Addr} {fd : FuncData} {N ps : List Str} {k : Nat} {g : SS} (F : Fun K x qual st f fd) (S : FnScope N ps (defScope st))
    (hb : ∀ (so : SO) (cdv : Value) (A : Around) (outer : List PySem.Env) (s : Shared) (H : Hp), Rm k (A.deeper (envOfC qual (defScope st) s.heap.objs.size f cdv)) →
      ∃ t, DSs (cxOf CX0 P w K mg base N qual (defScope st) f cdv A outer s H E0).nox so (defBody st) t g) : FnD P w K mg base (k + 1) f fd ps (runB ps.length N.length g) := by
  intro so
  refine FnG.body F S (fun vs H Q E h => ?_) fun cdv A outer s H vs Q hr h => ?_
  · obtain ⟨bs, S', A', M, h⟩ := h
    cases e : runB ps.length N.length g bs S' with
    | none => rw [e] at h; exact h.elim
    | some r =>
      have := (runB_some (b := r.1) (S' := r.2) e).1
      have := M.len
      simp at this
      omega
  · obtain ⟨t, ht⟩ := hb so cdv A outer s H hr
    refine ⟨t, ht.pss, ?_⟩
    obtain ⟨bs, S', A', M, h⟩ := h
    cases e : runB ps.length N.length g bs S' with
    | none => rw [e] at h; exact h.elim
    | some r =>
    obtain ⟨b, S2⟩ := r
    rw [e] at h
    simp only at h
    obtain ⟨hc, hg⟩ := runB_some e
    have hvl : vs.length = bs.length := by have := M.len; simpa using this
    have M1 : Mt K so H A' S' (L2.start N vs) (bs.map some ++ List.replicate (N.length - ps.length) none) H A' := by
      have := M.nones (N.length - ps.length)
      unfold L2.start
      rw [hvl, hc]
      exact this
    have rd := ht.rd H A' S' (L2.start N vs) _ [] [] H A' { nx := fun _ H' => Q .non H', rt := Q } (by have := M1.len; exact this) (fun b hb => nomatch hb) (by rw [List.append_nil, List.append_nil]; exact M1)
    have only : ∀ {σ : Sl} {ρ : En} {v : V} {b : Bd} {H2 : Hp} {A2 : Addr → Prop}, σ.length = ρ.length → Mt K so H A' S2 (σ ++ [some v]) (ρ ++ [some b]) H2 A2 → Mt K so H A' S2 [some v] [some b] H2 A2 := fun {σ ρ v b H2 A2} l m =>
      Mt.cut (σ := []) (ρ := []) (xs := σ) (ys := ρ) m rfl l
    refine rd ?_
    rcases hg with ⟨ρ, eg⟩ | ⟨rfl, ρ, eg⟩
    · rw [eg]
      intro σ v H2 A2 l m
      exact h v H2 A2 (only l (by have m' := m; rw [List.append_nil, List.append_nil] at m'; exact m'))
    · rw [eg]
      intro σ H2 A2 l m
      exact h .non H2 A2 (only (σ := σ) (ρ := ρ) l (Mt.pushI (b := .imm .none) (by have m' := m; rw [List.append_nil, List.append_nil] at m'; exact m') Den.non rfl))
end
end DL
set_option maxRecDepth 100000
set_option maxHeartbeats 2000000
/-! DE: operators, subscripts, slices, built-ins, what is walked, comprehensions: by data. -/
namespace DL
open PySem PySem.Spec PyProof.Rows L2
section
variable {K : PySem.W.Frag} {so : SO} {H0 H H' : Hp} {A0 A A' : Addr → Prop} {S S' : Src} {σ σ' tv : Sl} {ρ ρ' tb : En} {v x y : V} {b c : Bd}
/-- a value without objects is pushed -/
theorem Mt.flat {d : PyData} (M : Mt K so H0 A0 S σ ρ H A) (h : ∀ H A, Den K H A v d) : Mt K so H0 A0 S (σ ++ [some v]) (ρ ++ [some (.imm d)]) H A := M.pushI (h H A) rfl
theorem Mt.tupD {ds : List PyData} (o : OOk K so H0 H A v b) (e : toD b = some (.tuple ds)) : ∃ a vs, v = .ref a ∧ SqT K H a vs ∧ DpAll K H vs ds := by
  have h := o.dp e
  cases h with
  | tup hs hl => exact ⟨_, _, rfl, hs, hl⟩
/-! ### operators -/
def pair? (a b : Bd) : Option (PyData × PyData) := (toD a).bind fun d => (toD b).map fun e => (d, e)
theorem pair_some {a b : Bd} {d e : PyData} (h : pair? a b = some (d, e)) : toD a = some d ∧ toD b = some e := by
  unfold pair? at h
  cases ea : toD a with
  | none => rw [ea] at h; cases h
  | some d' =>
    cases eb : toD b with
    | none => rw [ea, eb] at h; cases h
    | some e' => rw [ea, eb] at h; cases h; exact ⟨rfl, rfl⟩
/-- two ints -/
def iOp (f : Int → Int → Option PyData) (a b : Bd) : Option Bd := match toD a, toD b with
  | some (.int i), some (.int j) => (f i j).map Bd.imm
  | _, _ => none
theorem iOp_some {f : Int → Int → Option PyData} {a b r : Bd} (h : iOp f a b = some r) : ∃ i j d, toD a = some (.int i) ∧ toD b = some (.int j) ∧ f i j = some d ∧ r = .imm d := by
  unfold iOp at h
  split at h
  · rename_i i j e1 e2
    cases ef : f i j with
    | none => rw [ef] at h; cases h
    | some d => rw [ef] at h; cases h; exact ⟨i, j, d, e1, e2, ef, rfl⟩
  · cases h
def subB : Bd → Bd → Option Bd := iOp fun i j => some (.int (i - j))
def ltB : Bd → Bd → Option Bd := iOp fun i j => some (.bool (decide (i < j)))
def leB : Bd → Bd → Option Bd := iOp fun i j => some (.bool (decide (i ≤ j)))
def gtB : Bd → Bd → Option Bd := iOp fun i j => some (.bool (decide (j < i)))
def geB : Bd → Bd → Option Bd := iOp fun i j => some (.bool (decide (j ≤ i)))
def fdivB : Bd → Bd → Option Bd := iOp fun i j => if j ≠ 0 ∧ j.natAbs < 1073741824 then some (.int (i.fdiv j)) else none
def modB : Bd → Bd → Option Bd := iOp fun i j => if j ≠ 0 then some (.int (i.fmod j)) else none
theorem ops_i0 {f : Int → Int → V} {g : Int → Int → PyData} (hfg : ∀ i j H A, Den K H A (f i j) (g i j)) : OpS K so (rI0 f) (iOp fun i j => some (g i j)) := fun H0 A0 S σ ρ H A x y bx by_ b Q M e q => by
  obtain ⟨i, j, d, e1, e2, e3, rfl⟩ := iOp_some e
  cases e3
  exact ⟨i, j, (M.init.last.dp e1).intI, (M.last.dp e2).intI, q _ H A (M.flat (hfg i j))⟩
theorem ops_sub : OpS K so (rI0 fun i j => .int (i - j)) subB := ops_i0 fun i j H A => .int _
theorem ops_lt : OpS K so (rI0 fun i j => .bl (decide (i < j))) ltB := ops_i0 fun i j H A => .bl _
theorem ops_le : OpS K so (rI0 fun i j => .bl (decide (i ≤ j))) leB := ops_i0 fun i j H A => .bl _
theorem ops_gt : OpS K so (rI0 fun i j => .bl (decide (j < i))) gtB := ops_i0 fun i j H A => .bl _
theorem ops_ge : OpS K so (rI0 fun i j => .bl (decide (j ≤ i))) geB := ops_i0 fun i j H A => .bl _
theorem ops_fdiv : OpS K so (rI CDivN fun i j => .int (i.fdiv j)) fdivB := fun H0 A0 S σ ρ H A x y bx by_ b Q M e q => by
  obtain ⟨i, j, d, e1, e2, e3, rfl⟩ := iOp_some e
  split at e3
  · rename_i hz
    cases e3
    exact ⟨i, j, (M.init.last.dp e1).intI, (M.last.dp e2).intI, hz, q _ H A (M.flat fun H A => .int _)⟩
  · cases e3
theorem ops_mod : OpS K so (rI (fun _ j => j ≠ 0) fun i j => .int (i.fmod j)) modB := fun H0 A0 S σ ρ H A x y bx by_ b Q M e q => by
  obtain ⟨i, j, d, e1, e2, e3, rfl⟩ := iOp_some e
  split at e3
  · rename_i hz
    cases e3
    exact ⟨i, j, (M.init.last.dp e1).intI, (M.last.dp e2).intI, hz, q _ H A (M.flat fun H A => .int _)⟩
  · cases e3
/-- + of ints, texts, tuples, lists -/
def addB (a b : Bd) : Option Bd := match a, b with
  | .imm (.tuple xs), .imm (.tuple ys) => if xs.length + ys.length ≤ 1000000 then some (.imm (.tuple (xs ++ ys))) else none
  | a, b => match toL a, toL b with
    | some xs, some ys => if xs.length + ys.length ≤ 1000000 then some (.lst (xs ++ ys)) else none
    | _, _ => match toD a, toD b with
      | some (.int i), some (.int j) => some (.imm (.int (i + j)))
      | some (.str s), some (.str t) => if s.length + t.length ≤ 1000000 then some (.imm (.str (s ++ t))) else none
      | _, _ => none
def rAddA (K : PySem.W.Frag) : R2 := fun x y H Q => rCatC K x y H Q ∨ rCat x y H Q ∨ rI0 (fun i j => .int (i + j)) x y H Q ∨ (∃ i j, x = .str i ∧ y = .str j ∧ i.length + j.length ≤ sizeLine ∧ Q (.str (i ++ j)) H)
theorem op_addA {X : Cx} : OpR X (binaryOp .Add) (rAddA X.K) := op_catC.or (op_cat.or (op_add.or op_add_str))
theorem ops_add : OpS K so (rAddA K) addB := fun H0 A0 S σ ρ H A x y bx by_ b Q M e q => by
  have o1 := M.init.last
  have o2 := M.last
  unfold addB at e
  split at e
  · rename_i xs ys
    split at e
    · rename_i hz
      cases e
      obtain ⟨a1, v1, rfl, g1, h1⟩ := o1.tupI
      obtain ⟨a2, v2, rfl, g2, h2⟩ := o2.tupI
      refine .inl ⟨a1, a2, v1, v2, rfl, rfl, g1.sq, g2.sq, by rw [h1.length, h2.length]; exact lim2 hz, fun z => ?_, fun z1 z2 => ?_, fun z1 z2 => ?_⟩
      · subst z
        cases h1
        exact q _ H A (M.pushI (b := .imm (.tuple ([] ++ ys))) (by simpa using o2) rfl)
      · subst z2
        cases h2
        exact q _ H A (M.pushI (b := .imm (.tuple (xs ++ []))) (by simpa using o1) rfl)
      · exact M.mkT (h1.append h2) fun v H' M' => q _ _ A M'
    · cases e
  · split at e
    · rename_i xs ys e1 e2
      split at e
      · rename_i hz
        cases e
        obtain ⟨a1, v1, rfl, g1, h1⟩ := o1.lstI e1
        obtain ⟨a2, v2, rfl, g2, h2⟩ := o2.lstI e2
        exact .inr (.inl ⟨a1, a2, v1, v2, rfl, rfl, g1, g2, by rw [h1.length, h2.length]; exact lim2 hz, fun p hp => q _ _ A (M.newL hp (h1.append h2))⟩)
      · cases e
    · split at e
      · rename_i i j e1 e2
        cases e
        exact .inr (.inr (.inl ⟨i, j, (o1.dp e1).intI, (o2.dp e2).intI, q _ H A (M.flat fun H A => .int _)⟩))
      · rename_i s t e1 e2
        split at e
        · rename_i hz
          cases e
          exact .inr (.inr (.inr ⟨s, t, (o1.dp e1).strI, (o2.dp e2).strI, lim2 hz, q _ H A (M.flat fun H A => .str _)⟩))
        · cases e
      · cases e
/-- * of ints, of a list and an int -/
def mulB (a b : Bd) : Option Bd := match toL a, toD b with
  | some xs, some (.int k) => if 0 ≤ k ∧ k ≤ 1000 ∧ xs.length * k.toNat ≤ 1000000 then some (.lst (List.replicate k.toNat xs).flatten) else none
  | _, _ => match toD a, toD b with
    | some (.int i), some (.int j) => if (-(2 ^ 64) < i ∧ i < 2 ^ 64) ∨ (-(2 ^ 64) < j ∧ j < 2 ^ 64) then some (.imm (.int (i * j))) else none
    | _, _ => none
theorem DenL.rep {ds : List PyData} {vs : List V} (h : DenL K H A vs ds) : ∀ k : Nat, DenL K H A (List.replicate k vs).flatten (List.replicate k ds).flatten
  | 0 => .nil
  | k + 1 => by rw [List.replicate_succ, List.replicate_succ, List.flatten_cons, List.flatten_cons]; exact h.append (DenL.rep h k)
/-- == of data -/
def eqB (neg : Bool) (a b : Bd) : Option Bd := match toD a, toD b with
  | some (.str x), some (.str y) => some (.imm (.bool (if neg then !decide (x = y) else decide (x = y))))
  | some (.int i), some (.int j) => some (.imm (.bool (if neg then !decide (i = j) else decide (i = j))))
  | some d, some e => if (SeqAt.shaped d && SeqAt.shaped e) = true then some (.imm (.bool (if neg then !PyData.eqv d e else PyData.eqv d e))) else none
  | _, _ => none
def rEqA (K : PySem.W.Frag) : R2 := fun x y H Q => rEq x y H Q ∨ rEqD K x y H Q
def rNeA (K : PySem.W.Frag) : R2 := fun x y H Q => rNe x y H Q ∨ rNeD K x y H Q
theorem op_eqA {X : Cx} (hu : X.A.units + 64 < cLine) : OpR X (compareOp .Eq) (rEqA X.K) := op_eq.or (op_eqD hu)
theorem op_neA {X : Cx} (hu : X.A.units + 64 < cLine) : OpR X (compareOp .NotEq) (rNeA X.K) := op_ne.or (op_neD hu)
theorem ops_eq : OpS K so (rEqA K) (eqB false) := fun H0 A0 S σ ρ H A x y bx by_ b Q M e q => by
  unfold eqB at e
  split at e
  · rename_i u v e1 e2
    cases e
    cases (M.init.last.dp e1)
    cases (M.last.dp e2)
    refine .inl ⟨rfl, ?_⟩
    have := q (.bl (decide (u = v))) H A (M.flat fun H A => .bl _)
    simpa using this
  · rename_i u v e1 e2
    cases e
    cases (M.init.last.dp e1)
    cases (M.last.dp e2)
    refine .inl ⟨rfl, ?_⟩
    have := q (.bl (decide (u = v))) H A (M.flat fun H A => .bl _)
    simpa using this
  · rename_i d1 d2 _ _ e1 e2
    split at e
    · rename_i hz
      cases e
      simp only [Bool.and_eq_true] at hz
      exact .inr ⟨d1, d2, M.init.last.dp e1, M.last.dp e2, hz.1, hz.2, q _ H A (M.flat fun H A => .bl _)⟩
    · cases e
  · cases e
theorem ops_ne : OpS K so (rNeA K) (eqB true) := fun H0 A0 S σ ρ H A x y bx by_ b Q M e q => by
  unfold eqB at e
  split at e
  · rename_i u v e1 e2
    cases e
    cases (M.init.last.dp e1)
    cases (M.last.dp e2)
    refine .inl ⟨rfl, ?_⟩
    have := q (.bl (!decide (u = v))) H A (M.flat fun H A => .bl _)
    simpa using this
  · rename_i u v e1 e2
    cases e
    cases (M.init.last.dp e1)
    cases (M.last.dp e2)
    refine .inl ⟨rfl, ?_⟩
    have := q (.bl (!decide (u = v))) H A (M.flat fun H A => .bl _)
    simpa using this
  · rename_i d1 d2 _ _ e1 e2
    split at e
    · rename_i hz
      cases e
      simp only [Bool.and_eq_true] at hz
      exact .inr ⟨d1, d2, M.init.last.dp e1, M.last.dp e2, hz.1, hz.2, q _ H A (M.flat fun H A => .bl _)⟩
    · cases e
  · cases e
/-- is None; is, of truth values -/
def isNone : Bd → Bool
  | .imm .none => true
  | .wr .none => true
  | _ => false
def isB (neg : Bool) (a b : Bd) : Option Bd := match toD b with
  | some .none => some (.imm (.bool (if neg then !isNone a else isNone a)))
  | some (.bool j) => match toD a with
    | some (.bool i) => some (.imm (.bool (if neg then !decide (i = j) else decide (i = j))))
    | _ => none
  | _ => none
theorem OOk.none (o : OOk K so H0 H A v b) : decide (v = .non) = isNone b := by
  cases b with
  | imm d =>
    cases d with
    | none => cases o; rfl
    | bool _ => cases o; rfl
    | int _ => cases o; rfl
    | str _ => cases o; rfl
    | list _ => cases o; rfl
    | tuple _ => cases o; rfl
    | dict _ => cases o
  | wr d =>
    have h : Dp K (fun _ => none) v d := o
    cases d with
    | none => cases h; rfl
    | bool _ => cases h; rfl
    | int _ => cases h; rfl
    | str _ => cases h; rfl
    | list _ => cases h; rfl
    | tuple _ => cases h; rfl
    | dict _ => cases h
  | bor ds => obtain ⟨a, vs, rfl, _⟩ := o; rfl
  | lst ds => obtain ⟨a, vs, rfl, _⟩ := o; rfl
  | dk ds => obtain ⟨a, kv, rfl, _⟩ := o; rfl
  | dt ds => obtain ⟨a, kv, rfl, _⟩ := o; rfl
  | src => obtain ⟨a, c, rfl, _⟩ := o; rfl
  | ref a => cases o; rfl
def rIsA : R2 := fun x y H Q => (y = .non ∧ Q (.bl (decide (x = .non))) H) ∨ rIsB x y H Q
def rIsnA : R2 := fun x y H Q => (y = .non ∧ Q (.bl (!decide (x = .non))) H) ∨ rNotB x y H Q
theorem op_isA {X : Cx} : OpR X (compareOp .Is) rIsA := op_isN.or op_isBl
theorem op_isnA {X : Cx} : OpR X (compareOp .IsNot) rIsnA := op_notN.or op_notBl
theorem ops_is : OpS K so rIsA (isB false) := fun H0 A0 S σ ρ H A x y bx by_ b Q M e q => by
  unfold isB at e
  have o1 := M.init.last
  split at e
  · rename_i e1
    cases e
    have h := M.last.dp e1
    cases h
    exact .inl ⟨rfl, by rw [o1.none]; exact q _ H A (M.flat fun H A => .bl _)⟩
  · rename_i j e1
    split at e
    · rename_i i e2
      cases e
      exact .inr ⟨i, j, (o1.dp e2).blI, (M.last.dp e1).blI, q _ H A (M.flat fun H A => .bl _)⟩
    · cases e
  · cases e
theorem ops_isn : OpS K so rIsnA (isB true) := fun H0 A0 S σ ρ H A x y bx by_ b Q M e q => by
  unfold isB at e
  have o1 := M.init.last
  split at e
  · rename_i e1
    cases e
    have h := M.last.dp e1
    cases h
    exact .inl ⟨rfl, by rw [o1.none]; exact q _ H A (M.flat fun H A => .bl _)⟩
  · rename_i j e1
    split at e
    · rename_i i e2
      cases e
      exact .inr ⟨i, j, (o1.dp e2).blI, (M.last.dp e1).blI, q _ H A (M.flat fun H A => .bl _)⟩
    · cases e
  · cases e
/-- in, not in -/
def flatD : PyData → Bool
  | .list _ => false
  | .tuple _ => false
  | .dict _ => false
  | _ => true
def itemsD : PyData → Option (List PyData)
  | .list ds => some ds
  | .tuple ds => some ds
  | _ => none
def inB (neg : Bool) (x c : Bd) : Option Bd := match toD x, toD c with
  | some (.str s), some (.str z) => match s.cps.toList with
    | [k] => some (.imm (.bool (if neg then !decide (k ∈ z.cps.toList) else decide (k ∈ z.cps.toList))))
    | _ => none
  | some d, some e => match itemsD e with
    | some ds => if (flatD d && ds.all flatD) = true then some (.imm (.bool (if neg then !ds.any fun z => PyData.eqv z d else ds.any fun z => PyData.eqv z d)))
      else match e with
        | .list ds => if (SeqAt.shaped d && SeqAt.shaped (.list ds)) = true then some (.imm (.bool (if neg then !ds.any fun z => PyData.eqv z d else ds.any fun z => PyData.eqv z d))) else none
        | _ => none
    | none => none
  | _, _ => none
theorem _root_.L2.Dp.flat {d : PyData} (h : Dp K H v d) (f : flatD d = true) : flatV v = true := by
  cases h <;> first | rfl | cases f
theorem _root_.L2.Dp.eqVD {d e : PyData} {w : V} (h : Dp K H v d) (h2 : Dp K H w e) (f : flatD d = true) (f2 : flatD e = true) : eqV v w = PyData.eqv d e := by
  cases h <;> cases h2 <;> first | rfl | cases f | cases f2 | skip
  all_goals simp [eqV, PyData.eqv]
theorem dpAll_allF : ∀ {ds : List PyData} {vs : List V}, DpAll K H vs ds → ds.all flatD = true → vs.all flatV = true
  | [], _, h, _ => by cases h; rfl
  | d :: ds, _, h, f => by
    cases h with
    | cons h1 h2 =>
      simp only [List.all_cons, Bool.and_eq_true] at f ⊢
      exact ⟨h1.flat f.1, dpAll_allF h2 f.2⟩
theorem dpAll_inD {d : PyData} (hv : Dp K H v d) (f : flatD d = true) : ∀ {ds : List PyData} {vs : List V}, DpAll K H vs ds → ds.all flatD = true → inV v vs = ds.any fun z => PyData.eqv z d
  | [], _, h, _ => by cases h; rfl
  | e :: ds, _, h, g => by
    cases h with
    | cons h1 h2 =>
      simp only [List.all_cons, Bool.and_eq_true] at g
      have r := dpAll_inD hv f h2 g.2
      unfold inV at r ⊢
      rw [List.any_cons, List.any_cons, r, h1.eqVD hv g.1 f]
def rInA (K : PySem.W.Frag) : R2 := fun x y H Q => rIn K false x y H Q ∨ (∃ (c : Nat) (z : Str), x = .str ⟨#[c]⟩ ∧ y = .str z ∧ Q (.bl (decide (c ∈ z.cps.toList))) H) ∨ rInD K x y H Q
def rNinA (K : PySem.W.Frag) : R2 := fun x y H Q => rIn K true x y H Q ∨ (∃ (c : Nat) (z : Str), x = .str ⟨#[c]⟩ ∧ y = .str z ∧ Q (.bl (!decide (c ∈ z.cps.toList))) H) ∨ rNotInD K x y H Q
theorem op_inA {X : Cx} (hu : X.A.units + 65 < cLine) : OpR X (compareOp .In) (rInA X.K) := op_in_seq.or (op_in_sign.or (op_inD hu))
theorem op_ninA {X : Cx} (hu : X.A.units + 65 < cLine) : OpR X (compareOp .NotIn) (rNinA X.K) := op_notIn_seq.or (op_notIn_sign.or (op_notInD hu))
theorem _root_.L2.Dp.seq {e : PyData} {ds : List PyData} (h : Dp K H v e) (i : itemsD e = some ds) : ∃ p vs, v = .ref p ∧ (SqL K H p vs ∨ SqT K H p vs) ∧ DpAll K H vs ds := by
  cases h with
  | lst hs hl => cases i; exact ⟨_, _, rfl, .inl hs, hl⟩
  | tup hs hl => cases i; exact ⟨_, _, rfl, .inr hs, hl⟩
  | _ => cases i
theorem Str.one {s : Str} {k : Nat} (h : s.cps.toList = [k]) : s = ⟨#[k]⟩ := by
  cases s with
  | mk a => cases a with | mk l => simp at h; subst h; rfl
theorem ops_in : OpS K so (rInA K) (inB false) := fun H0 A0 S σ ρ H A x y bx by_ b Q M e q => by
  unfold inB at e
  split at e
  · rename_i s z e1 e2
    split at e
    · rename_i k ek
      cases e
      exact .inr (.inl ⟨k, z, by rw [(M.init.last.dp e1).strI, Str.one ek], (M.last.dp e2).strI, q _ H A (M.flat fun H A => .bl _)⟩)
    · cases e
  · rename_i d e' n1 e1 e2
    split at e
    · rename_i ds ei
      split at e
      · rename_i hf
        cases e
        simp only [Bool.and_eq_true] at hf
        have d1 := M.init.last.dp e1
        obtain ⟨p, vs, rfl, hs, hl⟩ := (M.last.dp e2).seq ei
        exact .inl ⟨p, vs, rfl, hs, d1.flat hf.1, dpAll_allF hl hf.2, by rw [if_neg Bool.false_ne_true, dpAll_inD d1 hf.1 hl hf.2]; exact q _ H A (M.flat fun H A => .bl _)⟩
      · split at e
        · rename_i ds'
          cases ei
          split at e
          · rename_i hz
            cases e
            simp only [Bool.and_eq_true] at hz
            exact .inr (.inr ⟨_, _, M.init.last.dp e1, M.last.dp e2, hz.1, hz.2, q _ H A (M.flat fun H A => .bl _)⟩)
          · cases e
        · cases e
    · cases e
  · cases e
theorem ops_nin : OpS K so (rNinA K) (inB true) := fun H0 A0 S σ ρ H A x y bx by_ b Q M e q => by
  unfold inB at e
  split at e
  · rename_i s z e1 e2
    split at e
    · rename_i k ek
      cases e
      exact .inr (.inl ⟨k, z, by rw [(M.init.last.dp e1).strI, Str.one ek], (M.last.dp e2).strI, q _ H A (M.flat fun H A => .bl _)⟩)
    · cases e
  · rename_i d e' n1 e1 e2
    split at e
    · rename_i ds ei
      split at e
      · rename_i hf
        cases e
        simp only [Bool.and_eq_true] at hf
        have d1 := M.init.last.dp e1
        obtain ⟨p, vs, rfl, hs, hl⟩ := (M.last.dp e2).seq ei
        exact .inl ⟨p, vs, rfl, hs, d1.flat hf.1, dpAll_allF hl hf.2, by rw [if_pos rfl, dpAll_inD d1 hf.1 hl hf.2]; exact q _ H A (M.flat fun H A => .bl _)⟩
      · split at e
        · rename_i ds'
          cases ei
          split at e
          · rename_i hz
            cases e
            simp only [Bool.and_eq_true] at hz
            exact .inr (.inr ⟨_, _, M.init.last.dp e1, M.last.dp e2, hz.1, hz.2, q _ H A (M.flat fun H A => .bl _)⟩)
          · cases e
        · cases e
    · cases e
  · cases e
/-! ### subscripts, slices -/
def seqD : PyData → Option (List PyData) := itemsD
/-- the i-th of a list, a tuple, a text -/
def ixB (a b : Bd) : Option Bd := match toD b with
  | some (.int i) => match a with
    | .wr (.tuple ds) => (atI ds i).map Bd.wr
    | a => match toL a with
      | some ds => (atI ds i).map Bd.imm
      | none => match a with
        | .imm (.tuple ds) => (atI ds i).map Bd.imm
        | .imm (.str z) => if z.length ≤ 1000000 then (atI z.cps.toList i).map fun c => .imm (.str ⟨#[c]⟩) else none
        | .wr (.str z) => if z.length ≤ 1000000 then (atI z.cps.toList i).map fun c => .imm (.str ⟨#[c]⟩) else none
        | _ => none
  | _ => none
theorem DenL.at {ds : List PyData} {vs : List V} {i : Int} {d : PyData} (h : DenL K H A vs ds) (e : atI ds i = some d) : ∃ v, atI vs i = some v ∧ Den K H A v d := by
  unfold atI at e ⊢
  rw [h.length]
  cases ej : ixN ds.length i with
  | none => rw [ej] at e; cases e
  | some j =>
    rw [ej] at e
    exact h.get e
theorem dpAll_len : ∀ {ds : List PyData} {vs : List V}, DpAll K H vs ds → vs.length = ds.length
  | [], _, h => by cases h; rfl
  | d :: ds, _, h => by
    cases h with
    | cons h1 h2 => simp [dpAll_len h2]
end
end DL
set_option maxRecDepth 100000
set_option maxHeartbeats 2000000
/-! DF: subscripts, slices, built-ins, what is walked, comprehensions: by data. -/
namespace DL
open PySem PySem.Spec PyProof.Rows L2
section
variable {K : PySem.W.Frag} {so : SO} {H0 H H' : Hp} {A0 A A' : Addr → Prop} {S S' : Src} {σ σ' tv : Sl} {ρ ρ' tb : En} {v x y : V} {b c : Bd}
theorem dpAll_get : ∀ {ds : List PyData} {vs : List V} {i : Nat} {d : PyData}, DpAll K H vs ds → ds[i]? = some d → ∃ v, vs[i]? = some v ∧ Dp K H v d
  | [], _, i, d, h, e => by simp at e
  | d0 :: ds, _, i, d, h, e => by
    cases h with
    | cons h1 h2 =>
      cases i with
      | zero => simp at e; subst e; exact ⟨_, rfl, h1⟩
      | succ i =>
        obtain ⟨v, e1, e2⟩ := dpAll_get h2 (i := i) (by simpa using e)
        exact ⟨v, by simpa using e1, e2⟩
theorem dpAll_at {ds : List PyData} {vs : List V} {i : Int} {d : PyData} (h : DpAll K H vs ds) (e : atI ds i = some d) : ∃ v, atI vs i = some v ∧ Dp K H v d := by
  unfold atI at e ⊢
  rw [dpAll_len h]
  cases ej : ixN ds.length i with
  | none => rw [ej] at e; cases e
  | some j =>
    rw [ej] at e
    exact dpAll_get h e
theorem ops_ix : OpS K so (rIx K) ixB := fun H0 A0 S σ ρ H A x y bx by_ b Q M e q => by
  unfold ixB at e
  split at e
  · rename_i i ei
    have ey := (M.last.dp ei).intI
    have o1 := M.init.last
    split at e
    · rename_i ds
      cases ea : atI ds i with
      | none => rw [ea] at e; cases e
      | some d =>
      rw [ea] at e
      cases e
      have h : Dp K (fun _ => none) x (.tuple ds) := o1
      cases h with
      | tup hs hl =>
        obtain ⟨v, g1, g2⟩ := dpAll_at hl ea
        exact .inr (.inl ⟨_, _, i, v, rfl, ey, sqT_k hs, g1, q v H A (M.pushI (b := .wr d) g2 rfl)⟩)
    · split at e
      · rename_i ds el
        cases ea : atI ds i with
        | none => rw [ea] at e; cases e
        | some d =>
        rw [ea] at e
        cases e
        obtain ⟨a, vs, rfl, g1, g2⟩ := o1.lstI el
        obtain ⟨v, g3, g4⟩ := g2.at ea
        exact .inl ⟨a, vs, i, v, rfl, ey, SqL.of g1, g3, q v H A (M.pushI (b := .imm d) g4 rfl)⟩
      · split at e
        · rename_i ds _ _
          cases ea : atI ds i with
          | none => rw [ea] at e; cases e
          | some d =>
          rw [ea] at e
          cases e
          obtain ⟨a, vs, rfl, g1, g2⟩ := o1.tupI
          obtain ⟨v, g3, g4⟩ := g2.at ea
          exact .inr (.inl ⟨a, vs, i, v, rfl, ey, g1.sq, g3, q v H A (M.pushI (b := .imm d) g4 rfl)⟩)
        · rename_i z _ _
          split at e
          · rename_i hz
            cases ea : atI z.cps.toList i with
            | none => rw [ea] at e; cases e
            | some k =>
            rw [ea] at e
            cases e
            exact .inr (.inr ⟨z, i, k, (o1.dp rfl).strI, ey, lim2 hz, ea, q _ H A (M.flat fun H A => .str _)⟩)
          · cases e
        · rename_i z _ _
          split at e
          · rename_i hz
            cases ea : atI z.cps.toList i with
            | none => rw [ea] at e; cases e
            | some k =>
            rw [ea] at e
            cases e
            exact .inr (.inr ⟨z, i, k, (o1.dp rfl).strI, ey, lim2 hz, ea, q _ H A (M.flat fun H A => .str _)⟩)
          · cases e
        · cases e
  · cases e
/-! ### slices -/
abbrev SO2 := En → Src → R (Option Int)
def RdO (K : PySem.W.Frag) (so : SO) (t : TO) (f : SO2) : Prop := ∀ (H0 : Hp) (A0 : Addr → Prop) (S : Src) (σ : Sl) (ρ : En) (tv : Sl) (tb : En) (H : Hp) (A : Addr → Prop) (Q : Option Int → Hp → Prop), σ.length = ρ.length → Mt K so H0 A0 S (σ ++ tv) (ρ ++ tb) H A →
  (f ρ S).Post (fun o ρ' S' => ∀ H' A', σ.length = ρ'.length → Mt K so H0 A0 S' (σ ++ tv) (ρ' ++ tb) H' A' → Q o H') → t σ H Q
def oNone : SO2 := fun ρ S => .ok none ρ S
def oSome (fe : SE) : SO2 := fun ρ S => (fe ρ S).bind fun b ρ S => match toD b with
  | some (.int i) => .ok (some i) ρ S
  | _ => .bad
theorem rdo_none : RdO K so tNoPart oNone := fun H0 A0 S σ ρ tv tb H A Q hl M h => h H A hl M
theorem rdo_some {te : TE} {fe : SE} (he : RdE K so te fe) : RdO K so (tPart te) (oSome fe) := fun H0 A0 S σ ρ tv tb H A Q hl M h => by
  refine he H0 A0 S σ ρ tv tb H A _ hl M ?_
  refine (R.post_bind.mp h).imp fun b ρ1 S1 h v1 H1 A1 hl1 M1 => ?_
  split at h
  · rename_i i e
    exact ⟨i, (M1.last.dp e).intI, h H1 A1 hl1 M1.init⟩
  · exact h.elim
def cutG {α : Type} (xs : List α) (lo hi : Option Int) : List α := (xs.drop (HT.sIx xs.length 0 lo)).take (HT.sIx xs.length xs.length hi - HT.sIx xs.length 0 lo)
def slB (a : Bd) (lo hi : Option Int) : Option Bd := match toL a with
  | some ds => some (.lst (cutG ds lo hi))
  | none => match a with
    | .imm (.tuple ds) => some (.imm (.tuple (cutG ds lo hi)))
    | .imm (.str z) => if z.length ≤ 1000000 then some (.imm (.str (cutS z lo hi))) else none
    | _ => none
def rSlAll (K : PySem.W.Frag) : V → Option Int → Option Int → Hp → VK → Prop := fun x lo hi H Q => rSlL K x lo hi H Q ∨ rSlC K x lo hi H Q ∨ rSlS x lo hi H Q
theorem sl_all {X : Cx} : SlR X (rSlAll X.K) := sl_list.or (sl_tupC.or sl_str)
theorem DenL.cut {ds : List PyData} {vs : List V} (h : DenL K H A vs ds) (lo hi : Option Int) : DenL K H A (cutV vs lo hi) (cutG ds lo hi) := by
  unfold cutV cutG
  rw [h.length]
  exact (h.drop _).take _
theorem sl_s {l u : Option Int} : UnS K so (fun x H Q => rSlAll K x l u H Q) (fun b => slB b l u) := fun H0 A0 S σ ρ H A x bx b Q M e0 fin => by
  have e : slB bx l u = some b := e0
  unfold slB at e
  have o := M.last
  split at e
  · rename_i ds el
    cases e
    obtain ⟨a, vs, rfl, g1, g2⟩ := o.lstI el
    exact .inl ⟨a, vs, rfl, SqL.of g1, fun p hp => fin _ _ A (M.newL hp (g2.cut l u))⟩
  · split at e
    · rename_i ds _
      cases e
      obtain ⟨a, vs, rfl, g1, g2⟩ := o.tupI
      refine .inr (.inl ⟨a, vs, rfl, g1.sq, fun z => ?_, fun z => M.mkT (g2.cut l u) fun v H' M' => fin _ _ A M'⟩)
      have e : cutG ds l u = ds := by
        unfold cutG
        rw [← g2.length, z.1, z.2]
        simp [g2.length]
      refine fin _ H A (M.pushI (b := .imm (.tuple (cutG ds l u))) ?_ rfl)
      rw [e]
      exact o
    · rename_i z _
      split at e
      · rename_i hz
        cases e
        exact .inr (.inr ⟨z, (o.dp rfl).strI, lim2 hz, fin _ H A (M.flat fun H A => .str _)⟩)
      · cases e
    · cases e
def fSl (fa : SE) (lo hi : SO2) : SE := fun ρ S => (fa ρ S).bind fun a ρ S => (lo ρ S).bind fun l ρ S => (hi ρ S).bind fun u ρ S => R.of (slB a l u) ρ S
theorem rd_sl {te : TE} {tl th : TO} {fa : SE} {lo hi : SO2} (ha : RdE K so te fa) (h1 : RdO K so tl lo) (h2 : RdO K so th hi) : RdE K so (tSl (rSlAll K) te tl th) (fSl fa lo hi) := fun H0 A0 S σ ρ tv tb H A Q hl M h => by
  refine ha H0 A0 S σ ρ tv tb H A _ hl M ?_
  refine (R.post_bind.mp h).imp fun bx ρ1 S1 h v1 H1 A1 hl1 M1 => ?_
  refine h1 H0 A0 S1 σ ρ1 (tv ++ [some v1]) (tb ++ [some bx]) H1 A1 _ hl1 (by simpa only [List.append_assoc] using M1) ?_
  refine (R.post_bind.mp h).imp fun l ρ2 S2 h H2 A2 hl2 M2 => ?_
  refine h2 H0 A0 S2 σ ρ2 (tv ++ [some v1]) (tb ++ [some bx]) H2 A2 _ hl2 M2 ?_
  refine (R.post_bind.mp h).imp fun u ρ3 S3 h H3 A3 hl3 M3 => ?_
  have M3' : Mt K so H0 A0 S3 (σ ++ tv ++ [some v1]) (ρ3 ++ tb ++ [some bx]) H3 A3 := by simpa only [List.append_assoc] using M3
  obtain ⟨b, e, h⟩ := R.post_of.mp h
  exact sl_s H0 A0 S3 (σ ++ tv) (ρ3 ++ tb) H3 A3 v1 bx b Q M3' e fun v H' A' M' => h v H' A' hl3 M'.cut1
/-! ### built-ins -/
def lenB (b : Bd) : Option Bd := match toD b with
  | some (.str z) => if z.length ≤ 1000000 then some (.imm (.int z.length)) else none
  | some d => (itemsD d).map fun ds => .imm (.int ds.length)
  | none => none
def rLen (K : PySem.W.Frag) : List V → Hp → VK → Prop := fun xs H Q => (∃ p ys, xs = [.ref p] ∧ (SqL K H p ys ∨ SqT K H p ys) ∧ Q (.int ys.length) H) ∨ ∃ z, xs = [.str z] ∧ z.length ≤ sizeLine ∧ Q (.int z.length) H
theorem call_lenA {X : Cx} : CallR X (.builtin "len") (rLen X.K) := call_len_seq.or call_len_str
theorem cas_len : CaS K so (rLen K) (fun bs => match bs with | [b] => lenB b | _ => none) := CaS.of1 fun H0 A0 S σ ρ H A x bx b Q M e q => by
  unfold lenB at e
  split at e
  · rename_i z ez
    split at e
    · rename_i hz
      cases e
      exact .inr ⟨z, by rw [(M.last.dp ez).strI], lim2 hz, q _ H A (M.flat fun H A => .int _)⟩
    · cases e
  · rename_i d n ed
    cases ei : itemsD d with
    | none => rw [ei] at e; cases e
    | some ds =>
    rw [ei] at e
    cases e
    obtain ⟨p, vs, rfl, hs, hl⟩ := (M.last.dp ed).seq ei
    exact .inl ⟨p, vs, rfl, hs, by rw [dpAll_len hl]; exact q _ H A (M.flat fun H A => .int _)⟩
  · cases e
def tupleB (b : Bd) : Option Bd := match toL b with
  | some ds => some (.imm (.tuple ds))
  | none => match b with
    | .imm (.tuple ds) => some (.imm (.tuple ds))
    | _ => none
theorem cas_tuple : CaS K so (rTupC K) (fun bs => match bs with | [b] => tupleB b | _ => none) := CaS.of1 fun H0 A0 S σ ρ H A x bx b Q M e q => by
  unfold tupleB at e
  split at e
  · rename_i ds el
    cases e
    obtain ⟨a, vs, rfl, g1, g2⟩ := M.last.lstI el
    exact ⟨a, vs, rfl, .inl ⟨SqL.of g1, M.mkT g2 fun v H' M' => q _ _ A M'⟩⟩
  · split at e
    · rename_i ds _
      cases e
      obtain ⟨a, vs, rfl, g1, g2⟩ := M.last.tupI
      exact ⟨a, vs, rfl, .inr ⟨g1.sq, q _ H A (M.pushI (b := .imm (.tuple ds)) M.last rfl)⟩⟩
    · cases e
def listB (b : Bd) : Option Bd := match toL b with
  | some ds => some (.lst ds)
  | none => match b with
    | .imm (.tuple ds) => some (.lst ds)
    | _ => none
theorem cas_list : CaS K so (fun xs H Q => ∃ p ys, xs = [.ref p] ∧ (SqL K H p ys ∨ SqT K H p ys) ∧ ∀ l, H l = none → Q (.ref l) (upd H l (.lst ys))) (fun bs => match bs with | [b] => listB b | _ => none) := CaS.of1 fun H0 A0 S σ ρ H A x bx b Q M e q => by
  unfold listB at e
  split at e
  · rename_i ds el
    cases e
    obtain ⟨a, vs, rfl, g1, g2⟩ := M.last.lstI el
    exact ⟨a, vs, rfl, .inl (SqL.of g1), fun l hl => q _ _ A (M.newL hl g2)⟩
  · split at e
    · rename_i ds _
      cases e
      obtain ⟨a, vs, rfl, g1, g2⟩ := M.last.tupI
      exact ⟨a, vs, rfl, .inr g1.sq, fun l hl => q _ _ A (M.newL hl g2)⟩
    · cases e
def intB (b : Bd) : Option Bd := match toD b with
  | some (.int i) => some (.imm (.int i))
  | some (.bool k) => some (.imm (.int (if k then 1 else 0)))
  | _ => none
theorem cas_int : CaS K so (fun xs H Q => (∃ i, xs = [.int i] ∧ Q (.int i) H) ∨ ∃ k, xs = [.bl k] ∧ Q (.int (if k then 1 else 0)) H) (fun bs => match bs with | [b] => intB b | _ => none) := CaS.of1 fun H0 A0 S σ ρ H A x bx b Q M e q => by
  unfold intB at e
  split at e
  · rename_i i ei
    cases e
    exact .inl ⟨i, by rw [(M.last.dp ei).intI], q _ H A (M.flat fun H A => .int _)⟩
  · rename_i k ei
    cases e
    exact .inr ⟨k, by rw [(M.last.dp ei).blI], q _ H A (M.flat fun H A => .int _)⟩
  · cases e
def absB (b : Bd) : Option Bd := match toD b with
  | some (.int i) => some (.imm (.int (if i < 0 then -i else i)))
  | _ => none
theorem cas_abs : CaS K so (fun xs H Q => ∃ i, xs = [.int i] ∧ Q (.int (if i < 0 then -i else i)) H) (fun bs => match bs with | [b] => absB b | _ => none) := CaS.of1 fun H0 A0 S σ ρ H A x bx b Q M e q => by
  unfold absB at e
  split at e
  · rename_i i ei
    cases e
    exact ⟨i, by rw [(M.last.dp ei).intI], q _ H A (M.flat fun H A => .int _)⟩
  · cases e
def max2B : Bd → Bd → Option Bd := iOp fun i j => some (.int (if j > i then j else i))
def min2B : Bd → Bd → Option Bd := iOp fun i j => some (.int (if j < i then j else i))
theorem cas_max2 : CaS K so (fun xs H Q => ∃ i j, xs = [.int i, .int j] ∧ Q (.int (if j > i then j else i)) H) (fun bs => match bs with | [a, b] => max2B a b | _ => none) := CaS.of2 fun H0 A0 S σ ρ H A x y bx by_ b Q M e q => by
  obtain ⟨i, j, d, e1, e2, e3, rfl⟩ := iOp_some e
  cases e3
  exact ⟨i, j, by rw [(M.init.last.dp e1).intI, (M.last.dp e2).intI], q _ H A (M.flat fun H A => .int _)⟩
theorem cas_min2 : CaS K so (fun xs H Q => ∃ i j, xs = [.int i, .int j] ∧ Q (.int (if j < i then j else i)) H) (fun bs => match bs with | [a, b] => min2B a b | _ => none) := CaS.of2 fun H0 A0 S σ ρ H A x y bx by_ b Q M e q => by
  obtain ⟨i, j, d, e1, e2, e3, rfl⟩ := iOp_some e
  cases e3
  exact ⟨i, j, by rw [(M.init.last.dp e1).intI, (M.last.dp e2).intI], q _ H A (M.flat fun H A => .int _)⟩
/-- a list of truth values -/
def boolsD : List PyData → Option (List Bool)
  | [] => some []
  | .bool b :: r => (boolsD r).map (b :: ·)
  | _ => none
def allB (b : Bd) : Option Bd := (toL b).bind fun ds => (boolsD ds).map fun bs => .imm (.bool (bs.all id))
def anyB (b : Bd) : Option Bd := (toL b).bind fun ds => (boolsD ds).map fun bs => .imm (.bool (bs.any id))
theorem boolsD_den : ∀ {ds : List PyData} {vs : List V} {bs : List Bool}, DenL K H A vs ds → boolsD ds = some bs → vs = bs.map V.bl
  | [], _, bs, h, e => by cases h; cases e; rfl
  | d :: ds, _, bs, h, e => by
    cases h with
    | cons h1 h2 =>
      cases d with
      | bool b =>
        simp only [boolsD] at e
        cases er : boolsD ds with
        | none => rw [er] at e; cases e
        | some r => rw [er] at e; cases e; cases h1; rw [boolsD_den h2 er]; rfl
      | _ => simp [boolsD] at e
theorem cas_all : CaS K so (rAll K) (fun bs => match bs with | [b] => allB b | _ => none) := CaS.of1 fun H0 A0 S σ ρ H A x bx b Q M e q => by
  unfold allB at e
  cases el : toL bx with
  | none => rw [el] at e; cases e
  | some ds =>
  rw [el, Option.bind_some] at e
  cases eb : boolsD ds with
  | none => rw [eb] at e; cases e
  | some bs =>
  rw [eb] at e
  cases e
  obtain ⟨a, vs, rfl, g1, g2⟩ := M.last.lstI el
  exact ⟨a, bs, rfl, by rw [← boolsD_den g2 eb]; exact SqL.of g1, q _ H A (M.flat fun H A => .bl _)⟩
theorem cas_any : CaS K so (rAny K) (fun bs => match bs with | [b] => anyB b | _ => none) := CaS.of1 fun H0 A0 S σ ρ H A x bx b Q M e q => by
  unfold anyB at e
  cases el : toL bx with
  | none => rw [el] at e; cases e
  | some ds =>
  rw [el, Option.bind_some] at e
  cases eb : boolsD ds with
  | none => rw [eb] at e; cases e
  | some bs =>
  rw [eb] at e
  cases e
  obtain ⟨a, vs, rfl, g1, g2⟩ := M.last.lstI el
  exact ⟨a, bs, rfl, by rw [← boolsD_den g2 eb]; exact SqL.of g1, q _ H A (M.flat fun H A => .bl _)⟩
/-- repr of data -/
def reprOk (d : PyData) : Bool := d.showable && !d.hasDict && decide (d.depth ≤ 60) && decide (d.shown.length ≤ sizeLine)
def reprB (b : Bd) : Option Bd := match toD b with
  | some d => if reprOk d = true then some (.imm (.str d.shown)) else none
  | none => none
def rRepr (K : PySem.W.Frag) : List V → Hp → VK → Prop := fun xs H Q => ∃ v d, xs = [v] ∧ Dp K H v d ∧ reprOk d = true ∧ Q (.str d.shown) H
theorem call_reprA {X : Cx} {k : Nat} (hr : Rm k X.A) : CallR X (.builtin "repr") (rRepr X.K) := by
  intro pins s σ H xs us Q I r h
  obtain ⟨v, d, rfl, hd, ok, q⟩ := h
  obtain ⟨u, rfl, ru⟩ := Vals.one r
  simp only [reprOk, Bool.and_eq_true, Bool.not_eq_true', decide_eq_true_eq] at ok
  obtain ⟨⟨⟨o1, o2⟩, o3⟩, o4⟩ := ok
  obtain ⟨as, rd⟩ := Dp.reads I d v u hd ru
  have disp : ∀ a, u = .ref a → wpAny (model X.prog X.w) X.A (call (.builtin "repr") [u]) (EP X pins σ Q) X.xe s := fun a e => by
    subst e
    refine repr_of_reads' rd o1 (PyData.noDict_hsm o2) hr.gd (by have := hr.room.units; omega) (fun _ _ e => e) (fun h' t tk hk => ?_) o4
    exact ⟨.str d.shown, H, I.kept hk, ⟨_, rfl⟩, q⟩
  cases d with
  | none => cases hd; cases ru; exact P.repr_of_none ⟨.str _, H, I.tok _, ⟨_, rfl⟩, q⟩
  | bool b => cases hd; cases ru; exact P.repr_of_bool ⟨.str _, H, I.tok _, ⟨_, rfl⟩, by cases b <;> exact q⟩
  | int i => cases hd; obtain ⟨t, rfl⟩ := ru; exact P.repr_of_int (by simpa [PyData.showable] using o1) ⟨.str _, H, I.tok _, ⟨_, rfl⟩, q⟩
  | str z => cases hd; obtain ⟨t, rfl⟩ := ru; exact P.repr_of_str ⟨.str _, H, I.tok _, ⟨_, rfl⟩, q⟩ o4
  | list ds => cases hd; exact disp _ ru
  | tuple ds => cases hd; exact disp _ ru
  | dict _ => cases hd
theorem cas_repr : CaS K so (rRepr K) (fun bs => match bs with | [b] => reprB b | _ => none) := CaS.of1 fun H0 A0 S σ ρ H A x bx b Q M e q => by
  unfold reprB at e
  split at e
  · rename_i d ed
    split at e
    · rename_i hz
      cases e
      exact ⟨x, d, rfl, M.last.dp ed, hz, q _ H A (M.flat fun H A => .str _)⟩
    · cases e
  · cases e
/-- isinstance(x, T), T a built-in type -/
def tyD : PyData → String
  | .none => "NoneType"
  | .bool _ => "bool"
  | .int _ => "int"
  | .str _ => "str"
  | .list _ => "list"
  | .tuple _ => "tuple"
  | .dict _ => "dict"
def isiB (n : String) (b : Bd) : Option Bd := match toD b with
  | some d => (kitB (tyD d) n).map fun r => .imm (.bool r)
  | none => match b with
    | .dk _ => (kitB "dict" n).map fun r => .imm (.bool r)
    | _ => none
theorem _root_.L2.Dp.tyX {d : PyData} (h : Dp K H v d) : TyX K H v (.type (tyD d)) := by
  cases h with
  | non => exact .base .non
  | bl b => exact .base (.bl b)
  | int i => exact .base (.int i)
  | str s => exact .base (.str s)
  | lst hs hl =>
    rcases hs with (h | ⟨o, h⟩) | ⟨o, its, n, h1, h2, _⟩
    · exact .base (.lst h)
    · exact .base (.frz h)
    · exact .kList h1 h2
  | tup hs hl =>
    rcases hs with (h | ⟨o, h⟩) | ⟨o, its, n, h1, h2, _⟩
    · exact .base (.tup h)
    · exact .fTuple h
    · exact .kTuple h1 h2
theorem uns_isi {n : String} : UnS K so (fun x H Q => rIsi K [x, .ty n] H Q) (isiB n) := fun H0 A0 S σ ρ H A x bx b Q M e q => by
  unfold isiB at e
  split at e
  · rename_i d ed
    cases ek : kitB (tyD d) n with
    | none => rw [ek] at e; cases e
    | some r =>
    rw [ek] at e
    cases e
    exact ⟨x, _, _, _, r, rfl, .ty n, (M.last.dp ed).tyX, kit_ty ek, q _ H A (M.flat fun H A => .bl _)⟩
  · split at e
    · rename_i kvs _
      cases ek : kitB "dict" n with
      | none => rw [ek] at e; cases e
      | some r =>
      rw [ek] at e
      cases e
      obtain ⟨a, kv, rfl, g, _⟩ := M.last
      exact ⟨_, _, _, _, r, rfl, .ty n, .base (.dK g), kit_ty ek, q _ H A (M.flat fun H A => .bl _)⟩
    · cases e
end
end DL
set_option maxRecDepth 100000
set_option maxHeartbeats 2000000
/-! DG: what is walked, comprehensions, own dicts: by data. -/
namespace DL
open PySem PySem.Spec PyProof.Rows L2
section
variable {K : PySem.W.Frag} {so : SO} {H0 H H' : Hp} {A0 A A' : Addr → Prop} {S S' : Src} {σ σ' tv : Sl} {ρ ρ' tb : En} {v x y : V} {b c : Bd}
abbrev SI := En → Src → R (Bool × List PyData)
/-! ### what is walked -/
theorem wk_list {a : Addr} {ds : List PyData} {b : Bd} (e : toL b = some ds) : Wk K so (Itl K a) [some (.ref a)] [some b] ds := by
  refine ⟨rfl, fun H => ∃ vs, SqL K H a vs ∧ vs.length = ds.length, fun i H x H' => H' = H ∧ ∀ xs, SqL K H a xs → xs[i]? = some x, ⟨fun i H hi ⟨vs, g1, g2⟩ => ⟨vs, vs[i], g1, List.getElem?_eq_getElem (by omega)⟩, fun H ⟨vs, g1, g2⟩ => ⟨vs, g1, by omega⟩, fun i H x H' _ _ y => y⟩, ?_, ?_⟩
  · intro H0 A0 S σ ρ H A hl M
    obtain ⟨a', vs, q, g1, g2⟩ := M.last.lstI e
    cases q
    exact ⟨vs, SqL.of g1, g2.length⟩
  · rintro H0 A0 S σ ρ H A i d x H' hl M ed ⟨rfl, y⟩
    obtain ⟨a', vs, q, g1, g2⟩ := M.last.lstI e
    cases q
    obtain ⟨w, e1, e2⟩ := g2.get ed
    have := y vs (SqL.of g1)
    rw [e1] at this
    cases this
    exact ⟨A, M.pushI (b := .imm d) e2 rfl⟩
theorem wk_tup {a : Addr} {ds : List PyData} : Wk K so (Itt K a) [some (.ref a)] [some (.imm (.tuple ds))] ds := by
  refine ⟨rfl, fun H => ∃ vs, SqT K H a vs ∧ vs.length = ds.length, fun i H x H' => H' = H ∧ ∀ xs, SqT K H a xs → xs[i]? = some x, ⟨fun i H hi ⟨vs, g1, g2⟩ => ⟨vs, vs[i], g1, List.getElem?_eq_getElem (by omega)⟩, fun H ⟨vs, g1, g2⟩ => ⟨vs, g1, by omega⟩, fun i H x H' _ _ y => y⟩, ?_, ?_⟩
  · intro H0 A0 S σ ρ H A hl M
    obtain ⟨a', vs, q, g1, g2⟩ := M.last.tupI
    cases q
    exact ⟨vs, g1.sq, g2.length⟩
  · rintro H0 A0 S σ ρ H A i d x H' hl M ed ⟨rfl, y⟩
    obtain ⟨a', vs, q, g1, g2⟩ := M.last.tupI
    cases q
    obtain ⟨w, e1, e2⟩ := g2.get ed
    have := y vs g1.sq
    rw [e1] at this
    cases this
    exact ⟨A, M.pushI (b := .imm d) e2 rfl⟩
/-- signs of a text -/
def signsD (z : Str) : List PyData := z.cps.toList.map fun c => .str ⟨#[c]⟩
theorem wk_str {z : Str} : Wk K so (Its z) [] [] (signsD z) := by
  refine ⟨rfl, fun _ => True, fun i H v H' => H' = H ∧ ∃ c, z.cps[i]? = some c ∧ v = .str ⟨#[c]⟩, ?_, fun _ _ _ _ _ _ _ _ _ => trivial, ?_⟩
  · have : (signsD z).length = z.cps.size := by simp [signsD]
    rw [this]
    exact walk_str
  · rintro H0 A0 S σ ρ H A i d x H' hl M ed ⟨rfl, c, e1, rfl⟩
    have : d = .str ⟨#[c]⟩ := by
      unfold signsD at ed
      rw [List.getElem?_map, Array.getElem?_toList, e1] at ed
      simpa using ed.symm
    subst this
    exact ⟨A, by simpa using M.flat (v := .str ⟨#[c]⟩) (d := .str ⟨#[c]⟩) fun H A => .str _⟩
/-- lo, lo + 1, .. -/
def rangeD (lo : Int) (n : Nat) : List PyData := (List.range n).map fun i => .int (lo + (i : Nat))
theorem wk_range {lo : Int} {n : Nat} : Wk K so (Itr lo n) [] [] (rangeD lo n) := by
  refine ⟨rfl, fun _ => True, YFn fun i => .int (lo + i), ?_, fun _ _ _ _ _ _ _ _ _ => trivial, ?_⟩
  · have : (rangeD lo n).length = n := by simp [rangeD]
    rw [this]
    exact walk_range
  · rintro H0 A0 S σ ρ H A i d x H' hl M ed ⟨rfl, rfl⟩
    have : d = .int (lo + i) := by
      unfold rangeD at ed
      rw [List.getElem?_map] at ed
      cases er : (List.range n)[i]? with
      | none => rw [er] at ed; cases ed
      | some j =>
        rw [er] at ed
        rw [List.getElem?_eq_some_iff] at er
        obtain ⟨h1, h2⟩ := er
        simp at h2
        subst h2
        simpa using ed.symm
    subst this
    exact ⟨A, by simpa using M.flat (v := .int (lo + i)) (d := .int (lo + i)) fun H A => .int _⟩
/-- lo, lo + c, .. -/
def rangeCD (lo c : Int) (n : Nat) : List PyData := (List.range n).map fun i => .int (lo + (i : Nat) * c)
theorem wk_rangeC {lo c : Int} {n : Nat} : Wk K so (Itc lo c n) [] [] (rangeCD lo c n) := by
  refine ⟨rfl, fun _ => True, YFn fun i => .int (lo + (i : Nat) * c), ?_, fun _ _ _ _ _ _ _ _ _ => trivial, ?_⟩
  · have : (rangeCD lo c n).length = n := by simp [rangeCD]
    rw [this]
    exact walk_rangeC
  · rintro H0 A0 S σ ρ H A i d x H' hl M ed ⟨rfl, rfl⟩
    have : d = .int (lo + (i : Nat) * c) := by
      unfold rangeCD at ed
      rw [List.getElem?_map] at ed
      cases er : (List.range n)[i]? with
      | none => rw [er] at ed; cases ed
      | some j =>
        rw [er] at ed
        rw [List.getElem?_eq_some_iff] at er
        obtain ⟨h1, h2⟩ := er
        simp at h2
        subst h2
        simpa using ed.symm
    subst this
    exact ⟨A, by simpa using M.flat (v := .int (lo + (i : Nat) * c)) (d := .int (lo + (i : Nat) * c)) fun H A => .int _⟩
/-- (0, x), (1, y), .. -/
def enumD (ds : List PyData) : List PyData := ds.mapIdx fun i d => .tuple [.int (i : Nat), d]
theorem Mt.pairNew {d e : PyData} {T : Addr} {x y : V} (M : Mt K so H0 A0 S σ ρ H A) (hT : H T = none) (hx : Den K H A x d) (hy : Den K H A y e) (hb : strsT [d, e] = false) : Mt K so H0 A0 S (σ ++ [some (.ref T)]) (ρ ++ [some (.imm (.tuple [d, e]))]) (upd H T (.tup [x, y])) A :=
  M.newT hT (.cons hx (.cons hy .nil)) hb
theorem wk_enum {a : Addr} {ds : List PyData} {b : Bd} (e : toL b = some ds) : Wk K so (Ite K a) [some (.ref a)] [some b] (enumD ds) := by
  refine ⟨rfl, fun H => ∃ vs, SqL K H a vs ∧ vs.length = (enumD ds).length, fun i H v H' => ∃ T x, v = .ref T ∧ H T = none ∧ H' = upd H T (.tup [.int (i : Nat), x]) ∧ ∀ xs, SqL K H a xs → xs[i]? = some x,
    ⟨fun i H hi ⟨vs, g1, g2⟩ => ⟨vs, vs[i], g1, List.getElem?_eq_getElem (by omega)⟩, fun H ⟨vs, g1, g2⟩ => ⟨vs, g1, by omega⟩, fun i H x H' _ _ y => y⟩, ?_, ?_⟩
  · intro H0 A0 S σ ρ H A hl M
    obtain ⟨a', vs, q, g1, g2⟩ := M.last.lstI e
    cases q
    exact ⟨vs, SqL.of g1, by simp [enumD, g2.length]⟩
  · rintro H0 A0 S σ ρ H A i d x H' hl M ed ⟨T, x', rfl, hT, rfl, y⟩
    obtain ⟨a', vs, q, g1, g2⟩ := M.last.lstI e
    cases q
    unfold enumD at ed
    rw [List.getElem?_mapIdx] at ed
    cases ei : ds[i]? with
    | none => rw [ei] at ed; cases ed
    | some d' =>
      rw [ei] at ed
      have : d = .tuple [.int (i : Nat), d'] := by simpa using ed.symm
      subst this
      obtain ⟨w, e1, e2⟩ := g2.get ei
      have := y vs (SqL.of g1)
      rw [e1] at this
      cases this
      exact ⟨A, M.pairNew hT (.int _) e2 rfl⟩
/-- a value walked: a list, a tuple, a text -/
def seqI (b : Bd) : Option (Bool × List PyData) := match toL b with
  | some ds => some (!b.isBor, ds)
  | none => match b with
    | .imm (.tuple ds) => some (true, ds)
    | .imm (.str z) => some (true, signsD z)
    | _ => none
def fiSeq (fe : SE) : SI := fun ρ S => (fe ρ S).bind fun b ρ S => R.of (seqI b) ρ S
def iSeq (K : PySem.W.Frag) (te : TE) : TI := fun σ H R => iList K te σ H R ∨ iTup K te σ H R ∨ iStr te σ H R
theorem pi_seq {X : Cx} {tg e : Expr} {te : TE} (he : PE X e te) : PI X tg e (iSeq X.K te) := ⟨fun pins s σ H R I h => by
  rcases h with h | h | h
  · exact (pi_list he).run pins s σ H R I h
  · exact (pi_tup he).run pins s σ H R I h
  · exact (pi_str he).run pins s σ H R I h⟩
theorem nbOne {b : Bd} (h : b.isBor = false) : NB [some b] := fun c hc => by
  simp at hc
  subst hc
  exact h
theorem rdi_seq {te : TE} {fe : SE} (he : RdE K so te fe) : RdI K so (iSeq K te) (fiSeq fe) := fun H0 A0 S σ ρ tv tb H A Q hl M h => by
  have h' := R.post_bind.mp h
  obtain ⟨b, ρ1, S1, ef, h1⟩ := h'.get
  obtain ⟨p, es, h2⟩ := R.post_of.mp h1
  have go : ∀ (R : V → Hp → Prop), (∀ v1 H1 A1, σ.length = ρ1.length → Mt K so H0 A0 S1 (σ ++ tv ++ [some v1]) (ρ1 ++ tb ++ [some b]) H1 A1 → R v1 H1) → te σ H R := fun R hR =>
    he H0 A0 S σ ρ tv tb H A R hl M (by rw [ef]; exact hR)
  unfold seqI at es
  split at es
  · rename_i ds el
    cases es
    refine .inl (go _ fun v1 H1 A1 hl1 M1 => ?_)
    obtain ⟨a, vs, rfl, g1, g2⟩ := M1.last.lstI el
    exact ⟨a, rfl, ⟨vs, SqL.of g1⟩, h2 _ [some (.ref a)] [some b] H1 A1 hl1 (wk_list el) (fun z => nbOne (by simpa using z)) M1⟩
  · split at es
    · rename_i ds _
      cases es
      refine .inr (.inl (go _ fun v1 H1 A1 hl1 M1 => ?_))
      obtain ⟨a, vs, rfl, g1, g2⟩ := M1.last.tupI
      exact ⟨a, rfl, ⟨vs, g1.sq⟩, h2 _ [some (.ref a)] [some (.imm (.tuple ds))] H1 A1 hl1 wk_tup (fun z => nbOne rfl) M1⟩
    · rename_i z _
      cases es
      refine .inr (.inr (go _ fun v1 H1 A1 hl1 M1 => ?_))
      exact ⟨z, (M1.last.dp rfl).strI, h2 _ [] [] H1 A1 hl1 wk_str (fun z c hc => nomatch hc) (by simpa using M1.init)⟩
    · cases es
/-- range(n), range(a, b), range(a, b, c) -/
def rOk (i j : Int) : Bool := decide (-(2 ^ 62) ≤ i ∧ i < 2 ^ 62 ∧ -(2 ^ 62) ≤ j ∧ j < 2 ^ 62)
def rng1I (bs : List Bd) : Option (Bool × List PyData) := match bs with
  | [a] => match toD a with
    | some (.int j) => if rOk 0 j = true then some (true, rangeD 0 j.toNat) else none
    | _ => none
  | _ => none
def rng2I (bs : List Bd) : Option (Bool × List PyData) := match bs with
  | [a, b] => match toD a, toD b with
    | some (.int i), some (.int j) => if rOk i j = true then some (true, rangeD i (j - i).toNat) else none
    | _, _ => none
  | _ => none
def fiAr (o : List Bd → Option (Bool × List PyData)) (fa : SA) : SI := fun ρ S => (fa ρ S).bind fun bs ρ S => R.of (o bs) ρ S
theorem Mt.at1 {vs : List V} (M : Mt K so H0 A0 S (σ ++ vs.map some) (ρ ++ [b].map some) H A) (hl : σ.length = ρ.length) : ∃ x, vs = [x] ∧ Mt K so H0 A0 S (σ ++ [some x]) (ρ ++ [some b]) H A := by
  have := M.len
  simp [hl] at this
  match vs, this with
  | [x], _ => exact ⟨x, rfl, by simpa using M⟩
theorem Mt.at2 {vs : List V} (M : Mt K so H0 A0 S (σ ++ vs.map some) (ρ ++ [b, c].map some) H A) (hl : σ.length = ρ.length) : ∃ x y, vs = [x, y] ∧ Mt K so H0 A0 S (σ ++ [some x] ++ [some y]) (ρ ++ [some b] ++ [some c]) H A := by
  have := M.len
  simp [hl] at this
  match vs, this with
  | [x, y], _ => exact ⟨x, y, rfl, by simpa using M⟩
theorem rdi_rng1 {ta : TA} {fa : SA} (ha : RdA K so ta fa) : RdI K so (iRng1 ta) (fiAr rng1I fa) := fun H0 A0 S σ ρ tv tb H A Q hl M h => by
  refine ha H0 A0 S σ ρ tv tb H A _ hl M ?_
  refine (R.post_bind.mp h).imp fun bs ρ1 S1 h vs H1 A1 hl1 hn M1 => ?_
  obtain ⟨p, e, h⟩ := R.post_of.mp h
  have hlt : (σ ++ tv).length = (ρ1 ++ tb).length := by have := M1.len; simp at this ⊢; omega
  unfold rng1I at e
  split at e
  · rename_i a
    split at e
    · rename_i j ej
      split at e
      · rename_i hz
        cases e
        obtain ⟨x, rfl, M2⟩ := M1.at1 hlt
        simp only [rOk, decide_eq_true_eq] at hz
        exact ⟨j, by rw [(M2.last.dp ej).intI], hz.2.2.1, hz.2.2.2, h _ [] [] H1 A1 hl1 wk_range (fun z c hc => nomatch hc) (by simpa using M2.init)⟩
      · cases e
    · cases e
  · cases e
theorem rdi_rng2 {ta : TA} {fa : SA} (ha : RdA K so ta fa) : RdI K so (iRng2 ta) (fiAr rng2I fa) := fun H0 A0 S σ ρ tv tb H A Q hl M h => by
  refine ha H0 A0 S σ ρ tv tb H A _ hl M ?_
  refine (R.post_bind.mp h).imp fun bs ρ1 S1 h vs H1 A1 hl1 hn M1 => ?_
  obtain ⟨p, e, h⟩ := R.post_of.mp h
  have hlt : (σ ++ tv).length = (ρ1 ++ tb).length := by have := M1.len; simp at this ⊢; omega
  unfold rng2I at e
  split at e
  · rename_i a b
    split at e
    · rename_i i j ei ej
      split at e
      · rename_i hz
        cases e
        obtain ⟨x, y, rfl, M2⟩ := M1.at2 hlt
        simp only [rOk, decide_eq_true_eq] at hz
        exact ⟨i, j, by rw [(M2.init.last.dp ei).intI, (M2.last.dp ej).intI], hz, h _ [] [] H1 A1 hl1 wk_range (fun z c hc => nomatch hc) (by simpa using M2.init.init)⟩
      · cases e
    · cases e
  · cases e
/-- enumerate(a list) -/
def enumI (bs : List Bd) : Option (Bool × List PyData) := match bs with
  | [b] => (toL b).map fun ds => (!b.isBor, enumD ds)
  | _ => none
theorem rdi_enum {ta : TA} {fa : SA} (ha : RdA K so ta fa) : RdI K so (iEnum K ta) (fiAr enumI fa) := fun H0 A0 S σ ρ tv tb H A Q hl M h => by
  refine ha H0 A0 S σ ρ tv tb H A _ hl M ?_
  refine (R.post_bind.mp h).imp fun bs ρ1 S1 h vs H1 A1 hl1 hn M1 => ?_
  obtain ⟨p, e, h⟩ := R.post_of.mp h
  have hlt : (σ ++ tv).length = (ρ1 ++ tb).length := by have := M1.len; simp at this ⊢; omega
  unfold enumI at e
  split at e
  · rename_i b
    cases el : toL b with
    | none => rw [el] at e; cases e
    | some ds =>
    rw [el] at e
    cases e
    obtain ⟨x, rfl, M2⟩ := M1.at1 hlt
    obtain ⟨a, vs, rfl, g1, g2⟩ := M2.last.lstI el
    exact ⟨a, vs, rfl, SqL.of g1, h _ [some (.ref a)] [some b] H1 A1 hl1 (wk_enum el) (fun z => nbOne (by simpa using z)) M2⟩
  · cases e
/-! ### comprehensions -/
def wE (ρ : En) : List Nat → En
  | [] => ρ
  | v :: vs => (wE ρ vs).set v none
theorem wE_length (ρ : En) : ∀ vs, (wE ρ vs).length = ρ.length
  | [] => rfl
  | v :: vs => by simp [wE, wE_length ρ vs]
theorem wE_some {i : Nat} {b : Bd} : ∀ {vs : List Nat}, (wE ρ vs)[i]? = some (some b) → ρ[i]? = some (some b) ∧ i ∉ vs
  | [], h => ⟨h, by simp⟩
  | v :: vs, h => by
    unfold wE at h
    by_cases hi : v = i
    · subst hi
      by_cases hv : v < (wE ρ vs).length
      · rw [List.getElem?_set_self hv] at h; cases h
      · rw [List.getElem?_eq_none (by simpa using hv)] at h; cases h
    · rw [List.getElem?_set_ne hi] at h
      obtain ⟨h1, h2⟩ := wE_some h
      exact ⟨h1, by simp only [List.mem_cons, not_or]; exact ⟨fun e => hi e.symm, h2⟩⟩
theorem Mt.app_weak {σ2 : Sl} {ρ2 : En} (M : Mt K so H0 A0 S (σ ++ tv) (ρ ++ tb) H A) (hl : σ.length = ρ.length) (h1 : σ2.length = σ.length) (h2 : ρ2.length = ρ.length) (h : ∀ (i : Nat) (b : Bd), ρ2[i]? = some (some b) → ρ[i]? = some (some b) ∧ σ2[i]? = σ[i]?) :
    Mt K so H0 A0 S (σ2 ++ tv) (ρ2 ++ tb) H A :=
  M.weak (by have := M.len; simp at this ⊢; omega) fun i b e => by
    by_cases hi : i < ρ2.length
    · rw [List.getElem?_append_left hi] at e
      obtain ⟨g1, g2⟩ := h i b e
      exact ⟨by rw [List.getElem?_append_left (by omega)]; exact g1, by rw [List.getElem?_append_left (by omega), List.getElem?_append_left (by omega)]; exact g2⟩
    · rw [List.getElem?_append_right (by omega)] at e
      exact ⟨by rw [List.getElem?_append_right (by omega), ← h2]; exact e, by rw [List.getElem?_append_right (by omega), List.getElem?_append_right (by omega), h1]⟩
theorem Mt.wiped (M : Mt K so H0 A0 S (σ ++ tv) (ρ ++ tb) H A) (hl : σ.length = ρ.length) (vs : List Nat) : Mt K so H0 A0 S (wipe σ vs ++ tv) (wE ρ vs ++ tb) H A :=
  M.app_weak hl (wipe_length σ vs) (wE_length ρ vs) fun i b e => by
    obtain ⟨g1, g2⟩ := wE_some e
    exact ⟨g1, wipe_out g2⟩
theorem Mt.unwiped (M : Mt K so H0 A0 S (wipe σ vs ++ tv) (ρ ++ tb) H A) (hl : σ.length = ρ.length) : Mt K so H0 A0 S (σ ++ tv) (wE ρ vs ++ tb) H A :=
  M.app_weak (by rw [wipe_length]; exact hl) (wipe_length σ vs).symm (wE_length ρ vs) fun i b e => by
    obtain ⟨g1, g2⟩ := wE_some e
    exact ⟨g1, (wipe_out g2).symm⟩
theorem wipe_get {i : Nat} {vs : List Nat} (h : i ∈ vs) : (wipe σ vs)[i]? = if i < σ.length then some none else none := by
  induction vs with
  | nil => cases h
  | cons v vs ih =>
    unfold wipe
    by_cases e : v = i
    · subst e
      by_cases hv : v < σ.length
      · rw [List.getElem?_set_self (by rw [wipe_length]; exact hv), if_pos hv]
      · rw [List.getElem?_eq_none (by simpa [wipe_length] using hv), if_neg hv]
    · rw [List.getElem?_set_ne e]
      rcases List.mem_cons.mp h with z | z
      · exact absurd z.symm e
      · exact ih z
theorem Off.wiped {is vs : List Nat} (o : Off is (wipe σ vs) σ') (hs : ∀ i ∈ is, i ∈ vs) : wipe σ' vs = wipe σ vs := by
  apply List.ext_getElem?
  intro j
  by_cases hj : j ∈ vs
  · rw [wipe_get hj, wipe_get hj]
    have := o.len
    rw [wipe_length] at this
    rw [this]
  · rw [wipe_out hj, o.off j (fun z => hj (hs j z))]
def lcS (vs : List Nat) (s : Bd → En → Option En) (c : SB) (fe : SE) : List PyData → List PyData → En → Src → R (List PyData)
  | [], acc, ρ, S => .ok acc ρ S
  | d :: ds, acc, ρ, S => match s (.imm d) (wE ρ vs) with
    | none => .bad
    | some ρ1 => (c ρ1 S).bind fun k ρ2 S2 => if k = true then (fe ρ2 S2).bind fun b ρ3 S3 => match toF b with
        | some e => if (nbE ρ3 && decide (acc.length < 1000000)) = true then lcS vs s c fe ds (acc ++ [e]) ρ3 S3 else .bad
        | none => .bad
      else lcS vs s c fe ds acc ρ2 S2
def fLc (vs : List Nat) (s : Bd → En → Option En) (fi : SI) (c : SB) (fe : SE) : SE := fun ρ S => (fi ρ S).bind fun p ρ S => (lcS vs s c fe p.2 [] ρ S).bind fun acc ρ S => .ok (.lst acc) (wE ρ vs) S
def bYes : SB := fun ρ S => .ok true ρ S
theorem rdt_yes : RdT K so tYes bYes := fun H0 A0 S σ ρ tv tb H A Q hl M h => h H A hl M
/-- the last one stands ahead -/
theorem Mt.swapR {xs : Sl} {ys : En} {u : Option V} {d : Option Bd} (M : Mt K so H0 A0 S (σ ++ xs ++ [u]) (ρ ++ ys ++ [d]) H A) (hl : σ.length = ρ.length) (hx : xs.length = ys.length) : Mt K so H0 A0 S (σ ++ [u] ++ xs) (ρ ++ [d] ++ ys) H A := by
  have key : ∀ {α : Type} (l m : List α) (z : α) (i : Nat), (l ++ [z] ++ m)[i]? = (l ++ m ++ [z])[if i < l.length then i else if i = l.length then l.length + m.length else if i ≤ l.length + m.length then i - 1 else i]? := fun {α} l m z i => by
    by_cases h1 : i < l.length
    · rw [if_pos h1, List.append_assoc, List.append_assoc, List.getElem?_append_left h1, List.getElem?_append_left h1]
    · rw [if_neg h1]
      by_cases h2 : i = l.length
      · have e1 : (l ++ [z] ++ m)[l.length]? = some z := by simp
        have e2 : (l ++ m ++ [z])[l.length + m.length]? = some z := by rw [← List.length_append]; simp
        rw [if_pos h2, h2, e1, e2]
      · rw [if_neg h2]
        by_cases h3 : i ≤ l.length + m.length
        · rw [if_pos h3, List.getElem?_append_right (by simp; omega), List.getElem?_append_left (by simp; omega), List.getElem?_append_right (by omega)]
          congr 1
          rw [List.length_append, List.length_singleton]
          omega
        · rw [if_neg h3, List.getElem?_eq_none (by simp; omega), List.getElem?_eq_none (by simp; omega)]
  refine M.re (fun i => if i < ρ.length then i else if i = ρ.length then ρ.length + ys.length else if i ≤ ρ.length + ys.length then i - 1 else i) (by simp [hl, hx]) (fun i b e => ⟨by rw [← key]; exact e, ?_⟩) fun i j b b' ne e1 e2 _ _ => ?_
  · have := key σ xs u i
    rw [hl, hx] at this
    exact this
  · have h1 := getlt e1
    have h2 := getlt e2
    simp at h1 h2
    show (if i < ρ.length then i else if i = ρ.length then ρ.length + ys.length else if i ≤ ρ.length + ys.length then i - 1 else i) ≠ (if j < ρ.length then j else if j = ρ.length then ρ.length + ys.length else if j ≤ ρ.length + ys.length then j - 1 else j)
    intro z
    (repeat' split at z) <;> omega
theorem wE_idem (ρ : En) (l : List Nat) : ∀ (i : Nat) (b : Bd), (wE ρ l)[i]? = some (some b) → ρ[i]? = some (some b) := fun i b e => (wE_some e).1
theorem rd_lc {wi : TI} {g : TG} {tt : TT} {te : TE} {vs is : List Nat} {s : Bd → En → Option En} {fi : SI} {c : SB} {fe : SE} (hi : RdI K so wi fi) (hg : RdG K so g s is) (hs : ∀ i ∈ is, i ∈ vs) (ht : RdT K so tt c) (he : RdE K so te fe) :
    RdE K so (tLc wi g tt te vs) (fLc vs s fi c fe) := fun H0 A0 S σ ρ tv tb H A Q hl M h => by
  refine hi H0 A0 S σ ρ tv tb H A _ hl M ?_
  refine (R.post_bind.mp h).imp fun p ρ1 S1 h J hv hb H1 A1 hl1 W _ M1 => ?_
  intro D hD
  obtain ⟨G, Y, walk, hG, hY⟩ := W.ex
  have hW := W.len
  have hx : tv.length = tb.length := by have := M1.len; simp at this; omega
  -- borrowed ones are not the new list
  have nD : ∀ (j : Nat) (es : List PyData), (tb ++ hb)[j]? = some (some (.bor es)) → (tv ++ hv)[j]? ≠ some (some (.ref D)) := fun j es e1 e2 => by
    have M1' : Mt K so H0 A0 S1 (σ ++ (tv ++ hv)) (ρ1 ++ (tb ++ hb)) H1 A1 := by simpa only [List.append_assoc] using M1
    obtain ⟨v, e3, o⟩ := M1'.bd (ρ1.length + j) (.bor es) (by rw [List.getElem?_append_right (by omega), Nat.add_sub_cancel_left]; exact e1)
    rw [← hl1, List.getElem?_append_right (by omega), Nat.add_sub_cancel_left, e2] at e3
    cases e3
    obtain ⟨a, xs, q, ha, _⟩ := o
    cases q
    rw [hD] at ha; cases ha
  let Pv : Nat → Hp → Prop := fun i H' => ∃ (ρ' : En) (S' : Src) (A' : Addr → Prop) (acc : List PyData), σ.length = ρ'.length ∧ Mt K so H0 A0 S' (wipe σ vs ++ tv ++ [some (.ref D)] ++ hv) (wE ρ' vs ++ tb ++ [some (.lst acc)] ++ hb) H' A' ∧
    ((lcS vs s c fe (p.2.drop i) acc ρ' S').bind fun acc ρ S => .ok (.lst acc) (wE ρ vs) S).Post (fun b ρ' S' => ∀ v H' A', σ.length = ρ'.length → Mt K so H0 A0 S' (σ ++ tv ++ [some v]) (ρ' ++ tb ++ [some b]) H' A' → Q v H')
  refine lc_it walk Pv ?_ (fun i H' _ q => ?_) (fun i x H' H2 hlt q y => ?_) (fun H' q => ?_)
  · have M2 : Mt K so H0 A0 S1 (wipe σ vs ++ tv ++ hv) (wE ρ1 vs ++ tb ++ hb) H1 A1 := by
      have := Mt.wiped (tv := tv ++ hv) (tb := tb ++ hb) (by simpa only [List.append_assoc] using M1) hl1 vs
      simpa only [List.append_assoc] using this
    have M3 := M2.newL (xs := []) (ds := []) hD .nil
    exact ⟨ρ1, S1, A1, [], hl1, M3.swapR (by simp [wipe_length, wE_length]; omega) hW, by simpa using h⟩
  · obtain ⟨ρ', S', A', acc, l, m, _⟩ := q
    exact hG H0 A0 S' (wipe σ vs ++ tv ++ [some (.ref D)]) (wE ρ' vs ++ tb ++ [some (.lst acc)]) H' A' (by simp [wipe_length, wE_length]; omega) m
  · obtain ⟨ρ', S', A', acc, l, m, po⟩ := q
    have ed : p.2[i]? = some p.2[i] := List.getElem?_eq_getElem hlt
    rw [List.drop_eq_getElem_cons hlt] at po
    simp only [lcS] at po
    obtain ⟨A2, m2⟩ := hY H0 A0 S' (wipe σ vs ++ tv ++ [some (.ref D)]) (wE ρ' vs ++ tb ++ [some (.lst acc)]) H' A' i p.2[i] x H2 (by simp [wipe_length, wE_length]; omega) m ed y
    cases es : s (.imm p.2[i]) (wE ρ' vs) with
    | none => rw [es] at po; exact po.elim
    | some ρ2 =>
    rw [es] at po
    simp only at po
    refine hg H0 A0 S' (wipe σ vs) (wE ρ' vs) ρ2 (tv ++ [some (.ref D)] ++ hv) (tb ++ [some (.lst acc)] ++ hb) H2 A2 x _ _ (by rw [wipe_length, wE_length]; exact l) (by simpa only [List.append_assoc] using m2) es fun σ3 H3 A3 l3 off3 m3 => ?_
    have wp := off3.wiped hs
    refine ⟨wp, ht H0 A0 S' σ3 ρ2 (tv ++ [some (.ref D)] ++ hv) (tb ++ [some (.lst acc)] ++ hb) H3 A3 _ l3 m3 ?_⟩
    have l3' : σ3.length = σ.length := by have := congrArg List.length wp; simpa [wipe_length] using this
    have po2 := R.post_bind.mp po
    have po3 := R.post_bind.mp po2
    refine po3.imp fun k ρ4 S4 po4 H4 A4 l4 m4 => ?_
    cases k with
    | false =>
      rw [if_neg Bool.false_ne_true] at po4 ⊢
      refine ⟨ρ4, S4, A4, acc, by omega, ?_, R.post_bind.mpr po4⟩
      have := Mt.wiped (tv := tv ++ [some (.ref D)] ++ hv) (tb := tb ++ [some (.lst acc)] ++ hb) m4 l4 vs
      rw [wp] at this
      simpa only [List.append_assoc] using this
    | true =>
      rw [if_pos rfl] at po4 ⊢
      refine he H0 A0 S4 σ3 ρ4 (tv ++ [some (.ref D)] ++ hv) (tb ++ [some (.lst acc)] ++ hb) H4 A4 _ l4 m4 ?_
      refine (R.post_bind.mp po4).imp fun b ρ5 S5 po5 v5 H5 A5 l5 m5 => ?_
      cases ef : toF b with
      | none => rw [ef] at po5; exact po5.elim
      | some e =>
      rw [ef] at po5
      simp only at po5
      split at po5
      · rename_i hz
        simp only [Bool.and_eq_true, decide_eq_true_eq] at hz
        obtain ⟨A6, m6⟩ := m5.frz1 ef
        have de : Den K H5 A6 v5 e := m6.last
        have m7 : Mt K so H0 A0 S5 (σ3 ++ tv ++ [some (.ref D)] ++ hv) (ρ5 ++ tb ++ [some (.lst acc)] ++ hb) H5 A6 := by simpa only [List.append_assoc] using m6.init
        have eD : (ρ5 ++ tb ++ [some (Bd.lst acc)] ++ hb)[ρ5.length + tb.length]? = some (some (.lst acc)) := by
          rw [List.append_assoc, List.getElem?_append_right (by simp), List.length_append, Nat.sub_self]; rfl
        have vD : (σ3 ++ tv ++ [some (V.ref D)] ++ hv)[ρ5.length + tb.length]? = some (some (.ref D)) := by
          rw [List.append_assoc, List.getElem?_append_right (by simp; omega), List.length_append, show ρ5.length + tb.length - (σ3.length + tv.length) = 0 by omega]; rfl
        obtain ⟨w, e1, a', xs, q, ha, _, _, hd⟩ := m7.bd _ _ eD
        rw [vD] at e1
        cases e1
        cases q
        refine ⟨xs, ha, lim1 (by rw [hd.length]; exact hz.2), ρ5, S5, A6, acc ++ [e], by omega, ?_, R.post_bind.mpr po5⟩
        have m8 := m7.mut (i := ρ5.length + tb.length) (ds := acc) (ds' := acc ++ [e]) (a := D) (vs' := xs ++ [v5]) (fun j es e1 e2 => ?_) eD vD (hd.append (.one de))
        · have m9 : Mt K so H0 A0 S5 (σ3 ++ (tv ++ [some (.ref D)] ++ hv)) (ρ5 ++ (tb ++ [some (.lst (acc ++ [e]))] ++ hb)) (upd H5 D (.lst (xs ++ [v5]))) A6 := by
            have e9 : (ρ5 ++ tb ++ [some (Bd.lst acc)] ++ hb).set (ρ5.length + tb.length) (some (.lst (acc ++ [e]))) = ρ5 ++ (tb ++ [some (.lst (acc ++ [e]))] ++ hb) := by
              rw [set_app (by simp), List.set_append, if_neg (by simp), List.length_append, Nat.sub_self]
              simp
            rw [e9] at m8
            simpa only [List.append_assoc] using m8
          have := Mt.wiped m9 l5 vs
          rw [wp] at this
          simpa only [List.append_assoc] using this
        · -- no borrowed list is the new one
          by_cases h1 : j < ρ5.length
          · rw [List.append_assoc, List.append_assoc, List.getElem?_append_left h1] at e1
            have := nbE_nb hz.1 _ (List.mem_of_getElem? e1)
            cases this
          · by_cases h2 : j < ρ5.length + tb.length
            · rw [List.append_assoc, List.append_assoc, List.getElem?_append_right (by omega), List.getElem?_append_left (by omega)] at e1
              rw [List.append_assoc, List.append_assoc, List.getElem?_append_right (by omega), List.getElem?_append_left (by omega)] at e2
              exact nD (j - ρ5.length) es (by rw [List.getElem?_append_left (by omega)]; exact e1) (by rw [List.getElem?_append_left (by omega), ← l5]; exact e2)
            · by_cases h3 : j = ρ5.length + tb.length
              · rw [h3, eD] at e1; cases e1
              · rw [List.getElem?_append_right (by simp; omega)] at e1 e2
                simp only [List.length_append, List.length_singleton] at e1 e2
                refine nD (j - ρ5.length - 1) es ?_ ?_
                · rw [List.getElem?_append_right (by omega), ← e1]; congr 1; omega
                · rw [List.getElem?_append_right (by omega), ← e2]; congr 1; omega
      · exact po5.elim
  · obtain ⟨ρ', S', A', acc, l, m, po⟩ := q
    rw [List.drop_of_length_le (Nat.le_refl _)] at po
    have m1 : Mt K so H0 A0 S' (wipe σ vs ++ (tv ++ [some (.ref D)])) (wE ρ' vs ++ (tb ++ [some (.lst acc)])) H' A' := by
      have := m.sub (by simp [wipe_length, wE_length]; omega)
      simpa only [List.append_assoc] using this
    have m2 : Mt K so H0 A0 S' (σ ++ (tv ++ [some (.ref D)])) (wE ρ' vs ++ (tb ++ [some (.lst acc)])) H' A' :=
      m1.app_weak (by rw [wipe_length, wE_length]; exact l) (wipe_length σ vs).symm rfl fun i b e => ⟨e, (wipe_out (wE_some e).2).symm⟩
    exact po _ H' A' (by rw [wE_length]; exact l) (by simpa only [List.append_assoc] using m2)
end
end DL
set_option maxRecDepth 100000
set_option maxHeartbeats 2000000
/-! DH: own dicts by data; the law's call. -/
namespace DL
open PySem PySem.Spec PyProof.Rows L2
/-! ### dicts as lists of pairs -/
section
variable {κ α : Type} [DecidableEq κ]
def getK (kvs : List (κ × α)) (k : κ) : Option α := (kvs.find? fun kv => decide (kv.1 = k)).map (·.2)
def putD (kvs : List (κ × α)) (k : κ) (v : α) : List (κ × α) :=
  if (kvs.any fun kv => decide (kv.1 = k)) = true then kvs.map (fun kv => if kv.1 = k then (kv.1, v) else kv) else kvs ++ [(k, v)]
end
section
variable {κ : Type} [DecidableEq κ] {K : PySem.W.Frag} {H : Hp} {A : Addr → Prop}
theorem DKV.get (k : κ) : ∀ {kv : List (κ × V)} {kvs : List (κ × PyData)}, DKV K H A kv kvs → (valV kv k = none ∧ getK kvs k = none) ∨ ∃ v d, valV kv k = some v ∧ getK kvs k = some d ∧ Den K H A v d
  | _, _, .nil => .inl ⟨rfl, rfl⟩
  | p :: kv, q :: kvs, .cons r t => by
    by_cases e : p.1 = k
    · refine .inr ⟨p.2, q.2, valV_pos e, ?_, r.2⟩
      simp [getK, List.find?_cons, ← r.1, e]
    · have e2 : ¬ q.1 = k := by rw [← r.1]; exact e
      have g : getK (q :: kvs) k = getK kvs k := by simp [getK, List.find?_cons, e2]
      rw [valV_neg e, g]
      exact DKV.get k t
theorem DKV.any (k : κ) : ∀ {kv : List (κ × V)} {kvs : List (κ × PyData)}, DKV K H A kv kvs → (kv.any fun p => decide (p.1 = k)) = kvs.any fun p => decide (p.1 = k)
  | _, _, .nil => rfl
  | p :: kv, q :: kvs, .cons r t => by rw [List.any_cons, List.any_cons, DKV.any k t, r.1]
theorem DKV.repl (k : κ) {v : V} {d : PyData} (hd : Den K H A v d) : ∀ {kv : List (κ × V)} {kvs : List (κ × PyData)}, DKV K H A kv kvs → DKV K H A (kv.map fun p => if p.1 = k then (p.1, v) else p) (kvs.map fun p => if p.1 = k then (p.1, d) else p)
  | _, _, .nil => .nil
  | p :: kv, q :: kvs, .cons r t => by
    refine .cons ?_ (DKV.repl k hd t)
    simp only []
    rw [← r.1]
    by_cases e : p.1 = k
    · rw [if_pos e, if_pos e]; exact ⟨rfl, hd⟩
    · rw [if_neg e, if_neg e]; exact r
theorem DKV.app : ∀ {kv kv' : List (κ × V)} {kvs kvs' : List (κ × PyData)}, DKV K H A kv kvs → DKV K H A kv' kvs' → DKV K H A (kv ++ kv') (kvs ++ kvs')
  | _, _, _, _, .nil, h => h
  | _, _, _, _, .cons r t, h => .cons r (DKV.app t h)
theorem DKV.put (k : κ) {v : V} {d : PyData} {kv : List (κ × V)} {kvs : List (κ × PyData)} (h : DKV K H A kv kvs) (hd : Den K H A v d) : DKV K H A (putK kv k v) (putD kvs k d) := by
  unfold putK putD
  rw [DKV.any k h]
  split
  · exact DKV.repl k hd h
  · exact h.app (.cons ⟨rfl, hd⟩ .nil)
theorem DKV.len : ∀ {kv : List (κ × V)} {kvs : List (κ × PyData)}, DKV K H A kv kvs → kv.length = kvs.length
  | _, _, .nil => rfl
  | _, _, .cons _ t => by rw [List.length_cons, List.length_cons, DKV.len t]
end
def keyOfD : PyData → Option Key
  | .int i => some (.inl i)
  | .str s => some (.inr s)
  | _ => none
def keysOfD : List PyData → Option (List Key)
  | [] => some []
  | d :: ds => match keyOfD d, keysOfD ds with
    | some k, some ks => some (k :: ks)
    | _, _ => none
/-- the key of a tuple -/
def tkeyD : Bd → Option (List Key)
  | .imm (.tuple ds) => if strsT ds = true then none else keysOfD ds
  | _ => none
def keyB (b : Bd) : Option Key := (toD b).bind keyOfD
section
variable {K : PySem.W.Frag} {so : SO} {H0 H H' : Hp} {A0 A A' : Addr → Prop} {S S' : Src} {σ σ' tv : Sl} {ρ ρ' tb : En} {v x y : V} {b c : Bd}
theorem keyOfD_v {d : PyData} {k : Key} (h : Dp K H v d) (e : keyOfD d = some k) : v = kV k := by
  cases h <;> first | (cases e; rfl) | cases e
theorem keysOfD_v : ∀ {ds : List PyData} {vs : List V} {ks : List Key}, DenL K H A vs ds → keysOfD ds = some ks → vs = ks.map kV
  | [], _, ks, h, e => by cases h; cases e; rfl
  | d :: ds, _, ks, h, e => by
    cases h with
    | cons h1 h2 =>
      simp only [keysOfD] at e
      cases e1 : keyOfD d with
      | none => rw [e1] at e; cases e
      | some k =>
      cases e2 : keysOfD ds with
      | none => rw [e1, e2] at e; cases e
      | some ks' =>
      rw [e1, e2] at e
      cases e
      rw [keyOfD_v h1.dp e1, keysOfD_v h2 e2]
      rfl
/-- any own thing is changed -/
theorem Mt.mutG (M : Mt K so H0 A0 S σ ρ H A) {i : Nat} {b b' : Bd} {a : Addr} {o' : HO} (ho : b.own = true) (h : ρ[i]? = some (some b)) (hv : σ[i]? = some (some (.ref a)))
    (nb : ∀ (j : Nat) (es : List PyData), ρ[j]? = some (some (.bor es)) → σ[j]? ≠ some (some (.ref a)))
    (nt : ∀ u, tupHO u = true → H a ≠ some u) (new : (∀ b xs, A b → H b = some (.lst xs) → upd H a o' b = some (.lst xs)) → (∀ c u, tupHO u = true → H c = some u → upd H a o' c = some u) → ¬ A a → H0 a = none → OOk K so H0 (upd H a o') A (.ref a) b') :
    Mt K so H0 A0 S σ (ρ.set i (some b')) (upd H a o') A := by
  obtain ⟨v, e1, ok⟩ := M.bd i _ h
  rw [hv] at e1
  cases e1
  obtain ⟨a', x0, q, ha, h0, na⟩ := ok.there ho
  cases q
  have hi := getlt h
  have nh := M.n0 h0
  have hAk : ∀ b xs, A b → H b = some (.lst xs) → upd H a o' b = some (.lst xs) := fun b xs hb e => by
    rw [upd_ne (show b ≠ a from fun z => na (by rw [← z]; exact hb))]; exact e
  have hT : ∀ c u, tupHO u = true → H c = some u → upd H a o' c = some u := fun c u t q => by
    rw [upd_ne (show c ≠ a from fun z => nt u t (by rw [← z]; exact q))]; exact q
  refine ⟨by simp [M.len], fun b x e n => ?_, M.a0, M.an, fun b q => ?_, M.ns, M.so0, M.src.keepd fun b q => upd_ne (show b ≠ a from fun z => nh (by rw [← z]; exact q)), fun k c e => ?_, fun k j c c' w ne e2 e3 o1 o2 e4 => ?_⟩
  · rw [upd_ne (fun z => by rw [z, h0] at e; cases e)]; exact M.keep b x e n
  · obtain ⟨xs, z⟩ := M.fz b q
    exact ⟨xs, hAk b xs q z⟩
  · by_cases z : k = i
    · subst z
      rw [List.getElem?_set_self hi] at e
      cases e
      exact ⟨_, hv, new hAk hT na h0⟩
    · rw [List.getElem?_set_ne (Ne.symm z)] at e
      obtain ⟨w, e5, o⟩ := M.bd k c e
      refine ⟨w, e5, ?_⟩
      have nea : ∀ a2, w = .ref a2 → c.own = true → a2 ≠ a := fun a2 ew ho2 q => by
        subst q; subst ew
        exact M.sep k i c _ _ z e h ho2 ho e5 hv
      cases c with
      | imm d => exact Den.mono (fun _ q => q) hAk hT o
      | bor es =>
        obtain ⟨a2, vs2, rfl, g1, g2, g3⟩ := o
        have ne : a2 ≠ a := fun q => nb k es e (by rw [e5, q])
        exact ⟨a2, vs2, rfl, by rw [upd_ne ne]; exact g1, g2, g3.mono (fun _ q => q) hAk hT⟩
      | lst ds2 =>
        obtain ⟨a2, vs2, rfl, g1, g2, g3, g4⟩ := o
        exact ⟨a2, vs2, rfl, by rw [upd_ne (nea a2 rfl rfl)]; exact g1, g2, g3, g4.mono (fun _ q => q) hAk hT⟩
      | dk kvs =>
        obtain ⟨a2, kv, rfl, g1, g2, g3, g4⟩ := o
        exact ⟨a2, kv, rfl, by rw [upd_ne (nea a2 rfl rfl)]; exact g1, g2, g3, Paired.mapP g4 fun p q z => ⟨z.1, Den.mono (fun _ q => q) hAk hT z.2⟩⟩
      | dt kvs =>
        obtain ⟨a2, kv, rfl, g1, g2, g3, g4⟩ := o
        exact ⟨a2, kv, rfl, by rw [upd_ne (nea a2 rfl rfl)]; exact g1, g2, g3, Paired.mapP g4 fun p q z => ⟨z.1, Den.mono (fun _ q => q) hAk hT z.2⟩⟩
      | src => exact o
      | ref _ => exact o
      | wr _ => exact o
  · have old : ∀ {k : Nat} {c : Bd}, (ρ.set i (some b'))[k]? = some (some c) → c.own = true → ∃ c2, ρ[k]? = some (some c2) ∧ c2.own = true := fun {k c} e hoc => by
      by_cases z : k = i
      · subst z
        exact ⟨_, h, ho⟩
      · rw [List.getElem?_set_ne (Ne.symm z)] at e; exact ⟨c, e, hoc⟩
    obtain ⟨d1, f1, f2⟩ := old e2 o1
    obtain ⟨d2, f3, f4⟩ := old e3 o2
    exact M.sep k j d1 d2 w ne f1 f3 f2 f4 e4
/-! ### {} -/
def fNewK : SE := fun ρ S => .ok (.dk []) ρ S
def fNewT : SE := fun ρ S => .ok (.dt []) ρ S
theorem rd_newK : RdE K so tDNewK fNewK := fun H0 A0 S σ ρ tv tb H A Q hl M h p hp => by
  refine h (.ref p) _ A hl ?_
  exact (M.new (o := .dK []) hp).push ⟨p, [], rfl, upd_same, M.nA hp, M.h0 hp, .nil⟩ fun _ => M.fresh hp
theorem rd_newT : RdE K so tDNewT fNewT := fun H0 A0 S σ ρ tv tb H A Q hl M h p hp => by
  refine h (.ref p) _ A hl ?_
  exact (M.new (o := .dT []) hp).push ⟨p, [], rfl, upd_same, M.nA hp, M.h0 hp, .nil⟩ fun _ => M.fresh hp
/-! ### asked -/
/-- what an own dict at a slot holds at a key -/
def dGet (i : Nat) (ρ : En) (k : Bd) : Option (Option PyData) := match ρ[i]? with
  | some (some (.dk kvs)) => (keyB k).map fun k => getK kvs k
  | some (some (.dt kvs)) => (tkeyD k).map fun k => getK kvs k
  | _ => none
theorem dGet_at {o : Option PyData} (M : Mt K so H0 A0 S (σ ++ tv ++ [some y]) (ρ ++ tb ++ [some c]) H A) (hl : σ.length = ρ.length) {i : Nat} (h : dGet i ρ c = some o) : ∃ a r, σ[i]? = some (some (.ref a)) ∧ DGet H a y r ∧
    ((r = none ∧ o = none) ∨ ∃ v d, r = some v ∧ o = some d ∧ Den K H A v d) := by
  unfold dGet at h
  split at h
  · rename_i kvs e
    cases ek : keyB c with
    | none => rw [ek] at h; cases h
    | some k =>
    rw [ek] at h
    cases h
    obtain ⟨v, e1, a, kv, rfl, g1, g2, g3, g4⟩ := M.init.slot hl e
    unfold keyB at ek
    cases ed : toD c with
    | none => rw [ed] at ek; cases ek
    | some d =>
    rw [ed] at ek
    have ey := keyOfD_v (M.last.dp ed) ek
    subst ey
    refine ⟨a, _, e1, DGet.k g1, ?_⟩
    exact g4.get k
  · rename_i kvs e
    cases ek : tkeyD c with
    | none => rw [ek] at h; cases h
    | some k =>
    rw [ek] at h
    cases h
    obtain ⟨v, e1, a, kv, rfl, g1, g2, g3, g4⟩ := M.init.slot hl e
    unfold tkeyD at ek
    split at ek
    · rename_i ds
      split at ek
      · cases ek
      rename_i hb
      obtain ⟨q, vs, rfl, f1, f2⟩ := M.last.tupI
      have f1 := f1.plain (by simpa using hb)
      have ey := keysOfD_v f2 ek
      subst ey
      exact ⟨a, _, e1, DGet.t g1 f1, g4.get k⟩
    · cases ek
  · cases h
def fDin (neg : Bool) (i : Nat) (fk : SE) : SE := fun ρ S => (fk ρ S).bind fun k ρ S => match dGet i ρ k with
  | some o => .ok (.imm (.bool (if neg then !o.isSome else o.isSome))) ρ S
  | none => .bad
theorem rd_din {tk : TE} {fk : SE} {i : Nat} (hk : RdE K so tk fk) : RdE K so (tDIn tk (tVar i)) (fDin false i fk) := fun H0 A0 S σ ρ tv tb H A Q hl M h => by
  refine hk H0 A0 S σ ρ tv tb H A _ hl M ?_
  refine (R.post_bind.mp h).imp fun kb ρ1 S1 h v1 H1 A1 hl1 M1 => ?_
  cases e : dGet i ρ1 kb with
  | none => rw [e] at h; exact h.elim
  | some o =>
  rw [e] at h
  obtain ⟨a, r, e1, g, q⟩ := dGet_at M1 hl1 e
  refine ⟨.ref a, e1, a, r, rfl, g, ?_⟩
  have : r.isSome = o.isSome := by rcases q with ⟨rfl, rfl⟩ | ⟨v, d, rfl, rfl, _⟩ <;> rfl
  rw [this]
  exact h _ H1 A1 hl1 (M1.init.flat fun H A => .bl _)
theorem rd_dnotin {tk : TE} {fk : SE} {i : Nat} (hk : RdE K so tk fk) : RdE K so (tDNotIn tk (tVar i)) (fDin true i fk) := fun H0 A0 S σ ρ tv tb H A Q hl M h => by
  refine hk H0 A0 S σ ρ tv tb H A _ hl M ?_
  refine (R.post_bind.mp h).imp fun kb ρ1 S1 h v1 H1 A1 hl1 M1 => ?_
  cases e : dGet i ρ1 kb with
  | none => rw [e] at h; exact h.elim
  | some o =>
  rw [e] at h
  obtain ⟨a, r, e1, g, q⟩ := dGet_at M1 hl1 e
  refine ⟨.ref a, e1, a, r, rfl, g, ?_⟩
  have : r.isSome = o.isSome := by rcases q with ⟨rfl, rfl⟩ | ⟨v, d, rfl, rfl, _⟩ <;> rfl
  rw [this]
  exact h _ H1 A1 hl1 (M1.init.flat fun H A => .bl _)
def isDct (i : Nat) (ρ : En) : Bool := match ρ[i]? with
  | some (some (.dk _)) => true
  | some (some (.dt _)) => true
  | _ => false
theorem isDct_at {i : Nat} (h : isDct i ρ = true) : ∃ b, ρ[i]? = some (some b) := by
  unfold isDct at h
  split at h
  · exact ⟨_, by assumption⟩
  · exact ⟨_, by assumption⟩
  · cases h
def fDget (i : Nat) (fk : SE) : SE := fun ρ S => if isDct i ρ = true then (fk ρ S).bind fun k ρ S => match dGet i ρ k with
  | some (some d) => .ok (.imm d) ρ S
  | _ => .bad else .bad
theorem rd_dget {tk : TE} {fk : SE} {i : Nat} (hk : RdE K so tk fk) : RdE K so (tDGet (tVar i) tk) (fDget i fk) := fun H0 A0 S σ ρ tv tb H A Q hl M h => by
  unfold fDget at h
  split at h
  · rename_i hd
    obtain ⟨b0, e0⟩ := isDct_at hd
    obtain ⟨v0, e1, _⟩ := M.slot hl e0
    refine ⟨v0, e1, hk H0 A0 S σ ρ tv tb H A _ hl M ?_⟩
    refine (R.post_bind.mp h).imp fun kb ρ1 S1 h v1 H1 A1 hl1 M1 => ?_
    split at h
    · rename_i d e
      obtain ⟨a, r, e2, g, q⟩ := dGet_at M1 hl1 e
      rw [e1] at e2
      cases e2
      rcases q with ⟨_, z⟩ | ⟨v, d', rfl, z, hd'⟩
      · cases z
      · cases z
        exact ⟨a, v, rfl, g, h v H1 A1 hl1 (M1.init.pushI (b := .imm d) hd' rfl)⟩
    · exact h.elim
  · exact h.elim
/-- d[k] = v -/
def dPut (i : Nat) (ρ : En) (k v : Bd) : Option Bd := match ρ[i]?, toF v with
  | some (some (.dk kvs)), some d => (keyB k).bind fun k => if kvs.length < 1000000 then some (.dk (putD kvs k d)) else none
  | some (some (.dt kvs)), some d => (tkeyD k).bind fun k => if kvs.length < 1000000 then some (.dt (putD kvs k d)) else none
  | _, _ => none
def gDput (i : Nat) (fk fv : SE) : SS := fun ρ S => (fv ρ S).bind fun v ρ S => if isDct i ρ = true then (fk ρ S).bind fun k ρ S => match dPut i ρ k v with
  | some b => if nbE ρ = true then .ok .nx (ρ.set i (some b)) S else .bad
  | none => .bad else .bad
theorem rds_dput {tk te : TE} {fk fv : SE} {i : Nat} (hk : RdE K so tk fk) (hv : RdE K so te fv) : RdS K so (sDPut (tVar i) tk te) (gDput i fk fv) := fun H0 A0 S σ ρ tv tb H A D hl nb M h => by
  refine hv H0 A0 S σ ρ tv tb H A _ hl M ?_
  refine (R.post_bind.mp h).imp fun vb ρ1 S1 h v1 H1 A1 hl1 M1 => ?_
  split at h
  · rename_i hd
    obtain ⟨b0, e0⟩ := isDct_at hd
    obtain ⟨v0, e1, _⟩ := M1.init.slot hl1 e0
    refine ⟨v0, e1, hk H0 A0 S1 σ ρ1 (tv ++ [some v1]) (tb ++ [some vb]) H1 A1 _ hl1 (by simpa only [List.append_assoc] using M1) ?_⟩
    refine (R.post_bind.mp h).imp fun kb ρ2 S2 h v2 H2 A2 hl2 M2 => ?_
    have M2' : Mt K so H0 A0 S2 (σ ++ tv ++ [some v1] ++ [some v2]) (ρ2 ++ tb ++ [some vb] ++ [some kb]) H2 A2 := by simpa only [List.append_assoc] using M2
    cases ep : dPut i ρ2 kb vb with
    | none => rw [ep] at h; exact h.elim
    | some b =>
    rw [ep] at h
    simp only at h
    split at h
    · rename_i hn
      unfold dPut at ep
      have noB : ∀ (a : Addr) (j : Nat) (es : List PyData), (ρ2 ++ tb)[j]? = some (some (.bor es)) → (σ ++ tv)[j]? ≠ some (some (.ref a)) := fun a j es e _ => by
        have := NB.app hn nb _ (List.mem_of_getElem? e)
        cases this
      split at ep
      · rename_i kvs d e2 ef
        cases ek : keyB kb with
        | none => rw [ek] at ep; cases ep
        | some k =>
        rw [ek, Option.bind_some] at ep
        split at ep
        · rename_i hz
          cases ep
          obtain ⟨A3, M3⟩ := M2'.frz2 ef
          have dd : Den K H2 A3 v1 d := M3.init.last
          have M4 := M3.init.init
          obtain ⟨v, e3, a, kv, rfl, g1, g2, g3, g4⟩ := M4.slot hl2 e2
          rw [e1] at e3
          cases e3
          unfold keyB at ek
          cases ed : toD kb with
          | none => rw [ed] at ek; cases ek
          | some dk =>
          rw [ed] at ek
          have ey := keyOfD_v (M2'.last.dp ed) ek
          subst ey
          refine ⟨a, _, rfl, DPut.k g1 (lim1 (by rw [g4.len]; exact hz)), ?_⟩
          have hi := getlt e2
          have M5 := M4.mutG (i := i) (b := .dk kvs) (b' := .dk (putD kvs k d)) (a := a) (o' := .dK (putK kv k v1)) rfl (by rw [List.getElem?_append_left hi]; exact e2) (by rw [List.getElem?_append_left (by omega)]; exact e1) (noB a)
            (fun u t z => by rw [g1] at z; cases z; cases t) fun hAk hT na h0 => ⟨a, _, rfl, upd_same, na, h0, DKV.put k (Paired.mapP g4 fun p q z => ⟨z.1, Den.mono (fun _ q => q) hAk hT z.2⟩) (dd.mono (fun _ q => q) hAk hT)⟩
          rw [set_app hi] at M5
          exact h σ _ A3 (by simpa using hl2) M5
        · cases ep
      · rename_i kvs d e2 ef
        cases ek : tkeyD kb with
        | none => rw [ek] at ep; cases ep
        | some k =>
        rw [ek, Option.bind_some] at ep
        split at ep
        · rename_i hz
          cases ep
          unfold tkeyD at ek
          split at ek
          · rename_i ks
            split at ek
            · cases ek
            rename_i hb
            obtain ⟨A3, M3⟩ := M2'.frz2 ef
            have dd : Den K H2 A3 v1 d := M3.init.last
            obtain ⟨q, ws, rfl, f1, f2⟩ := M3.last.tupI
            have f1 := f1.plain (by simpa using hb)
            have ey := keysOfD_v f2 ek
            subst ey
            have M4 := M3.init.init
            obtain ⟨v, e3, a, kv, rfl, g1, g2, g3, g4⟩ := M4.slot hl2 e2
            rw [e1] at e3
            cases e3
            refine ⟨a, _, rfl, DPut.t g1 f1 (lim1 (by rw [g4.len]; exact hz)), ?_⟩
            have hi := getlt e2
            have M5 := M4.mutG (i := i) (b := .dt kvs) (b' := .dt (putD kvs k d)) (a := a) (o' := .dT (putK kv k v1)) rfl (by rw [List.getElem?_append_left hi]; exact e2) (by rw [List.getElem?_append_left (by omega)]; exact e1) (noB a)
              (fun u t z => by rw [g1] at z; cases z; cases t) fun hAk hT na h0 => ⟨a, _, rfl, upd_same, na, h0, DKV.put k (Paired.mapP g4 fun p q z => ⟨z.1, Den.mono (fun _ q => q) hAk hT z.2⟩) (dd.mono (fun _ q => q) hAk hT)⟩
            rw [set_app hi] at M5
            exact h σ _ A3 (by simpa using hl2) M5
          · cases ek
        · cases ep
      · cases ep
    · exact h.elim
  · exact h.elim
end
/-! ### the law's own call -/
theorem hid_ns {s : Shared} {H : Hp} {b : Addr} {m : Str → Option Value} (n : H b = none) : s.heap.Ns b m → (hidT s.heap H).Ns b m := fun ⟨o, es, ep, e, r⟩ => ⟨o, es, ep, hidT_get e n, r⟩
theorem lawG {P : Program} {w : World} {K : PySem.W.Frag} {mg mb : Str → Option Value} {k : Nat} {fa a : Addr} {fd : FuncData} {x : Str} {sp : Sp} {s : Shared} {vs : List Value} {ns : List Int}
    (KX : K.In s.heap) (hns : s.heap.Ns mainGlobals mg) (hb : s.heap.Ns builtinsNs mb) (hbb : ∀ x : Str, x ≠ "__name__" → mb x = bootBuiltins x) (hlim : s.heap.NoLimit) (hg : s.gens = #[])
    (ha : s.heap.get? a = some { cls := .type "list", data := .seq vs.toArray }) (hi : IntsAre vs ns) (hz : ns.length ≤ sizeLine) (hr : Room k callerA)
    (F : ∀ base : Heap, K.In base → base.Ns mainGlobals mg → FnG P w K mg base k fa fd [x] sp) (hbd : ∀ (s : Shared) (u : Value), BindsTo s fd ⟨[u], []⟩ [(x, u)])
    (hsp : ∀ H : Hp, Only H → SqL K H a (ns.map V.int) → sp [.ref a] H (fun v _ => v = .bl true) E0) :
    codeAny (model P w) callerA (.call (.ref fa) ⟨[.ref a], []⟩) (fun r s' => r = .ok (.ret (.bool true)) ∧ OldK s.heap s'.heap ∧ s'.os = s.os ∧ AllBare s'.gens) s := by
  have rv := vals_ints hi
  -- what is tracked at the start: the script, or nothing
  have go : ∀ H : Hp, Only H → SqL K H a (ns.map V.int) → HOk P w H s.heap → (∀ b, H b ≠ none → b = a ∧ K.lookup a = none) →
      codeAny (model P w) callerA (.call (.ref fa) ⟨[.ref a], []⟩) (fun r s' => r = .ok (.ret (.bool true)) ∧ OldK s.heap s'.heap ∧ s'.os = s.os ∧ AllBare s'.gens) s := by
    intro H only hS ok at_
    have un : ∀ {b : Addr} {o : Obj}, s.heap.get? b = some o → o.data ≠ .seq vs.toArray 0 → H b = none := fun {b o} e d => by
      apply Classical.byContradiction
      intro n
      obtain ⟨rfl, _⟩ := at_ b n
      rw [ha] at e
      cases e
      exact d rfl
    have nsT : ∀ {b : Addr} {m : Str → Option Value}, s.heap.Ns b m → (hidT s.heap H).Ns b m := fun {b m} N => by
      obtain ⟨o, es, ep, e, d, r⟩ := id N
      exact hid_ns (un e fun z => by rw [d] at z; cases z) N
    have inT : K.In (hidT s.heap H) := fun b o e => hidT_get (KX b o e) (Classical.byContradiction fun n => by
      obtain ⟨rfl, z⟩ := at_ b n
      rw [e] at z; cases z)
    have limT : (hidT s.heap H).NoLimit := by
      obtain ⟨mc, h1, h2⟩ := hlim
      exact ⟨mc, nsT h1, h2⟩
    have env : Env0 P w K mg (hidT s.heap H) callerA [] s H := ⟨rfl, ⟨inT, nsT hns, ⟨mb, nsT hb, hbb⟩, limT⟩, fun b o e => of_hidT e, Nat.le_of_eq (hidT_size _ _), trivial, (fun b z => absurd (show b ∈ ([] : List Addr) from z) (by simp)), ok, .of_eq hg⟩
    refine codeAny_mono ((F _ inT (nsT hns)).run callerA [] s H ⟨[.ref a], []⟩ [.ref a] [.ref a] _ ⟨hr, rfl⟩ env (hbd s (.ref a)) (.cons rfl .nil) (hsp H only hS)) ?_
    intro r s' h
    match r, h with
    | .error e, h => exact h.elim
    | .ok .next, h => exact h.elim
    | .ok .brk, h => exact h.elim
    | .ok .cont, h => exact h.elim
    | .ok (.ret u), h =>
      obtain ⟨v, H', os, bare, u', ok', rr, q⟩ := h
      have q : v = .bl true := q
      subst q
      cases rr
      refine ⟨rfl, OldK.of_keep fun b o e => ?_, os, bare⟩
      rcases only b with z | ⟨ob, xs, z⟩
      · exact u'.keep b o e z (fun m => nomatch m) fun m => nomatch m
      · obtain ⟨f1, _⟩ := ok b _ z
        obtain ⟨f2, _⟩ := ok' b _ (u'.frzs b ob _ z)
        rw [e] at f1
        cases f1
        exact f2
  cases hk : K.lookup a with
  | some o =>
    have e := KX a o hk
    rw [ha] at e
    cases e
    exact go (fun _ => none) (fun _ => .inl rfl) (.inr ⟨_, vs.toArray, _, hk, rfl, rfl, rfl, by simpa [hi.length] using hz, by simpa using rv⟩) (fun b u z => nomatch z) fun b z => absurd rfl z
  | none =>
    let H1 : Hp := upd (fun _ => none) a (.frz { cls := .type "list", data := .seq vs.toArray } (.lst (ns.map V.int)))
    refine go H1 (fun b => ?_) (.inl (.inr ⟨_, upd_same⟩)) (fun b u z => ?_) fun b z => ?_
    · by_cases e : b = a
      · exact .inr ⟨_, _, by rw [e]; exact upd_same⟩
      · exact .inl (upd_ne e)
    · by_cases e : b = a
      · subst e
        have z' : some (HO.frz _ _) = some u := upd_same.symm.trans z
        cases z'
        exact ⟨ha, by simpa using hz, vs, _, rv, ha⟩
      · have z' : (none : Option HO) = some u := (upd_ne e).symm.trans z
        cases z'
    · by_cases e : b = a
      · exact ⟨e, hk⟩
      · exact absurd (upd_ne e) z
theorem walkG {l : PySem.W.OpenLaw} {n k : Nat} {q : Program} {loose : List Str} {XP : (Str → Option Value) → Heap → Prop} {YP : World → Heap → Prop} {d : DefRec} {K : Params → PySem.W.Frag} {sp : PySem.W.Frag → Sp} {x : Str}
    (hn : l.most = some n) (hn2 : n ≤ sizeLine) (hdf : d.params.defaults = []) (hr : Room k callerA) (hY : ∀ (w : World) (h : Heap), YP w h → (K w.params).In h)
    (F : ∀ (w : World) (mg : Str → Option Value) (fa : Addr) (h : Heap), (K w.params).In h → h.Ns mainGlobals mg → mg d.name = some (.ref fa) →
      ∃ fd : FuncData, (∀ (s : Shared) (u : Value), BindsTo s fd ⟨[u], []⟩ [(x, u)]) ∧ ∀ base : Heap, (K w.params).In base → base.Ns mainGlobals mg → FnG l.prog w (K w.params) mg base k fa fd [x] (sp (K w.params)))
    (hsp : ∀ (K : PySem.W.Frag) (H : Hp) (a : Addr) (ns : List Int), ns.length ≤ n → Only H → SqL K H a (ns.map V.int) → sp K [.ref a] H (fun v _ => v = .bl true) E0) :
    PySem.W.WalkO q loose XP YP l.row.toRowW d [] (fun f vs => PySem.call f vs) := by
  refine Att.attach_call hn hdf fun w s₀ s₁ mg mb fa o pm cd doc a vs ns G Y ho hd hcd hmg hobj hints hlen hg => ?_
  have KX := hY w _ Y
  obtain ⟨fd, hb, hF⟩ := F w mg fa _ KX G.T.g hmg
  exact lawG KX G.T.g G.T.b G.T.builtins G.T.nolimit hg hobj hints (Nat.le_trans hlen hn2) hr hF hb fun H only hS => hsp (K w.params) H a ns hlen only hS
end DL
set_option maxRecDepth 100000
set_option maxHeartbeats 2000000
/-! DI: the data layer's rules in one word each: a piece of syntax, its reading, its data. -/
namespace DL
open PySem PySem.Spec PyProof.Rows L2
def o1 (f : Bd → Option Bd) (bs : List Bd) : Option Bd := match bs with
  | [b] => f b
  | _ => none
def o2 (f : Bd → Bd → Option Bd) (bs : List Bd) : Option Bd := match bs with
  | [b, c] => f b c
  | _ => none
section
variable {K : PySem.W.Frag} {so : SO} {H0 H H' : Hp} {A0 A A' : Addr → Prop} {S S' : Src} {σ σ' tv : Sl} {ρ ρ' tb : En} {v x y : V} {b c : Bd}
theorem cs_len : CaS K so (rLen K) (o1 lenB) := cas_len
theorem cs_tuple : CaS K so (rTupC K) (o1 tupleB) := cas_tuple
theorem cs_list : CaS K so (fun xs H Q => ∃ p ys, xs = [.ref p] ∧ (SqL K H p ys ∨ SqT K H p ys) ∧ ∀ l, H l = none → Q (.ref l) (upd H l (.lst ys))) (o1 listB) := cas_list
theorem cs_int : CaS K so (fun xs H Q => (∃ i, xs = [.int i] ∧ Q (.int i) H) ∨ ∃ k, xs = [.bl k] ∧ Q (.int (if k then 1 else 0)) H) (o1 intB) := cas_int
theorem cs_abs : CaS K so (fun xs H Q => ∃ i, xs = [.int i] ∧ Q (.int (if i < 0 then -i else i)) H) (o1 absB) := cas_abs
theorem cs_max2 : CaS K so (fun xs H Q => ∃ i j, xs = [.int i, .int j] ∧ Q (.int (if j > i then j else i)) H) (o2 max2B) := cas_max2
theorem cs_min2 : CaS K so (fun xs H Q => ∃ i j, xs = [.int i, .int j] ∧ Q (.int (if j < i then j else i)) H) (o2 min2B) := cas_min2
theorem cs_all : CaS K so (rAll K) (o1 allB) := cas_all
theorem cs_any : CaS K so (rAny K) (o1 anyB) := cas_any
theorem cs_repr : CaS K so (rRepr K) (o1 reprB) := cas_repr
/-! ### several names at once -/
def gParN (n : Nat) (r : List Bd → En → Option En) (fa : SA) : SS := fun ρ S => (fa ρ S).bind fun bs ρ S => if bs.length = n then match r bs ρ with
  | some ρ' => .ok .nx ρ' S
  | none => .bad else .bad
theorem rds_parT {ta : TA} {u : TGs} {r : List Bd → En → Option En} {fa : SA} {n : Nat} {is : List Nat} (hz : n ≤ 1000) (ha : RdA K so ta fa) (hg : RdGs K so u r is) : RdS K so (tAsg (tTup ta) (gTup K n u)) (gParN n r fa) := fun H0 A0 S σ ρ tv tb H A D hl nb M h => by
  refine ha H0 A0 S σ ρ tv tb H A _ hl M ?_
  refine (R.post_bind.mp h).imp fun bs ρ1 S1 h vs H1 A1 hl1 hn M1 => ?_
  split at h
  · rename_i hb
    refine ⟨lim1000 (by omega), fun p hp => ⟨p, vs, rfl, SqT.of upd_same, by omega, ?_⟩⟩
    cases e : r bs ρ1 with
    | none => rw [e] at h; exact h.elim
    | some ρ' =>
      rw [e] at h
      exact hg H0 A0 S1 σ ρ1 ρ' tv tb _ A1 vs bs D.nx hl1 hn (M1.new hp) e fun σ' H' A' hl' _ M' => h σ' H' A' hl' M'
  · exact h.elim
theorem rds_par2 {ta : TA} {fa : SA} {i j : Nat} (ha : RdA K so ta fa) : RdS K so (tPar i j ta) (gPar (sCons (sName i) (sCons (sName j) sNil)) fa) := fun H0 A0 S σ ρ tv tb H A D hl nb M h => by
  refine ha H0 A0 S σ ρ tv tb H A _ hl M ?_
  refine (R.post_bind.mp h).imp fun bs ρ1 S1 h vs H1 A1 hl1 hn M1 => ?_
  cases e : (sCons (sName i) (sCons (sName j) sNil)) bs ρ1 with
  | none => rw [e] at h; exact h.elim
  | some ρ' =>
    rw [e] at h
    obtain ⟨v, r1, rfl, w, r2, rfl, rfl, q⟩ := (rdg_cons (rdg_name i) (rdg_cons (rdg_name j) rdg_nil)) H0 A0 S1 σ ρ1 ρ' tv tb H1 A1 vs bs D.nx hl1 hn M1 e fun σ' H' A' hl' _ M' => h σ' H' A' hl' M'
    exact ⟨v, w, rfl, q⟩
theorem rds_par3 {ta : TA} {fa : SA} {i j l : Nat} (ha : RdA K so ta fa) : RdS K so (tPar3 i j l ta) (gPar (sCons (sName i) (sCons (sName j) (sCons (sName l) sNil))) fa) := fun H0 A0 S σ ρ tv tb H A D hl nb M h => by
  refine ha H0 A0 S σ ρ tv tb H A _ hl M ?_
  refine (R.post_bind.mp h).imp fun bs ρ1 S1 h vs H1 A1 hl1 hn M1 => ?_
  cases e : (sCons (sName i) (sCons (sName j) (sCons (sName l) sNil))) bs ρ1 with
  | none => rw [e] at h; exact h.elim
  | some ρ' =>
    rw [e] at h
    obtain ⟨v, r1, rfl, w, r2, rfl, u, r3, rfl, rfl, q⟩ := (rdg_cons (rdg_name i) (rdg_cons (rdg_name j) (rdg_cons (rdg_name l) rdg_nil))) H0 A0 S1 σ ρ1 ρ' tv tb H1 A1 vs bs D.nx hl1 hn M1 e fun σ' H' A' hl' _ M' => h σ' H' A' hl' M'
    exact ⟨v, w, u, rfl, q⟩
/-! ### -x, x * y -/
def negB (b : Bd) : Option Bd := match toD b with
  | some (.int i) => some (.imm (.int (-i)))
  | _ => none
theorem uns_neg : UnS K so (rU fun i => .int (-i)) negB := fun H0 A0 S σ ρ H A x bx b Q M e q => by
  unfold negB at e
  split at e
  · rename_i i ei
    cases e
    exact ⟨i, (M.last.dp ei).intI, q _ H A (M.flat fun H A => .int _)⟩
  · cases e
def rMulA : R2 := fun x y H Q => rRep x y H Q ∨ rI CMul (fun i j => .int (i * j)) x y H Q
theorem op_mulA {X : Cx} : OpR X (binaryOp .Mult) rMulA := op_rep.or op_mul
theorem ops_mul : OpS K so rMulA mulB := fun H0 A0 S σ ρ H A x y bx by_ b Q M e q => by
  have o1 := M.init.last
  have o2 := M.last
  unfold mulB at e
  split at e
  · rename_i xs k e1 e2
    split at e
    · rename_i hz
      cases e
      obtain ⟨a1, v1, rfl, g1, h1⟩ := o1.lstI e1
      refine .inl ⟨a1, k, v1, rfl, (o2.dp e2).intI, g1, by omega, by omega, ?_⟩
      refine ⟨by rw [h1.length]; exact lim2 hz.2.2, fun p hp => q _ _ A (M.newL hp (h1.rep _))⟩
    · cases e
  · split at e
    · rename_i i j e1 e2
      split at e
      · rename_i hz
        cases e
        exact .inr ⟨i, j, (o1.dp e1).intI, (o2.dp e2).intI, hz, q _ H A (M.flat fun H A => .int _)⟩
      · cases e
    · cases e
/-! ### x += y -/
def gAug (i : Nat) (o : Bd → Bd → Option Bd) (fe : SE) : SS := fun ρ S => match ρ[i]? with
  | some (some (.imm d)) => (fe ρ S).bind fun b ρ S => match ρ[i]?, o (.imm d) b with
    | some (some (.imm _)), some (.imm e) => .ok .nx (ρ.set i (some (.imm e))) S
    | _, _ => .bad
  | _ => .bad
def pip (r : R2) (X : Cx) (op : Operator) (h : OpR X (inplaceOp op) r) : PIp X op r := h
end
section
variable {X : Cx} {so : SO} {pos p : Pos} {e a b o k : Expr} {te ta tb tk : TE} {fe fa fb fk : SE}
/-! ### expressions -/
theorem de_var (i : Nat) {x : Str} (hN : X.N[i]? = some x := by rfl) (hv : Vis X.env.scope x := by first | exact Or.inl rfl | exact Or.inr (Or.inl rfl) | exact Or.inr (Or.inr rfl)) (hd : (x == ("__debug__" : Str)) = false := by decide)
    (hcd : (x == ("__classdict__" : Str)) = false := by decide) : DE X so (.Name x pos) (tVar i) (fVar i) := ⟨pv i hN hv hd hcd, rd_var i⟩
theorem de_frz (i : Nat) {x : Str} (hN : X.N[i]? = some x := by rfl) (hv : Vis X.env.scope x := by first | exact Or.inl rfl | exact Or.inr (Or.inl rfl) | exact Or.inr (Or.inr rfl)) (hd : (x == ("__debug__" : Str)) = false := by decide)
    (hcd : (x == ("__classdict__" : Str)) = false := by decide) : DE X so (.Name x pos) (tVar i) (fFrz i) := ⟨pv i hN hv hd hcd, rd_frz i⟩
theorem de_mov (i : Nat) {x : Str} (hN : X.N[i]? = some x := by rfl) (hv : Vis X.env.scope x := by first | exact Or.inl rfl | exact Or.inr (Or.inl rfl) | exact Or.inr (Or.inr rfl)) (hd : (x == ("__debug__" : Str)) = false := by decide)
    (hcd : (x == ("__classdict__" : Str)) = false := by decide) : DE X so (.Name x pos) (tVar i) (fMov i) := ⟨pv i hN hv hd hcd, rd_mov i⟩
theorem de_int {i j} : DE X so (.Constant (.int i) j pos) (tC (.int i)) (fC (.int i)) := ⟨pe_int, rd_c fun _ _ => .int _⟩
theorem de_bl {c j} : DE X so (.Constant (.bool c) j pos) (tC (.bl c)) (fC (.bool c)) := ⟨pe_bl, rd_c fun _ _ => .bl _⟩
theorem de_non {j} : DE X so (.Constant .none j pos) (tC .non) (fC .none) := ⟨pe_non, rd_c fun _ _ => .non⟩
theorem de_str {x j} : DE X so (.Constant (.str x) j pos) (tC (.str x)) (fC (.str x)) := ⟨pe_str, rd_c fun _ _ => .str _⟩
/-- a module's text, its number -/
theorem de_gstr {x s : Str} {t : Tok} (hm : X.mg x = some (.str s t)) (hg : Gl X x := by rfl) (hd : (x == ("__debug__" : Str)) = false := by decide) : DE X so (.Name x pos) (tC (.str s)) (fC (.str s)) := ⟨pe_glob hg hm ⟨t, rfl⟩ hd, rd_c fun _ _ => .str _⟩
theorem de_gint {x : Str} {i : Int} {t : Tok} (hm : X.mg x = some (.int i t)) (hg : Gl X x := by rfl) (hd : (x == ("__debug__" : Str)) = false := by decide) : DE X so (.Name x pos) (tC (.int i)) (fC (.int i)) := ⟨pe_glob hg hm ⟨t, rfl⟩ hd, rd_c fun _ _ => .int _⟩
theorem de_gw {x : Str} {a : Addr} {d : PyData} (hm : X.mg x = some (.ref a)) (hw : Dp X.K (fun _ => none) (.ref a) d) (hg : Gl X x := by rfl) (hd : (x == ("__debug__" : Str)) = false := by decide) : DE X so (.Name x pos) (tC (.ref a)) (fW d) := ⟨pe_glob hg hm rfl hd, rd_w hw⟩
theorem de_add (ha : DE X so a ta fa) (hb : DE X so b tb fb) : DE X so (.BinOp a .Add b pos) (tOp (rAddA X.K) ta tb) (fOp addB fa fb) := ⟨pe_op op_addA ha.pe hb.pe, rd_op ops_add ha.rd hb.rd⟩
theorem de_sub (ha : DE X so a ta fa) (hb : DE X so b tb fb) : DE X so (.BinOp a .Sub b pos) (tOp (rI0 fun i j => .int (i - j)) ta tb) (fOp subB fa fb) := ⟨pe_op op_sub ha.pe hb.pe, rd_op ops_sub ha.rd hb.rd⟩
theorem de_mul (ha : DE X so a ta fa) (hb : DE X so b tb fb) : DE X so (.BinOp a .Mult b pos) (tOp rMulA ta tb) (fOp mulB fa fb) := ⟨pe_op op_mulA ha.pe hb.pe, rd_op ops_mul ha.rd hb.rd⟩
theorem de_fdiv (ha : DE X so a ta fa) (hb : DE X so b tb fb) : DE X so (.BinOp a .FloorDiv b pos) (tOp (rI CDivN fun i j => .int (i.fdiv j)) ta tb) (fOp fdivB fa fb) := ⟨pe_op op_fdivN ha.pe hb.pe, rd_op ops_fdiv ha.rd hb.rd⟩
theorem de_mod (ha : DE X so a ta fa) (hb : DE X so b tb fb) : DE X so (.BinOp a .Mod b pos) (tOp (rI (fun _ j => j ≠ 0) fun i j => .int (i.fmod j)) ta tb) (fOp modB fa fb) := ⟨pe_op op_modN ha.pe hb.pe, rd_op ops_mod ha.rd hb.rd⟩
theorem de_neg (ha : DE X so a ta fa) : DE X so (.UnaryOp .USub a pos) (tUn (rU fun i => .int (-i)) ta) (fUn negB fa) := ⟨pe_un un_neg ha.pe, rd_un (r := rU fun i => .int (-i)) uns_neg ha.rd⟩
theorem de_lt (ha : DE X so a ta fa) (hb : DE X so b tb fb) : DE X so (.Compare a [.Lt] [b] pos) (tOp (rI0 fun i j => .bl (decide (i < j))) ta tb) (fOp ltB fa fb) := ⟨pe_cmpR op_lt ha.pe hb.pe (nomark _), rd_op ops_lt ha.rd hb.rd⟩
theorem de_le (ha : DE X so a ta fa) (hb : DE X so b tb fb) : DE X so (.Compare a [.LtE] [b] pos) (tOp (rI0 fun i j => .bl (decide (i ≤ j))) ta tb) (fOp leB fa fb) := ⟨pe_cmpR op_le ha.pe hb.pe (nomark _), rd_op ops_le ha.rd hb.rd⟩
theorem de_gt (ha : DE X so a ta fa) (hb : DE X so b tb fb) : DE X so (.Compare a [.Gt] [b] pos) (tOp (rI0 fun i j => .bl (decide (j < i))) ta tb) (fOp gtB fa fb) := ⟨pe_cmpR op_gt ha.pe hb.pe (nomark _), rd_op ops_gt ha.rd hb.rd⟩
theorem de_ge (ha : DE X so a ta fa) (hb : DE X so b tb fb) : DE X so (.Compare a [.GtE] [b] pos) (tOp (rI0 fun i j => .bl (decide (j ≤ i))) ta tb) (fOp geB fa fb) := ⟨pe_cmpR op_ge ha.pe hb.pe (nomark _), rd_op ops_ge ha.rd hb.rd⟩
theorem de_eq {n : Nat} (hr : Rm n X.A) (ha : DE X so a ta fa) (hb : DE X so b tb fb) : DE X so (.Compare a [.Eq] [b] pos) (tOp (rEqA X.K) ta tb) (fOp (eqB false) fa fb) := ⟨pe_cmpR (op_eqA hr.room.units) ha.pe hb.pe (nomark _), rd_op ops_eq ha.rd hb.rd⟩
theorem de_ne {n : Nat} (hr : Rm n X.A) (ha : DE X so a ta fa) (hb : DE X so b tb fb) : DE X so (.Compare a [.NotEq] [b] pos) (tOp (rNeA X.K) ta tb) (fOp (eqB true) fa fb) := ⟨pe_cmpR (op_neA hr.room.units) ha.pe hb.pe (nomark _), rd_op ops_ne ha.rd hb.rd⟩
theorem de_is (ha : DE X so a ta fa) (hb : DE X so b tb fb) : DE X so (.Compare a [.Is] [b] pos) (tOp rIsA ta tb) (fOp (isB false) fa fb) := ⟨pe_cmpR op_isA ha.pe hb.pe (nomark _), rd_op ops_is ha.rd hb.rd⟩
theorem de_isn (ha : DE X so a ta fa) (hb : DE X so b tb fb) : DE X so (.Compare a [.IsNot] [b] pos) (tOp rIsnA ta tb) (fOp (isB true) fa fb) := ⟨pe_cmpR op_isnA ha.pe hb.pe (nomark _), rd_op ops_isn ha.rd hb.rd⟩
theorem u65 {n : Nat} (hr : Rm n X.A) : X.A.units + 65 < cLine := by have := hr.room.un; omega
theorem de_in {n : Nat} (hr : Rm n X.A) (ha : DE X so a ta fa) (hb : DE X so b tb fb) (hm : behindInMarks .In b = false := by rfl) : DE X so (.Compare a [.In] [b] pos) (tOp (rInA X.K) ta tb) (fOp (inB false) fa fb) := ⟨pe_cmpR (op_inA (u65 hr)) ha.pe hb.pe hm, rd_op ops_in ha.rd hb.rd⟩
theorem de_nin {n : Nat} (hr : Rm n X.A) (ha : DE X so a ta fa) (hb : DE X so b tb fb) (hm : behindInMarks .NotIn b = false := by rfl) : DE X so (.Compare a [.NotIn] [b] pos) (tOp (rNinA X.K) ta tb) (fOp (inB true) fa fb) := ⟨pe_cmpR (op_ninA (u65 hr)) ha.pe hb.pe hm, rd_op ops_nin ha.rd hb.rd⟩
theorem de_din {n i : Nat} {x : Str} (hr : Rm n X.A) (hk : DE X so a ta fa) (hN : X.N[i]? = some x := by rfl) (hv : Vis X.env.scope x := by first | exact Or.inl rfl | exact Or.inr (Or.inl rfl) | exact Or.inr (Or.inr rfl)) (hd : (x == ("__debug__" : Str)) = false := by decide)
    (hcd : (x == ("__classdict__" : Str)) = false := by decide) (h1 : behindInMarks .In (.Name x p) = false := by rfl) : DE X so (.Compare a [.In] [.Name x p] pos) (tDIn ta (tVar i)) (fDin false i fa) := ⟨pe_cmp (pc_din hr.hu hk.pe (pv i hN hv hd hcd)) h1, rd_din hk.rd⟩
theorem de_dnin {n i : Nat} {x : Str} (hr : Rm n X.A) (hk : DE X so a ta fa) (hN : X.N[i]? = some x := by rfl) (hv : Vis X.env.scope x := by first | exact Or.inl rfl | exact Or.inr (Or.inl rfl) | exact Or.inr (Or.inr rfl)) (hd : (x == ("__debug__" : Str)) = false := by decide)
    (hcd : (x == ("__classdict__" : Str)) = false := by decide) (h1 : behindInMarks .NotIn (.Name x p) = false := by rfl) : DE X so (.Compare a [.NotIn] [.Name x p] pos) (tDNotIn ta (tVar i)) (fDin true i fa) := ⟨pe_cmp (pc_dnotin hr.hu hk.pe (pv i hN hv hd hcd)) h1, rd_dnotin hk.rd⟩
theorem de_dget {n i : Nat} {x : Str} (hr : Rm n X.A) (hk : DE X so a ta fa) (hs : NoSl a := by intro _ _; rfl) (hN : X.N[i]? = some x := by rfl) (hv : Vis X.env.scope x := by first | exact Or.inl rfl | exact Or.inr (Or.inl rfl) | exact Or.inr (Or.inr rfl)) (hd : (x == ("__debug__" : Str)) = false := by decide)
    (hcd : (x == ("__classdict__" : Str)) = false := by decide) : DE X so (.Subscript (.Name x p) a pos) (tDGet (tVar i) ta) (fDget i fa) := ⟨pe_dget hr.hu (pv i hN hv hd hcd) hk.pe hs, rd_dget hk.rd⟩
theorem de_newK : DE X so (.Dict [] [] pos) tDNewK fNewK := ⟨pe_dnewK, rd_newK⟩
theorem de_newT : DE X so (.Dict [] [] pos) tDNewT fNewT := ⟨pe_dnewT, rd_newT⟩
theorem de_ix (ha : DE X so a ta fa) (hb : DE X so b tb fb) (hs : PlainIx b := by intro _ _; rfl) : DE X so (.Subscript a b pos) (tOp (rIx X.K) ta tb) (fOp ixB fa fb) := ⟨pe_ix ix_seq ha.pe hb.pe hs, rd_op ops_ix ha.rd hb.rd⟩
structure DO (X : Cx) (so : SO) (e : Option Expr) (t : TO) (f : SO2) : Prop where
  po : PO X e t
  rd : RdO X.K so t f
theorem do_none : DO X so none tNoPart oNone := ⟨po_none, rdo_none⟩
theorem do_some (h : DE X so e te fe) : DO X so (some e) (tPart te) (oSome fe) := ⟨po_some h.pe, rdo_some h.rd⟩
theorem de_sl {lo hi : Option Expr} {tl th : TO} {fl fh : SO2} {p2 : Pos} (ha : DE X so a ta fa) (h1 : DO X so lo tl fl) (h2 : DO X so hi th fh) : DE X so (.Subscript a (.Slice lo hi none p2) pos) (tSl (rSlAll X.K) ta tl th) (fSl fa fl fh) :=
  ⟨pe_slice sl_all ha.pe h1.po h2.po, rd_sl ha.rd h1.rd h2.rd⟩
theorem da_nil : DAr X so [] tNil aNil := ⟨pa_nil, rda_nil⟩
theorem da_cons {es : List Expr} {t : TA} {fr : SA} (ha : DE X so e te fe) (hr : DAr X so es t fr) (hs : starEach (e :: es) X.env = (false, eval e X.env) :: starEach es X.env := by rfl) : DAr X so (e :: es) (tCons te t) (aCons fe fr) := ⟨pa_cons ha.pe hr.pa hs, rda_cons ha.rd hr.rd⟩
theorem de_tup {es : List Expr} {x1} {t : TA} {f : SA} (h : DAr X so es t f) : DE X so (.Tuple es x1 pos) (tTupC t) (fAr tupB f) := ⟨pe_tupC h.pa, rd_tup h.rd⟩
theorem de_lst {es : List Expr} {t : TA} {f : SA} (h : DAr X so es t f) : DE X so (.List es pos) (tLst t) (fAr lstB f) := ⟨pe_lst h.pa, rd_lst h.rd⟩
/-! ### calls -/
section
variable {n : Nat} {f : Addr} {fd : FuncData} {ps : List Str} {F : FD} {x : Str} {es : List Expr} {t : TA} {fs : SA}
theorem de_call (G : FnD X.prog X.w X.K X.mg X.base n f fd ps F) (hr : Rm n X.A) (hm : X.mg x = some (.ref f)) (hk : PySem.W.keepIn X.K (.ref f) = true) (hb : Binds X.K fd ps []) (ha : DAr X so (e :: es) t fs) (hg : Gl X x := by rfl) (hdb : (x == ("__debug__" : Str)) = false := by decide)
    (he : starEach (e :: es) X.env = (false, eval e X.env) :: starEach es X.env := by rfl) (hpl : (backTo pos (starEach es X.env)).any (·.1) = false := by rfl) : DE X so (.Call (.Name x p) (e :: es) [] pos) (fun σ H Q => t σ H fun vs H1 => spD X.K so F vs H1 Q E0) (fCall F fs) :=
  ⟨pe_callG (G so) hr hg hm hk hb ha.pa hdb he hpl, rd_call ha.rd⟩
theorem de_call0 (G : FnD X.prog X.w X.K X.mg X.base n f fd ps F) (hr : Rm n X.A) (hm : X.mg x = some (.ref f)) (hk : PySem.W.keepIn X.K (.ref f) = true) (hb : Binds X.K fd ps []) (hg : Gl X x := by rfl) (hdb : (x == ("__debug__" : Str)) = false := by decide) :
    DE X so (.Call (.Name x p) [] [] pos) (fun σ H Q => tNil σ H fun vs H1 => spD X.K so F vs H1 Q E0) (fCall F aNil) := ⟨pe_callG0 (G so) hr hg hm hk hb hdb, rd_call rda_nil⟩
variable {id T : String} {r : List V → Hp → VK → Prop} {o : List Bd → Option Bd}
theorem de_callB (hc : CallR X (.builtin id) r) (hs : CaS X.K so r o) (hm : X.mg x = none) (hv : bootBuiltins x = some (.builtin id)) (ha : DAr X so (e :: es) t fs) (hg : Gl X x := by rfl) (hn : x ≠ "__name__" := by decide) (hdb : (x == ("__debug__" : Str)) = false := by decide)
    (he : starEach (e :: es) X.env = (false, eval e X.env) :: starEach es X.env := by rfl) (hpl : (backTo pos (starEach es X.env)).any (·.1) = false := by rfl) : DE X so (.Call (.Name x p) (e :: es) [] pos) (tCB r t) (fAr o fs) :=
  ⟨pe_callB hc hg hm hv ha.pa hn hdb he hpl, rd_ca hs ha.rd⟩
theorem de_callTy (hc : CallR X (.type T) r) (hs : CaS X.K so r o) (hm : X.mg x = none) (hv : bootBuiltins x = some (.type T)) (ha : DAr X so (e :: es) t fs) (hg : Gl X x := by rfl) (hn : x ≠ "__name__" := by decide) (hdb : (x == ("__debug__" : Str)) = false := by decide)
    (he : starEach (e :: es) X.env = (false, eval e X.env) :: starEach es X.env := by rfl) (hpl : (backTo pos (starEach es X.env)).any (·.1) = false := by rfl) : DE X so (.Call (.Name x p) (e :: es) [] pos) (tCB r t) (fAr o fs) :=
  ⟨pe_callTy hc hg hm hv ha.pa hn hdb he hpl, rd_ca hs ha.rd⟩
end
theorem de_isi {T : Str} {n : String} {p2 : Pos} (hm : X.mg "isinstance" = none) (hmT : X.mg T = none) (hvT : bootBuiltins T = some (.type n)) (ha : DE X so e te fe) (hg : Gl X "isinstance" := by rfl) (hgT : Gl X T := by rfl) (hnT : T ≠ "__name__" := by decide) (hdT : (T == ("__debug__" : Str)) = false := by decide)
    (hs1 : starEach [e, .Name T p2] X.env = (false, eval e X.env) :: starEach [.Name T p2] X.env := by rfl) (hs2 : starEach [.Name T p2] X.env = (false, eval (.Name T p2) X.env) :: starEach [] X.env := by rfl) (hpl : (backTo pos (starEach [.Name T p2] X.env)).any (·.1) = false := by rfl) :
    DE X so (.Call (.Name "isinstance" p) [e, .Name T p2] [] pos) (tCB (rIsi X.K) (tCons te (tCons (tC (.ty n)) tNil))) (fUn (isiB n) fe) :=
  ⟨pe_callB call_isi hg hm (by decide +kernel) (pa_cons ha.pe (pa_cons (pe_bltn hgT hmT hvT rfl hnT hdT) pa_nil hs2) hs1) (by decide) (by decide) hs1 hpl, rd_un (r := fun x H Q => rIsi X.K [x, .ty n] H Q) uns_isi ha.rd⟩
/-! ### tests -/
theorem dt_val (h : DE X so e te fe) (he : ∀ whole, isTrue e X.env whole = (do let v ← whole; standAt e.pos; holding [v] (truthy v)) := by intro _; rfl) : DT X so e (tB te) (fTest fe) := ⟨pt_val h.pe he, rdt_val h.rd⟩
section
variable {t u : TT} {f g : SB} {rest : List Expr}
theorem dw_and1 (h : DT X so a t f) : DW X so (.BoolOp .And [a] pos) t f := ⟨pw_and1 h.pt, h.rd⟩
theorem dw_or1 (h : DT X so a t f) : DW X so (.BoolOp .Or [a] pos) t f := ⟨pw_or1 h.pt, h.rd⟩
theorem dw_and (h : DT X so a t f) (hr : DW X so (.BoolOp .And (b :: rest) pos) u g) : DW X so (.BoolOp .And (a :: b :: rest) pos) (tAnd t u) (bAnd f g) := ⟨pw_and h.pt hr.pw, rdt_and h.rd hr.rd⟩
theorem dw_or (h : DT X so a t f) (hr : DW X so (.BoolOp .Or (b :: rest) pos) u g) : DW X so (.BoolOp .Or (a :: b :: rest) pos) (tOr t u) (bOr f g) := ⟨pw_or h.pt hr.pw, rdt_or h.rd hr.rd⟩
theorem DW.dt (h : DW X so e t f) : DT X so e t f := ⟨h.pw.pt, h.rd⟩
theorem dt_not (h : DT X so a t f) : DT X so (.UnaryOp .Not a pos) (tNot t) (bNot f) := ⟨pt_not h.pt, rdt_not h.rd⟩
theorem de_if {c : Expr} {h1 : TE} (hc : DT X so c t f) (ha : DE X so a ta fa) (hb : DE X so b tb fb) : DE X so (.IfExp c a b pos) (tIf t ta tb) (fIf f fa fb) := ⟨pe_ifExp hc.pt ha.pe hb.pe, rd_if hc.rd ha.rd hb.rd⟩
theorem de_one {op} (h : DE X so a ta fa) : DE X so (.BoolOp op [a] pos) ta fa := ⟨pe_one h.pe, h.rd⟩
theorem de_and (ha : DE X so a ta fa) (hb : DE X so (.BoolOp .And (b :: rest) pos) tb fb) : DE X so (.BoolOp .And (a :: b :: rest) pos) (tAndV ta tb) (fAnd fa fb) := ⟨pe_and ha.pe hb.pe, rd_and ha.rd hb.rd⟩
theorem de_or (ha : DE X so a ta fa) (hb : DE X so (.BoolOp .Or (b :: rest) pos) tb fb) : DE X so (.BoolOp .Or (a :: b :: rest) pos) (tOrV ta tb) (fOr fa fb) := ⟨pe_or ha.pe hb.pe, rd_or ha.rd hb.rd⟩
theorem de_not (ha : DE X so a ta fa) : DE X so (.UnaryOp .Not a pos) (tNotV ta) (fNot fa) := ⟨pe_not ha.pe, rd_not ha.rd⟩
end
/-! ### targets, what is walked -/
structure DG (X : Cx) (so : SO) (tg : Expr) (g : TG) (s : Bd → En → Option En) (is : List Nat) : Prop where
  pg : PG X tg g
  rd : RdG X.K so g s is
structure DGs (X : Cx) (so : SO) (ts : List Expr) (g : TGs) (s : List Bd → En → Option En) (is : List Nat) : Prop where
  pgs : PGs X ts g
  rd : RdGs X.K so g s is
theorem dg_name (i : Nat) {x : Str} (hN : X.N.Nodup) (hi : X.N[i]? = some x := by rfl) (hx : Loc X.env.scope x := by first | exact Or.inl rfl | exact Or.inr rfl) (hf : X.fn x = true ∨ X.env.scope.names.lookup x = some .local := by first | exact .inl rfl | exact .inr rfl | assumption) : DG X so (.Name x pos) (gName i) (sName i) [i] :=
  ⟨pg_name hN hi hx hf, rdg_name i⟩
theorem dgs_nil : DGs X so [] gNil sNil [] := ⟨pgs_nil, rdg_nil⟩
theorem dgs_cons {es : List Expr} {t : TG} {u : TGs} {s : Bd → En → Option En} {r : List Bd → En → Option En} {i1 i2 : List Nat} (h1 : DG X so e t s i1) (h2 : DGs X so es u r i2) (hs : (assignEach (e :: es) X.env).map (·.2) = assign e X.env :: (assignEach es X.env).map (·.2) := by rfl) : DGs X so (e :: es) (gCons t u) (sCons s r) (i1 ++ i2) := ⟨pgs_cons h1.pg h2.pgs hs, rdg_cons h1.rd h2.rd⟩
theorem dg_tup {es : List Expr} {k n : Nat} {u : TGs} {r : List Bd → En → Option En} {is : List Nat} (hc : X.calm = true) (h : DGs X so es u r is) (hn : (assignEach es X.env).length = n := by rfl) (hst : (assignEach es X.env).findIdx? (·.1) = none := by rfl) : DG X so (.Tuple es k pos) (gTup X.K n u) (sTup n r) is :=
  ⟨pg_tup hc h.pgs hn hst, rdg_tup h.rd⟩
theorem dg_unl {es : List Expr} {k n : Nat} {u : TGs} {r : List Bd → En → Option En} {is : List Nat} (hc : X.calm = true) (h : DGs X so es u r is) (hn : (assignEach es X.env).length = n := by rfl) (hst : (assignEach es X.env).findIdx? (·.1) = none := by rfl) : DG X so (.Tuple es k pos) (gUnl X.K n u) (sUnl n r) is :=
  ⟨pg_unl hc h.pgs hn hst, rdg_unl h.rd⟩
structure DI (X : Cx) (so : SO) (tg iter : Expr) (w : TI) (f : SI) : Prop where
  pi : PI X tg iter w
  rd : RdI X.K so w f
theorem di_seq {tg : Expr} (h : DE X so e te fe) : DI X so tg e (iSeq X.K te) (fiSeq fe) := ⟨pi_seq h.pe, rdi_seq h.rd⟩
theorem di_rng1 {tg : Expr} {ta : TA} {fs : SA} (hm : X.mg "range" = none) (ha : DAr X so [a] ta fs) (hg : Gl X "range" := by rfl) (hs : starEach [a] X.env = [(false, eval a X.env)] := by rfl) : DI X so tg (.Call (.Name "range" p) [a] [] pos) (iRng1 ta) (fiAr rng1I fs) := ⟨pi_range1 hg hm ha.pa hs, rdi_rng1 ha.rd⟩
theorem di_rng2 {tg : Expr} {ta : TA} {fs : SA} (hm : X.mg "range" = none) (ha : DAr X so [a, b] ta fs) (hg : Gl X "range" := by rfl) (hs : starEach [a, b] X.env = [(false, eval a X.env), (false, eval b X.env)] := by rfl) (hs2 : starEach [b] X.env = [(false, eval b X.env)] := by rfl) :
    DI X so tg (.Call (.Name "range" p) [a, b] [] pos) (iRng2 ta) (fiAr rng2I fs) := ⟨pi_range2 hg hm ha.pa hs hs2, rdi_rng2 ha.rd⟩
theorem di_enum {tpos : Pos} {elts : List Expr} {kk : Nat} {ta : TA} {fs : SA} (hm : X.mg "enumerate" = none) (ha : DAr X so [e] ta fs) (hg : Gl X "enumerate" := by rfl) (hs : starEach [e] X.env = [(false, eval e X.env)] := by rfl) :
    DI X so (.Tuple elts kk tpos) (.Call (.Name "enumerate" p) [e] [] pos) (iEnum X.K ta) (fiAr enumI fs) := ⟨pi_enum hg hm ha.pa hs, rdi_enum ha.rd⟩
structure DTs (X : Cx) (so : SO) (ifs : List Expr) (t : TT) (f : SB) : Prop where
  pts : PTs X ifs t
  rd : RdT X.K so t f
theorem dts_nil : DTs X so [] tYes bYes := ⟨pts_nil, rdt_yes⟩
theorem dts_one {t : TT} {f : SB} (h : DT X so e t f) : DTs X so [e] t f := ⟨pts_one h.pt, h.rd⟩
/-- [elt for target in iter if ..]; vs: the places of the own names -/
theorem de_lc (N : List Str) (sc : Scope) {elt tg iter : Expr} {ifs : List Expr} {scope : Scope} {own : List (Str × Nat)} {w : TI} {g : TG} {tt : TT} {s : Bd → En → Option En} {is : List Nat} {fi : SI} {c : SB} (hc : X.calm = true) (hN : X.N.Nodup) (hi : DI X so tg iter w fi) (ok : blkC N sc scope own = true)
    (hg : ∀ (s' : Shared) (H : Hp) (C : Addr) (cl : List (Str × Addr)) (fp : List Addr), DG (X.blk s' H scope (compEnvC scope cl C X.env) fp) so tg g s is) (hs : ∀ i ∈ is, i ∈ own.map (·.2))
    (ht : ∀ (s' : Shared) (H : Hp) (C : Addr) (cl : List (Str × Addr)) (fp : List Addr), DTs (X.blk s' H scope (compEnvC scope cl C X.env) fp) so ifs tt c)
    (he : ∀ (s' : Shared) (H : Hp) (C : Addr) (cl : List (Str × Addr)) (fp : List Addr), DE (X.blk s' H scope (compEnvC scope cl C X.env) fp) so elt te fe) (hf : ∀ x, foldedSetIterable iter X.env x = pure x := by intro _; rfl) (hNe : X.N = N := by rfl) (hse : X.env.scope = sc := by rfl) :
    DE X so (.ListComp elt [⟨tg, iter, ifs, 0⟩] scope pos) (tLc w g tt te (own.map (·.2))) (fLc (own.map (·.2)) s fi c fe) :=
  ⟨pe_lc hc hN hi.pi (blkOk_by (by rw [hNe, hse]; exact ok)) (fun s' H C cl fp => (hg s' H C cl fp).pg) (fun s' H C cl fp => (ht s' H C cl fp).pts) (fun s' H C cl fp => (he s' H C cl fp).pe) hf,
    rd_lc hi.rd (hg {} (fun _ => none) 0 [] []).rd hs (ht {} (fun _ => none) 0 [] []).rd (he {} (fun _ => none) 0 [] []).rd⟩
/-! ### statements -/
theorem dss_nil : DSs X so [] tNext gNext := ⟨pss_nil, rds_next⟩
theorem dss_cons {st : Stmt} {rest : List Stmt} {t u : TS} {g1 g2 : SS} (h1 : DS X so st t g1) (h2 : DSs X so rest u g2) : DSs X so (st :: rest) (tSeq t u) (gSeq g1 g2) := ⟨pss_cons h1.ps h2.pss, rds_seq h1.rd h2.rd⟩
theorem dss_one {st : Stmt} {t : TS} {g : SS} (h : DS X so st t g) : DSs X so [st] t g := ⟨pss_one h.ps, h.rd⟩
theorem ds_pass : DS X so (.Pass pos) tNext gNext := ⟨ps_pass, rds_next⟩
theorem ds_break : DS X so (.Break pos) tBreak gBrk := ⟨ps_break, rds_brk⟩
theorem ds_continue : DS X so (.Continue pos) tCont gCnt := ⟨ps_continue, rds_cnt⟩
theorem ds_never {st : Stmt} : DS X so st tNever gNever := ⟨ps_never, rds_never⟩
theorem ds_set (i : Nat) {x : Str} {px : Pos} (hN : X.N.Nodup) (h : DE X so e te fe) (hi : X.N[i]? = some x := by rfl) (hx : Loc X.env.scope x := by first | exact Or.inl rfl | exact Or.inr rfl) (hs : swapsWith e (some (.Name x px)) pos.line X.env = pure false := by rfl)
    (hf : X.fn x = true ∨ X.env.scope.names.lookup x = some .local := by first | exact .inl rfl | exact .inr rfl | assumption) : DS X so (.Assign [.Name x px] e pos) (tAsg te (gName i)) (gAsg (sName i) fe) := ⟨ps_set hN hi hx h.pe hs hf, rds_asg h.rd (rdg_name i)⟩
/-- name = [..] on one line -/
theorem ds_setLc (N : List Str) (sc : Scope) (i : Nat) {y : Str} {py : Pos} {elt tg iter : Expr} {ifs : List Expr} {scope : Scope} {own : List (Str × Nat)} {spos : Pos} {w : TI} {g : TG} {tt : TT} {s : Bd → En → Option En} {is : List Nat} {fi : SI} {c : SB} (hc : X.calm = true) (hN : X.N.Nodup) (hi : DI X so tg iter w fi) (ok : blkC N sc scope own = true)
    (hg : ∀ (s' : Shared) (H : Hp) (C : Addr) (cl : List (Str × Addr)) (fp : List Addr), DG (X.blk s' H scope (compEnvC scope cl C X.env) fp) so tg g s is) (hs : ∀ i ∈ is, i ∈ own.map (·.2))
    (ht : ∀ (s' : Shared) (H : Hp) (C : Addr) (cl : List (Str × Addr)) (fp : List Addr), DTs (X.blk s' H scope (compEnvC scope cl C X.env) fp) so ifs tt c)
    (he : ∀ (s' : Shared) (H : Hp) (C : Addr) (cl : List (Str × Addr)) (fp : List Addr), DE (X.blk s' H scope (compEnvC scope cl C X.env) fp) so elt te fe)
    (hy : X.N[i]? = some y := by rfl) (hyl : X.env.scope.names.lookup y = some .local := by rfl) (hsw : swapsWith (.ListComp elt [⟨tg, iter, ifs, 0⟩] scope pos) (some (.Name y py)) spos.line X.env = pure true := by exact sw_true rfl rfl rfl (by decide +kernel)) (hf : ∀ x, foldedSetIterable iter X.env x = pure x := by intro _; rfl) (hNe : X.N = N := by rfl) (hse : X.env.scope = sc := by rfl) :
    DS X so (.Assign [.Name y py] (.ListComp elt [⟨tg, iter, ifs, 0⟩] scope pos) spos) (tAsg (tLc w g tt te (own.map (·.2))) (gName i)) (gAsg (sName i) (fLc (own.map (·.2)) s fi c fe)) :=
  ⟨ps_setLc hc hN hy hyl hsw hi.pi (blkOk_by (by rw [hNe, hse]; exact ok)) (fun s' H C cl fp => (hg s' H C cl fp).pg) (fun s' H C cl fp => (ht s' H C cl fp).pts) (fun s' H C cl fp => (he s' H C cl fp).pe) hf,
    rds_asg (rd_lc hi.rd (hg {} (fun _ => none) 0 [] []).rd hs (ht {} (fun _ => none) 0 [] []).rd (he {} (fun _ => none) 0 [] []).rd) (rdg_name i)⟩
/-- any other target -/
theorem ds_asg {tg : Expr} {g : TG} {s : Bd → En → Option En} {is : List Nat} (h : DE X so e te fe) (hg : DG X so tg g s is) (hs : swapsWithSole [tg] e pos.line X.env = pure false := by rfl) (hw : swappedStores [tg] e X.env = pure none := by rfl) (h1 : (assignEach [tg] X.env).map (·.2) = [assign tg X.env] := by rfl) : DS X so (.Assign [tg] e pos) (tAsg te g) (gAsg s fe) :=
  ⟨ps_asg h.pe hg.pg hs hw h1, rds_asg h.rd hg.rd⟩
/-- a, b, .. = x, y, .. by a tuple -/
theorem ds_parT {es ts : List Expr} {x1 k n : Nat} {p1 p2 : Pos} {ta : TA} {fa : SA} {u : TGs} {r : List Bd → En → Option En} {is : List Nat} (hc : X.calm = true) (hz : n ≤ 1000) (h : DAr X so es ta fa) (hg : DGs X so ts u r is)
    (hn : (assignEach ts X.env).length = n := by rfl) (hst : (assignEach ts X.env).findIdx? (·.1) = none := by rfl) (hs : swapsWithSole [.Tuple ts k p1] (.Tuple es x1 p2) pos.line X.env = pure false := by rfl) (hw : swappedStores [.Tuple ts k p1] (.Tuple es x1 p2) X.env = pure none := by rfl) :
    DS X so (.Assign [.Tuple ts k p1] (.Tuple es x1 p2) pos) (tAsg (tTup ta) (gTup X.K n u)) (gParN n r fa) := ⟨ps_asg (pe_tup h.pa) (pg_tup hc hg.pgs hn hst) hs hw, rds_parT hz h.rd hg.rd⟩
theorem ds_par2 (i j : Nat) {x y : Str} {px py pt pt2 : Pos} {kt k2} {ta : TA} {fa : SA} (hc : X.calm = true) (hN : X.N.Nodup) (h : DAr X so [a, b] ta fa) (hi : X.N[i]? = some x := by rfl) (hj : X.N[j]? = some y := by rfl) (hij : i ≠ j := by decide)
    (hx : X.env.scope.names.lookup x = some .local := by rfl) (hy : X.env.scope.names.lookup y = some .local := by rfl) (hw : swappedStores [.Tuple [.Name x px, .Name y py] kt pt] (.Tuple [a, b] k2 pt2) X.env = pure (some [x, y]) := by rfl)
    (hs : swapsWithSole [.Tuple [.Name x px, .Name y py] kt pt] (.Tuple [a, b] k2 pt2) pos.line X.env = pure false := by rfl) : DS X so (.Assign [.Tuple [.Name x px, .Name y py] kt pt] (.Tuple [a, b] k2 pt2) pos) (tPar i j ta) (gPar (sCons (sName i) (sCons (sName j) sNil)) fa) :=
  ⟨ps_par hc hN hi hj hij hx hy h.pa hw hs, rds_par2 h.rd⟩
theorem ds_par3 (i j l : Nat) {x y z : Str} {c : Expr} {px py pz pt pt2 : Pos} {kt k2} {ta : TA} {fa : SA} (hc : X.calm = true) (hN : X.N.Nodup) (h : DAr X so [a, b, c] ta fa) (hi : X.N[i]? = some x := by rfl) (hj : X.N[j]? = some y := by rfl) (hl : X.N[l]? = some z := by rfl) (hij : i ≠ j := by decide) (hil : i ≠ l := by decide) (hjl : j ≠ l := by decide)
    (hx : X.env.scope.names.lookup x = some .local := by rfl) (hy : X.env.scope.names.lookup y = some .local := by rfl) (hz : X.env.scope.names.lookup z = some .local := by rfl) (hw : swappedStores [.Tuple [.Name x px, .Name y py, .Name z pz] kt pt] (.Tuple [a, b, c] k2 pt2) X.env = pure (some [x, y, z]) := by rfl)
    (hs : swapsWithSole [.Tuple [.Name x px, .Name y py, .Name z pz] kt pt] (.Tuple [a, b, c] k2 pt2) pos.line X.env = pure false := by rfl) : DS X so (.Assign [.Tuple [.Name x px, .Name y py, .Name z pz] kt pt] (.Tuple [a, b, c] k2 pt2) pos) (tPar3 i j l ta) (gPar (sCons (sName i) (sCons (sName j) (sCons (sName l) sNil))) fa) :=
  ⟨ps_par3 hc hN hi hj hl hij hil hjl hx hy hz h.pa hw hs, rds_par3 h.rd⟩
theorem ds_ret (h : DE X so e te fe) : DS X so (.Return (some e) pos) (tRet te) (gRet fe) := ⟨ps_ret h.pe, rds_ret h.rd⟩
theorem ds_retN : DS X so (.Return none pos) tRetN gRetN := ⟨ps_retN, rds_retN⟩
theorem ds_expr (h : DE X so e te fe) (hs : swapsWith e none pos.line X.env = pure false := by rfl) : DS X so (.Expr e pos) (tDrop te) (gDrop fe) := ⟨ps_expr h.pe hs, rds_expr h.rd⟩
theorem ds_if {c : Expr} {s1 s2 : List Stmt} {tc : TT} {t u : TS} {f : SB} {g1 g2 : SS} (hc : DT X so c tc f) (h1 : DSs X so s1 t g1) (h2 : DSs X so s2 u g2) : DS X so (.If c s1 s2 pos) (tIfS tc t u) (gIf f g1 g2) := ⟨ps_if hc.pt h1.pss h2.pss, rds_if hc.rd h1.rd h2.rd⟩
theorem ds_for {tg iter : Expr} {body : List Stmt} {w : TI} {g : TG} {t : TS} {s : Bd → En → Option En} {is : List Nat} {fi : SI} {gb : SS} (hp : PassesOwn (model X.prog X.w) X.A X.env X.xe) (hc : X.calm = true) (hi : DI X so tg iter w fi) (hg : DG X so tg g s is) (hb : DSs X so body t gb)
    (hs : ∀ x, foldedSetIterable iter X.env x = pure x := by intro _; rfl) : DS X so (.For tg iter body [] pos) (tFor w g t) (gFor s fi gb) := ⟨ps_for hp hc hi.pi hg.pg hb.pss hs, rds_for hi.rd hg.rd hb.rd⟩
theorem ds_while {c : Expr} {body : List Stmt} {tc : TT} {t : TS} {f : SB} {g : SS} (hp : PassesOwn (model X.prog X.w) X.A X.env X.xe) (hc : DT X so c tc f) (hb : DSs X so body t g) : DS X so (.While c body [] pos) (tWhile tc t) (gWhile f g) := ⟨ps_while hp hc.pt hb.pss, rds_while hc.rd hb.rd⟩
theorem ds_setI (i : Nat) {x : Str} {px pp : Pos} (h : DE X so e te fe) (hk : DE X so k tk fk) (hN : X.N[i]? = some x := by rfl) (hv : Vis X.env.scope x := by first | exact Or.inl rfl | exact Or.inr (Or.inl rfl) | exact Or.inr (Or.inr rfl)) (hd : (x == ("__debug__" : Str)) = false := by decide)
    (hcd : (x == ("__classdict__" : Str)) = false := by decide) (ha : ∀ v, assign (.Subscript (.Name x px) k pp) X.env v = (do
      let ov ← holding [v] (eval (.Name x px) X.env)
      let iv ← holding [v, ov] (eval k X.env)
      standAt pp
      holding [v, ov, iv] (setItem ov iv v)
      release [v, ov, iv] []) := by intro _; rfl) (hs : swapsWithSole [.Subscript (.Name x px) k pp] e pos.line X.env = pure false := by rfl) (hw : swappedStores [.Subscript (.Name x px) k pp] e X.env = pure none := by rfl) :
    DS X so (.Assign [.Subscript (.Name x px) k pp] e pos) (tAsg te (gSub (tVar i) tk rSetL)) (gSetI i fe fk) := ⟨ps_asg h.pe (pg_sub (pv i hN hv hd hcd) hk.pe set_list ha) hs hw, rds_setI h.rd hk.rd⟩
theorem ds_dput {n : Nat} (i : Nat) {x : Str} {px pp : Pos} (hr : Rm n X.A) (h : DE X so e te fe) (hk : DE X so k tk fk) (hN : X.N[i]? = some x := by rfl) (hv : Vis X.env.scope x := by first | exact Or.inl rfl | exact Or.inr (Or.inl rfl) | exact Or.inr (Or.inr rfl)) (hd : (x == ("__debug__" : Str)) = false := by decide)
    (hcd : (x == ("__classdict__" : Str)) = false := by decide) (hs : swapsWith e (some (.Subscript (.Name x px) k pp)) pos.line X.env = pure false := by rfl) : DS X so (.Assign [.Subscript (.Name x px) k pp] e pos) (sDPut (tVar i) tk te) (gDput i fk fe) := ⟨ps_dput hr.hu (pv i hN hv hd hcd) hk.pe h.pe hs, rds_dput hk.rd h.rd⟩
theorem ds_append (i : Nat) {x : Str} {px pa : Pos} {p2 : Pos} (h : DE X so e te fe) (hN : X.N[i]? = some x := by rfl) (hv : Vis X.env.scope x := by first | exact Or.inl rfl | exact Or.inr (Or.inl rfl) | exact Or.inr (Or.inr rfl)) (hd : (x == ("__debug__" : Str)) = false := by decide)
    (hcd : (x == ("__classdict__" : Str)) = false := by decide) (hp : PE X (.Call (.Attribute (.Name x px) "append" pa) [e] [] p2) (tBM X.K "list" rAppend (tVar i) (tCons te tNil))) (hs : swapsWith (.Call (.Attribute (.Name x px) "append" pa) [e] [] p2) none pos.line X.env = pure false := by rfl) :
    DS X so (.Expr (.Call (.Attribute (.Name x px) "append" pa) [e] [] p2) pos) (tDrop (tBM X.K "list" rAppend (tVar i) (tCons te tNil))) (gAppend i fe) := ⟨ps_expr hp hs, rds_append h.rd⟩
end
end DL
set_option maxRecDepth 100000
set_option maxHeartbeats 2000000
/-! DJ: more rules: list(range(..)), methods. -/
namespace DL
open PySem PySem.Spec PyProof.Rows L2
section
variable {K : PySem.W.Frag} {so : SO} {H0 H H' : Hp} {A0 A A' : Addr → Prop} {S S' : Src} {σ σ' tv : Sl} {ρ ρ' tb : En} {v x y : V} {b c : Bd}
def rgOk (i j : Int) : Bool := decide (-(2 ^ 62) ≤ i ∧ i < 2 ^ 62 ∧ -(2 ^ 62) ≤ j ∧ j < 2 ^ 62 ∧ (j - i).toNat ≤ 1000000)
theorem DenL.rg {lo : Int} {n : Nat} : DenL K H A ((List.range n).map fun i => V.int (lo + (i : Nat))) (rangeD lo n) := by
  unfold rangeD
  induction (List.range n) with
  | nil => exact .nil
  | cons i r ih => exact .cons (.int _) ih
def lr1B (b : Bd) : Option Bd := match toD b with
  | some (.int n) => if rgOk 0 n = true then some (.lst (rangeD 0 (n - 0).toNat)) else none
  | _ => none
def lr2B (a b : Bd) : Option Bd := match toD a, toD b with
  | some (.int i), some (.int j) => if rgOk i j = true then some (.lst (rangeD i (j - i).toNat)) else none
  | _, _ => none
theorem uns_lr1 : UnS K so (fun x H Q => ∃ n, x = .int n ∧ (RgOk 0 n ∧ ∀ q, H q = none → Q (.ref q) (upd H q (.lst (rgV 0 n))))) lr1B := fun H0 A0 S σ ρ H A x bx b Q M e q => by
  unfold lr1B at e
  split at e
  · rename_i n en
    split at e
    · rename_i hz
      cases e
      simp only [rgOk, decide_eq_true_eq] at hz
      exact ⟨n, (M.last.dp en).intI, ⟨hz.1, hz.2.1, hz.2.2.1, hz.2.2.2.1, by omega⟩, fun p hp => q _ _ A (M.newL hp .rg)⟩
    · cases e
  · cases e
theorem ops_lr2 : OpS K so (fun x y H Q => ∃ i j, x = .int i ∧ y = .int j ∧ (RgOk i j ∧ ∀ q, H q = none → Q (.ref q) (upd H q (.lst (rgV i j))))) lr2B := fun H0 A0 S σ ρ H A x y bx by_ b Q M e q => by
  unfold lr2B at e
  split at e
  · rename_i i j ei ej
    split at e
    · rename_i hz
      cases e
      simp only [rgOk, decide_eq_true_eq] at hz
      exact ⟨i, j, (M.init.last.dp ei).intI, (M.last.dp ej).intI, ⟨hz.1, hz.2.1, hz.2.2.1, hz.2.2.2.1, by omega⟩, fun p hp => q _ _ A (M.newL hp .rg)⟩
    · cases e
  · cases e
end
section
variable {X : Cx} {so : SO} {pos p p2 pos2 : Pos} {e a b c : Expr} {te ta tb tc : TE} {fe fa fb : SE}
theorem de_lr1 (hc : X.calm = true) (hm : X.mg "list" = none) (hm2 : X.mg "range" = none) (ha : DE X so a ta fa) (hg : Gl X "list" := by rfl) (hg2 : Gl X "range" := by rfl)
    (n1 : starEach [.Call (.Name "range" p2) [a] [] pos2] X.env = (false, eval (.Call (.Name "range" p2) [a] [] pos2) X.env) :: starEach [] X.env := by rfl) (n2 : starEach [a] X.env = (false, eval a X.env) :: starEach [] X.env := by rfl) :
    DE X so (.Call (.Name "list" p) [.Call (.Name "range" p2) [a] [] pos2] [] pos) (tLstRg (tRg1 ta)) (fUn lr1B fa) := ⟨pe_listRg hc hg hm (prg_1 hg2 hm2 ha.pe n2) n1, rd_un (r := fun x H Q => ∃ n, x = .int n ∧ (RgOk 0 n ∧ ∀ q, H q = none → Q (.ref q) (upd H q (.lst (rgV 0 n))))) uns_lr1 ha.rd⟩
theorem de_lr2 (hc : X.calm = true) (hm : X.mg "list" = none) (hm2 : X.mg "range" = none) (ha : DE X so a ta fa) (hb : DE X so b tb fb) (hg : Gl X "list" := by rfl) (hg2 : Gl X "range" := by rfl)
    (n1 : starEach [.Call (.Name "range" p2) [a, b] [] pos2] X.env = (false, eval (.Call (.Name "range" p2) [a, b] [] pos2) X.env) :: starEach [] X.env := by rfl) (n2 : starEach [a, b] X.env = (false, eval a X.env) :: starEach [b] X.env := by rfl)
    (n3 : starEach [b] X.env = (false, eval b X.env) :: starEach [] X.env := by rfl) (n4 : (backTo pos2 (starEach [b] X.env)).any (·.1) = false := by rfl) :
    DE X so (.Call (.Name "list" p) [.Call (.Name "range" p2) [a, b] [] pos2] [] pos) (tLstRg (tRg2 ta tb)) (fOp lr2B fa fb) :=
  ⟨pe_listRg hc hg hm (prg_2 hg2 hm2 ha.pe hb.pe n2 n3 n4) n1, rd_op (r := fun x y H Q => ∃ i j, x = .int i ∧ y = .int j ∧ (RgOk i j ∧ ∀ q, H q = none → Q (.ref q) (upd H q (.lst (rgV i j))))) ops_lr2 ha.rd hb.rd⟩
/-! ### list(range(a, b, c)), for .. in range(a, b, c) -/
def rgCV (i c : Int) (n : Nat) : List V := (List.range n).map fun m => V.int (i + (m : Nat) * c)
def tLstR3 (ta : TA) : TE := fun σ H Q => ta σ H fun vs H1 => ∃ (i j c : Int) (n : Nat), vs = [.int i, .int j, .int c] ∧ (RgC i j c n ∧ n ≤ 2 ^ 24) ∧ ∀ q, H1 q = none → Q (.ref q) (upd H1 q (.lst (rgCV i c n)))
theorem pe_listR3 {ta : TA} (hc : X.calm = true) (hg : Gl X "list") (hm : X.mg "list" = none) (hg2 : Gl X "range") (hm2 : X.mg "range" = none) (ha : PA X [a, b, c] ta)
    (n1 : starEach [.Call (.Name "range" p2) [a, b, c] [] pos2] X.env = (false, eval (.Call (.Name "range" p2) [a, b, c] [] pos2) X.env) :: starEach [] X.env) (n2 : starEach [a, b, c] X.env = (false, eval a X.env) :: starEach [b, c] X.env) (n3 : (backTo pos2 (starEach [b, c] X.env)).any (·.1) = false) :
    PE X (.Call (.Name "list" p) [.Call (.Name "range" p2) [a, b, c] [] pos2] [] pos) (tLstR3 ta) := by
  constructor
  intro pins s σ H Q I h
  apply Call_ (ld_blt I hg hm boot_list (PyProof.Rows.callWith_type1 (args_cons ?_ n1) n1))
  apply Call_ (ld_blt I hg2 hm2 boot_range (PyProof.Rows.callWith_type1 (thn (ha.run pos2 pins s σ H _ I h) ?_) n2 n3))
  rintro us s1 ⟨vs, H1, I1, r1, i, j, k, n, rfl, ⟨⟨c0, c1, c2, c3⟩, c4⟩, q⟩
  match us, r1 with
  | [u1, u2, u3], .cons q1 (.cons q2 (.cons q3 .nil)) =>
  obtain ⟨t1, rfl⟩ := q1
  obtain ⟨t2, rfl⟩ := q2
  obtain ⟨t3, rfl⟩ := q3
  apply call_range_3 c0 ?_ (.inl (PyProof.noPylong_small c1))
  apply args_nil
  have I2 : Inv X pins σ H1 { s1 with heap := s1.heap.push { cls := .type "range", data := .fields #[.int i t1, .int j t2, .int k t3] } } := I1.kept (t' := s1.toks) fun b o e => Heap.get?_push_of_some _ e
  refine call_list_range (n := n) (I2.ok.hd hc) (IsRange.new ..) c2 c3 c4 fun h' tk acc c' hk e' hi => ?_
  have hlen : acc.toList.length = n := by rw [Array.length_toList]; exact hi.1
  have hv : Vals (rgCV i k n) acc.toList := by
    unfold rgCV
    rw [← hlen]
    refine vals_of_get acc.toList _ fun m u hm => ?_
    obtain ⟨t, rfl⟩ := hi.2 m u (by rw [← hm, Array.getElem?_toList])
    exact ⟨t, rfl⟩
  refine ⟨.ref (s1.heap.push { cls := .type "range", data := .fields #[.int i t1, .int j t2, .int k t3] }).objs.size, upd H1 _ (.lst (rgCV i k n)), I2.laid hk (Nat.le_refl _) (show ObjOk X.prog X.w _ _ _ (.lst (rgCV i k n)) from ⟨?_, acc.toList, c', hv, ?_⟩), rfl, q _ (I2.hok.fresh (Nat.le_refl _))⟩
  · rw [hv.length, hlen, sizeLine_eq]; omega
  · rw [Array.toArray_toList]; exact e'
end
section
variable {K : PySem.W.Frag} {so : SO} {H0 H H' : Hp} {A0 A A' : Addr → Prop} {S S' : Src} {σ σ' tv : Sl} {ρ ρ' tb : En} {v x y : V} {b c : Bd}
theorem DenL.rgC {lo c : Int} {n : Nat} : DenL K H A (rgCV lo c n) (rangeCD lo c n) := by
  unfold rangeCD rgCV
  induction (List.range n) with
  | nil => exact .nil
  | cons i r ih => exact .cons (.int _) ih
/-- how many turns -/
def rg3 (i j c : Int) : Option Nat := if c ≠ 0 ∧ c.natAbs < 1073741824 ∧ Builtin.Range.small i j c = true ∧ Builtin.Range.rangeSize i j c = (Builtin.Range.rangeSize i j c).toNat ∧ (Builtin.Range.rangeSize i j c).toNat ≤ 1000000 then some (Builtin.Range.rangeSize i j c).toNat else none
def ints3 (bs : List Bd) : Option (Int × Int × Int) := match bs with
  | [a, b, c] => match toD a, toD b, toD c with
    | some (.int i), some (.int j), some (.int k) => some (i, j, k)
    | _, _, _ => none
  | _ => none
def lr3B (bs : List Bd) : Option Bd := (ints3 bs).bind fun p => (rg3 p.1 p.2.1 p.2.2).map fun n => .lst (rangeCD p.1 p.2.2 n)
def rng3I (bs : List Bd) : Option (Bool × List PyData) := (ints3 bs).bind fun p => (rg3 p.1 p.2.1 p.2.2).map fun n => (true, rangeCD p.1 p.2.2 n)
theorem ints3_at {vs : List V} {bs : List Bd} {p : Int × Int × Int} (M : Mt K so H0 A0 S (σ ++ vs.map some) (ρ ++ bs.map some) H A) (hl : σ.length = ρ.length) (e : ints3 bs = some p) : vs = [.int p.1, .int p.2.1, .int p.2.2] := by
  unfold ints3 at e
  split at e
  · rename_i a b c
    split at e
    · rename_i i j k e1 e2 e3
      cases e
      have hn := M.len
      simp [hl] at hn
      match vs, hn with
      | [x, y, z], _ =>
      have M' : Mt K so H0 A0 S (σ ++ [some x] ++ [some y] ++ [some z]) (ρ ++ [some a] ++ [some b] ++ [some c]) H A := by simpa using M
      rw [(M'.init.init.last.dp e1).intI, (M'.init.last.dp e2).intI, (M'.last.dp e3).intI]
    · cases e
  · cases e
theorem rg3_ok {i j c : Int} {n : Nat} (h : rg3 i j c = some n) : RgC i j c n ∧ n ≤ 2 ^ 24 := by
  unfold rg3 at h
  split at h
  · rename_i hz
    cases h
    exact ⟨⟨hz.1, hz.2.1, hz.2.2.1, hz.2.2.2.1⟩, by have := hz.2.2.2.2; omega⟩
  · cases h
theorem cas_lr3 : CaS K so (fun vs H Q => ∃ (i j c : Int) (n : Nat), vs = [.int i, .int j, .int c] ∧ (RgC i j c n ∧ n ≤ 2 ^ 24) ∧ ∀ q, H q = none → Q (.ref q) (upd H q (.lst (rgCV i c n)))) lr3B := fun H0 A0 S σ ρ H A vs bs b Q hl hn M e q => by
  unfold lr3B at e
  cases ep : ints3 bs with
  | none => rw [ep] at e; cases e
  | some p =>
  rw [ep, Option.bind_some] at e
  cases er : rg3 p.1 p.2.1 p.2.2 with
  | none => rw [er] at e; cases e
  | some n =>
  rw [er] at e
  cases e
  exact ⟨_, _, _, n, ints3_at M hl ep, rg3_ok er, fun r hr => q _ _ A (M.newL hr .rgC)⟩
theorem rdi_rng3 {ta : TA} {fa : SA} (ha : RdA K so ta fa) : RdI K so (iRng3 ta) (fiAr rng3I fa) := fun H0 A0 S σ ρ tv tb H A Q hl M h => by
  refine ha H0 A0 S σ ρ tv tb H A _ hl M ?_
  refine (R.post_bind.mp h).imp fun bs ρ1 S1 h vs H1 A1 hl1 hn M1 => ?_
  obtain ⟨r, e, h⟩ := R.post_of.mp h
  have hlt : (σ ++ tv).length = (ρ1 ++ tb).length := by have := M1.len; simp at this ⊢; omega
  unfold rng3I at e
  cases ep : ints3 bs with
  | none => rw [ep] at e; cases e
  | some p =>
  rw [ep, Option.bind_some] at e
  cases er : rg3 p.1 p.2.1 p.2.2 with
  | none => rw [er] at e; cases e
  | some n =>
  rw [er] at e
  cases e
  refine ⟨_, _, _, n, ints3_at M1 hlt ep, (rg3_ok er).1, h _ [] [] H1 A1 hl1 wk_rangeC (fun z c hc => nomatch hc) ?_⟩
  have := M1.sub hlt
  simpa using this
end
section
variable {X : Cx} {so : SO} {pos p p2 pos2 : Pos} {e a b c : Expr} {te ta tb tc : TE} {fe fa fb : SE}
theorem de_lr3 {t : TA} {fs : SA} (hc : X.calm = true) (hm : X.mg "list" = none) (hm2 : X.mg "range" = none) (ha : DAr X so [a, b, c] t fs) (hg : Gl X "list" := by rfl) (hg2 : Gl X "range" := by rfl)
    (n1 : starEach [.Call (.Name "range" p2) [a, b, c] [] pos2] X.env = (false, eval (.Call (.Name "range" p2) [a, b, c] [] pos2) X.env) :: starEach [] X.env := by rfl) (n2 : starEach [a, b, c] X.env = (false, eval a X.env) :: starEach [b, c] X.env := by rfl) (n3 : (backTo pos2 (starEach [b, c] X.env)).any (·.1) = false := by rfl) :
    DE X so (.Call (.Name "list" p) [.Call (.Name "range" p2) [a, b, c] [] pos2] [] pos) (tLstR3 t) (fAr lr3B fs) :=
  ⟨pe_listR3 hc hg hm hg2 hm2 ha.pa n1 n2 n3, rd_ca (r := fun vs H Q => ∃ (i j c : Int) (n : Nat), vs = [.int i, .int j, .int c] ∧ (RgC i j c n ∧ n ≤ 2 ^ 24) ∧ ∀ q, H q = none → Q (.ref q) (upd H q (.lst (rgCV i c n)))) cas_lr3 ha.rd⟩
theorem di_rng3 {tg : Expr} {ta : TA} {fs : SA} (hm : X.mg "range" = none) (ha : DAr X so [a, b, c] ta fs) (hg : Gl X "range" := by rfl) (hs : starEach [a, b, c] X.env = (false, eval a X.env) :: starEach [b, c] X.env := by rfl) (hpl : (backTo pos (starEach [b, c] X.env)).any (·.1) = false := by rfl) :
    DI X so tg (.Call (.Name "range" p) [a, b, c] [] pos) (iRng3 ta) (fiAr rng3I fs) := ⟨pi_range3 hg hm ha.pa hs hpl, rdi_rng3 ha.rd⟩
/-! ### methods of a list's value: xs.index(x) -/
end
section
variable {K : PySem.W.Frag} {so : SO} {H0 H H' : Hp} {A0 A A' : Addr → Prop} {S S' : Src} {σ σ' tv : Sl} {ρ ρ' tb : En} {v x y : V} {b c : Bd}
/-- a method of a built-in type, by values -/
def MeS (K : PySem.W.Frag) (so : SO) (T : String) (r : V → List V → Hp → VK → Prop) (o : Bd → List Bd → Option Bd) : Prop := (∀ (H0 H : Hp) (A : Addr → Prop) (x : V) (bx : Bd) (bs : List Bd) (b : Bd), OOk K so H0 H A x bx → o bx bs = some b → tyV K T x H) ∧
  ∀ (H0 : Hp) (A0 : Addr → Prop) (S : Src) (σ : Sl) (ρ : En) (H : Hp) (A : Addr → Prop) (x : V) (bx : Bd) (vs : List V) (bs : List Bd) (b : Bd) (Q : VK), σ.length = ρ.length → vs.length = bs.length →
  Mt K so H0 A0 S (σ ++ [some x] ++ vs.map some) (ρ ++ [some bx] ++ bs.map some) H A → o bx bs = some b →
  (∀ v H' A', Mt K so H0 A0 S (σ ++ [some x] ++ vs.map some ++ [some v]) (ρ ++ [some bx] ++ bs.map some ++ [some b]) H' A' → Q v H') → r x vs H Q
def fMe (o : Bd → List Bd → Option Bd) (fx : SE) (fa : SA) : SE := fun ρ S => (fx ρ S).bind fun x ρ S => (fa ρ S).bind fun bs ρ S => R.of (o x bs) ρ S
theorem rd_me {T : String} {r : V → List V → Hp → VK → Prop} {o : Bd → List Bd → Option Bd} {te : TE} {ta : TA} {fx : SE} {fa : SA} (ho : MeS K so T r o) (hx : RdE K so te fx) (ha : RdA K so ta fa) : RdE K so (tBM K T r te ta) (fMe o fx fa) := fun H0 A0 S σ ρ tv tb H A Q hl M h => by
  refine hx H0 A0 S σ ρ tv tb H A _ hl M ?_
  refine (R.post_bind.mp h).imp fun bx ρ1 S1 h v1 H1 A1 hl1 M1 => ?_
  have h2 := R.post_bind.mp h
  obtain ⟨bs, ρ2, S2, ea, h3⟩ := h2.get
  obtain ⟨b, eo, h4⟩ := R.post_of.mp h3
  refine ⟨ho.1 H0 H1 A1 v1 bx bs b M1.last eo, ha H0 A0 S1 σ ρ1 (tv ++ [some v1]) (tb ++ [some bx]) H1 A1 _ hl1 (by simpa only [List.append_assoc] using M1) ?_⟩
  rw [ea]
  intro vs H2 A2 hl2 hn M2
  have hlt : (σ ++ tv).length = (ρ2 ++ tb).length := by have := M2.len; simp at this ⊢; omega
  refine ho.2 H0 A0 S2 (σ ++ tv) (ρ2 ++ tb) H2 A2 v1 bx vs bs b Q hlt hn (by simpa only [List.append_assoc] using M2) eo fun v H' A' M' => h4 v H' A' hl2 ?_
  have M3 : Mt K so H0 A0 S2 (σ ++ tv ++ ([some v1] ++ vs.map some) ++ [some v]) (ρ2 ++ tb ++ ([some bx] ++ bs.map some) ++ [some b]) H' A' := by simpa only [List.append_assoc] using M'
  exact M3.cut hlt (by simp [hn])
/-- the first place of what is equal -/
def indexL : List PyData → PyData → Nat → Option Nat
  | [], _, _ => none
  | z :: zs, d, n => if PyData.eqv z d = true then some n else indexL zs d (n + 1)
def indexB (a : Bd) (bs : List Bd) : Option Bd := match bs with
  | [b] => (toL a).bind fun ds => (toD b).bind fun d => if (flatD d && ds.all flatD) = true then (indexL ds d 0).map fun j => .imm (.int (j : Nat)) else none
  | _ => none
theorem indexL_at {d : PyData} : ∀ {ds : List PyData} {n j : Nat}, indexL ds d n = some j → ∃ z, n ≤ j ∧ ds[j - n]? = some z ∧ PyData.eqv z d = true ∧ ∀ (m : Nat) (z' : PyData), m < j - n → ds[m]? = some z' → PyData.eqv z' d = false
  | [], n, j, h => by cases h
  | z :: zs, n, j, h => by
    unfold indexL at h
    split at h
    · rename_i hz
      cases h
      exact ⟨z, Nat.le_refl _, by rw [Nat.sub_self]; rfl, hz, fun m z' hm => by omega⟩
    · rename_i hz
      obtain ⟨z', h1, h2, h3, h4⟩ := indexL_at h
      refine ⟨z', by omega, ?_, h3, fun m z2 hm e => ?_⟩
      · rw [show j - n = (j - (n + 1)) + 1 by omega]; simpa using h2
      · cases m with
        | zero => simp at e; subst e; simpa using hz
        | succ m => exact h4 m z2 (by omega) (by simpa using e)
theorem mes_index : MeS K so "list" (rIndex K) indexB := by
  refine ⟨fun H0 H A x bx bs b o e => ?_, fun H0 A0 S σ ρ H A x bx vs bs b Q hl hn M e q => ?_⟩
  · unfold indexB at e
    split at e
    · cases el : toL bx with
      | none => rw [el] at e; cases e
      | some ds =>
        obtain ⟨a, vs, rfl, g1, _⟩ := o.lstI el
        exact .inl ⟨rfl, _, SqL.of g1⟩
    · cases e
  · unfold indexB at e
    split at e
    · rename_i b0
      cases el : toL bx with
      | none => rw [el] at e; cases e
      | some ds =>
      rw [el, Option.bind_some] at e
      cases ed : toD b0 with
      | none => rw [ed] at e; cases e
      | some d =>
      rw [ed, Option.bind_some] at e
      split at e
      · rename_i hf
        simp only [Bool.and_eq_true] at hf
        cases ej : indexL ds d 0 with
        | none => rw [ej] at e; cases e
        | some j =>
        rw [ej] at e
        cases e
        obtain ⟨y, rfl, M2⟩ := M.at1 (by simp [hl])
        obtain ⟨a, ws, rfl, g1, g2⟩ := M2.init.last.lstI el
        have dy := M2.last.dp ed
        obtain ⟨z, _, h2, h3, h4⟩ := indexL_at ej
        obtain ⟨w, e1, e2⟩ := g2.get (i := j) (by simpa using h2)
        refine ⟨a, ws, y, j, w, rfl, rfl, SqL.of g1, dy.flat hf.1, dpAll_allF g2.dp hf.2, e1, ?_, fun m z' hm e' => ?_, q _ H A (M.flat fun H A => .int _)⟩
        · rw [e2.dp.eqVD dy (List.all_eq_true.mp hf.2 z (List.mem_of_getElem? h2)) hf.1]; exact h3
        · have hm2 : m < ds.length := by have := getlt h2; omega
          obtain ⟨w2, e3, e4⟩ := g2.get (i := m) (d := ds[m]) (List.getElem?_eq_getElem hm2)
          rw [e'] at e3
          cases e3
          rw [e4.dp.eqVD dy (List.all_eq_true.mp hf.2 _ (List.getElem_mem hm2)) hf.1]
          exact h4 m ds[m] (by simpa using hm) (List.getElem?_eq_getElem hm2)
      · cases e
    · cases e
end
section
variable {X : Cx} {so : SO} {p p2 cpos apos : Pos} {e o : Expr} {es : List Expr} {to : TE} {t : TA} {fo : SE} {fs : SA}
theorem de_bm {T id : String} {name : Str} {r : V → List V → Hp → VK → Prop} {ob : Bd → List Bd → Option Bd} (pa : PlainAttrs T) (slot : Slot T name id) (hty : typeOf (.builtin id) = pure (.type "method_descriptor")) (hm : MtR X id r) (hs : MeS X.K so T r ob) (ho : DE X so o to fo) (ha : DAr X so (e :: es) t fs)
    (hbase : attributeBase o name X.env (eval o X.env) = eval o X.env := by rfl)
    (hfew : ((backTo cpos (starEach (e :: es) X.env)).all (fun x => !x.1) && (backToKw cpos (keywordEach [] X.env)).all (fun x => x.1.isSome)
      && decide ((e :: es).length + ([] : List Keyword).length + (if ([] : List Keyword).isEmpty then 0 else 1) < 30)) = true := by rfl)
    (hline : (apos.endLine == cpos.line) = true := by rfl) (hst : starEach (e :: es) X.env = (false, eval e X.env) :: starEach es X.env := by rfl) (hplain : (backTo cpos (starEach es X.env)).any (·.1) = false := by rfl) :
    DE X so (.Call (.Attribute o name apos) (e :: es) [] cpos) (tBM X.K T r to t) (fMe ob fo fs) := ⟨pe_bm pa slot hty hm ho.pe ha.pa hbase hfew hline hst hplain, rd_me hs ho.rd ha.rd⟩
end
end DL
set_option maxRecDepth 100000
set_option maxHeartbeats 2000000
/-! DK: the law's own def by data; an own list lent to a def that changes it. -/
namespace DL
open PySem PySem.Spec PyProof.Rows L2
theorem pss_ex {X : Cx} {st : List Stmt} {T : SO → TS} (h : ∀ so, PSs X st (T so)) : PSs X st (fun D σ H => ∃ so, T so D σ H) := ⟨fun pins s σ H D I ⟨so, q⟩ => (h so).run pins s σ H D I q⟩
def spLaw (K : PySem.W.Frag) : Sp := fun vs H Q _ => ∃ (a : Addr) (ns : List Int), vs = [.ref a] ∧ ns.length ≤ 63 ∧ SqL K H a (ns.map V.int) ∧ ∀ H', Q (.bl true) H'
theorem spLaw_in (K : PySem.W.Frag) (H : Hp) (a : Addr) (ns : List Int) (hl : ns.length ≤ 63) (_ : Only H) (hS : SqL K H a (ns.map V.int)) : spLaw K [.ref a] H (fun v _ => v = .bl true) E0 := ⟨a, ns, rfl, hl, hS, fun _ => rfl⟩
section
variable {P : Program} {w : World} {K : PySem.W.Frag} {mg : Str → Option Value} {base : Heap}
/-- what the first statement, source = _law_source(script), promises -/
def MakesSrc (K : PySem.W.Frag) (te : TE) : Prop := ∀ (σ : Sl) (H : Hp) (Q : VK) (a : Addr) (ns : List Int), σ[0]? = some (some (.ref a)) → SqL K H a (ns.map V.int) → ns.length ≤ 63 → (∀ H' p c S, Same H H' → SrcOk (some (p, c)) S H' → Q (.ref p) H') → te σ H Q
theorem mt_law {p c : Addr} {S : Src} {H : Hp} {a : Addr} {m : Nat} (h : SrcOk (some (p, c)) S H) : Mt K (some (p, c)) H (fun _ => False) S (some (.ref a) :: some (.ref p) :: List.replicate m none) (none :: some .src :: List.replicate m none) H (fun _ => False) where
  len := by simp
  keep := fun b x e _ => e
  a0 := fun _ h => h
  an := fun _ h => h.elim
  fz := fun _ h => h.elim
  ns := fun _ h => h.elim
  so0 := fun b hb => by
    rcases hb with rfl | rfl
    · exact ⟨_, h.1⟩
    · exact ⟨_, h.2⟩
  src := h
  bd := fun i b e => by
    match i, e with
    | 0, e => simp at e
    | 1, e => simp at e; subst e; exact ⟨_, rfl, p, c, rfl, rfl⟩
    | i + 2, e =>
      simp only [List.getElem?_cons_succ] at e
      have := List.mem_of_getElem? e
      rw [List.mem_replicate] at this
      cases this.2
  sep := fun i j b b' v ne e1 e2 o1 o2 => by
    match i, e1 with
    | 0, e => simp at e
    | 1, e => simp at e; subst e; cases o1
    | i + 2, e =>
      simp only [List.getElem?_cons_succ] at e
      have := List.mem_of_getElem? e
      rw [List.mem_replicate] at this
      cases this.2
theorem law_d {st : Stmt} {f : Addr} {fd : FuncData} {N : List Str} {m : Nat} {k : Nat} {g : SS} (F : Fun K "law" "law" st f fd) (S : FnScope N ["script"] (defScope st)) (hN : N.length = m + 2)
    (hb : ∀ (cdv : Value) (A : Around) (outer : List PySem.Env) (s : Shared) (H : Hp), Rm k (A.deeper (envOfC "law" (defScope st) s.heap.objs.size f cdv)) →
      ∃ (s1 : Stmt) (rest : List Stmt) (te : TE), defBody st = s1 :: rest ∧ PS (cxOf CX0 P w K mg base N "law" (defScope st) f cdv A outer s H E0).nox s1 (tAsg te (gName 1)) ∧ MakesSrc K te ∧ ∀ so : SO, ∃ t, DSs (cxOf CX0 P w K mg base N "law" (defScope st) f cdv A outer s H E0).nox so rest t g)
    (plain : ∀ S : Src, ∃ ρ S', g (none :: some .src :: List.replicate m none) S = .ok (.rt (.imm (.bool true))) ρ S') : FnG P w K mg base (k + 1) f fd ["script"] (spLaw K) := by
  refine FnG.body F S (fun vs H Q E h => ?_) fun cdv A outer s H vs Q hr h => ?_
  · obtain ⟨a, ns, rfl, _⟩ := h; rfl
  · obtain ⟨a, ns, rfl, hl, hS, q⟩ := h
    obtain ⟨s1, rest, te, e1, h1, hm, h2⟩ := hb cdv A outer s H hr
    refine ⟨tSeq (tAsg te (gName 1)) (fun D σ H => ∃ so, Classical.choose (h2 so) D σ H), e1 ▸ pss_cons h1 (pss_ex fun so => (Classical.choose_spec (h2 so)).pss), ?_⟩
    have es : L2.start N [V.ref a] = some (.ref a) :: none :: List.replicate m none := by
      unfold L2.start
      rw [hN]
      rfl
    rw [es]
    refine hm _ H _ a ns rfl hS hl fun H' p c S' _ ok => ?_
    show ∃ so, _
    refine ⟨some (p, c), ?_⟩
    have rd := (Classical.choose_spec (h2 (some (p, c)))).rd
    obtain ⟨ρ', S2, eg⟩ := plain S'
    refine rd H' (fun _ => False) S' _ (none :: some .src :: List.replicate m none) [] [] H' (fun _ => False) _ (by simp) (fun b hb => nomatch hb) (by rw [List.append_nil, List.append_nil]; exact mt_law ok) ?_
    rw [eg]
    intro σ v H2 A2 l M
    have o : Den K H2 A2 v (.bool true) := by
      have := Mt.last (by rw [List.append_nil, List.append_nil] at M; exact M)
      exact this
    cases o
    exact q H2
end
/-! ### an own list is lent to be changed -/
def rmH (H : Hp) (a : Addr) : Hp := fun b => if b = a then none else H b
section
variable {K : PySem.W.Frag} {so : SO} {H0 H H' H2 : Hp} {A0 A A2 : Addr → Prop} {S S' S2 : Src} {σ σ' tv : Sl} {ρ ρ' tb : En} {v x y : V} {b c : Bd}
theorem rmH_ne {a b : Addr} (h : b ≠ a) : rmH H a b = H b := if_neg h
theorem rmH_same {a : Addr} : rmH H a a = none := if_pos rfl
/-- the callee's own match -/
theorem Mt.lend {a : Addr} {ds : List PyData} (M : Mt K so H0 A0 S σ ρ H A) (o : OOk K so H0 H A (.ref a) (.lst ds)) : Mt K so (rmH H a) A S [some (.ref a)] [some (.lst ds)] H A := by
  obtain ⟨a', vs', e, ha, na, h0, hd⟩ := o
  cases e
  exact {
    len := rfl
    keep := fun b x e n => by
      by_cases q : b = a
      · rw [q, rmH_same] at e; cases e
      · rw [rmH_ne q] at e; exact e
    a0 := fun _ h => h
    an := fun _ h => .inl h
    fz := M.fz
    ns := M.ns
    so0 := fun b hb => by
      have q : b ≠ a := fun e => M.n0 h0 (e ▸ hb)
      rw [rmH_ne q]
      rcases hb.src M.src with ⟨_, z⟩ | ⟨_, z⟩ <;> exact ⟨_, z⟩
    src := M.src
    bd := fun i b e => by
      match i, e with
      | 0, e => simp at e; subst e; exact ⟨_, rfl, a, vs', rfl, ha, na, rmH_same, hd⟩
      | i + 1, e => simp at e
    sep := fun i j b b' v ne e1 e2 o1 o2 => by
      match i, j, e1, e2 with
      | 0, 0, _, _ => exact absurd rfl ne
      | i + 1, _, e, _ => simp at e
      | 0, j + 1, _, e => simp at e }
/-- back from the callee: slot i's list is changed -/
theorem Mt.back {a : Addr} {i : Nat} {ds ds' : List PyData} (M : Mt K so H0 A0 S (σ ++ tv) (ρ ++ tb) H A) (hl : σ.length = ρ.length) (nb : NB tb) (nr : nbE ρ = true) (h : ρ[i]? = some (some (.lst ds))) (hv : σ[i]? = some (some (.ref a)))
    (M2 : Mt K so (rmH H a) A S2 [some (.ref a)] [some (.lst ds')] H2 A2) : Mt K so H0 A0 S2 (σ ++ tv) (ρ.set i (some (.lst ds')) ++ tb) H2 A2 := by
  obtain ⟨v1, e1, a1, vs1, rfl, ha1, na1, h01, hd1⟩ := M.slot hl h
  rw [hv] at e1
  cases e1
  have hna : ¬ Has so a := M.n0 h01
  obtain ⟨v2, e2, a2, vs2, rfl, ha2, na2, _, hd2⟩ := M2.bd 0 _ rfl
  cases e2
  have k0 : ∀ b x, H b = some x → ¬ Has so b → b ≠ a → H2 b = some x := fun b x e n q => M2.keep b x (by rw [rmH_ne q]; exact e) n
  let H3 : Hp := upd H2 a (.lst vs1)
  have srcNe : ∀ b, Has so b → b ≠ a := fun b hb e => hna (e ▸ hb)
  have M3 : Mt K so H0 A0 S2 (σ ++ tv) (ρ ++ tb) H3 A2 := by
    refine M.up (fun b x e n => ?_) (M2.src.keepd fun b hb => upd_ne (srcNe b hb)) M2.a0 (fun b hb => ?_) (fun b hb => ?_) M2.ns
    · by_cases q : b = a
      · subst q
        rw [show H3 b = some (.lst vs1) from upd_same, ← ha1, e]
      · rw [show H3 b = H2 b from upd_ne q]; exact k0 b x e n q
    · have q : b ≠ a := fun e => na2 (e ▸ hb)
      rcases M2.an b hb with z | z
      · exact .inl z
      · rw [rmH_ne q] at z; exact .inr z
    · have q : b ≠ a := fun e => na2 (e ▸ hb)
      rw [show H3 b = H2 b from upd_ne q]
      exact M2.fz b hb
  have hd3 : DenL K H3 A2 vs2 ds' := DenL.mono (fun _ h => h) (fun b xs hb e => by
    have q : b ≠ a := fun e => na2 (e ▸ hb)
    rw [show H3 b = H2 b from upd_ne q]; exact e) (fun b u t e => by
    have q : b ≠ a := fun z => by rw [z, ha2] at e; cases e; cases t
    rw [show H3 b = H2 b from upd_ne q]; exact e) hd2
  have M4 := M3.change hl nb nr h hv hd3
  have eH : upd H3 a (.lst vs2) = H2 := by
    funext b
    by_cases q : b = a
    · subst q; rw [upd_same, ha2]
    · rw [upd_ne q]; exact upd_ne q
  rw [eH] at M4
  exact M4
end
section
variable {X : Cx} {so : SO} {pos : Pos} {e : Expr} {te : TE} {fe : SE}
/-- xs.append(e), all in one -/
theorem ds_app (i : Nat) {x : Str} {px pa p2 : Pos} (h : DE X so e te fe) (hN : X.N[i]? = some x := by rfl) (hv : Vis X.env.scope x := by first | exact Or.inl rfl | exact Or.inr (Or.inl rfl) | exact Or.inr (Or.inr rfl)) (hd : (x == ("__debug__" : Str)) = false := by decide)
    (hcd : (x == ("__classdict__" : Str)) = false := by decide) (hbase : attributeBase (.Name x px) "append" X.env (eval (.Name x px) X.env) = eval (.Name x px) X.env := by rfl)
    (hfew : ((backTo p2 (starEach [e] X.env)).all (fun x => !x.1) && (backToKw p2 (keywordEach [] X.env)).all (fun x => x.1.isSome)
      && decide (([e] : List Expr).length + ([] : List Keyword).length + (if ([] : List Keyword).isEmpty then 0 else 1) < 30)) = true := by rfl)
    (hline : (pa.endLine == p2.line) = true := by rfl) (hst : starEach [e] X.env = (false, eval e X.env) :: starEach [] X.env := by rfl) (hplain : (backTo p2 (starEach [] X.env)).any (·.1) = false := by rfl)
    (hs : swapsWith (.Call (.Attribute (.Name x px) "append" pa) [e] [] p2) none pos.line X.env = pure false := by rfl) :
    DS X so (.Expr (.Call (.Attribute (.Name x px) "append" pa) [e] [] p2) pos) (tDrop (tBM X.K "list" rAppend (tVar i) (tCons te tNil))) (gAppend i fe) :=
  ds_append i h hN hv hd hcd (pe_bm PySem.F.plainAttrs_list PySem.F.slot_list_append PySem.F.type_list_append mt_append (pv i hN hv hd hcd) (pa_cons h.pe pa_nil hst) hbase hfew hline hst hplain) hs
/-! ### f(xs, e): the def changes xs -/
def spM (K : PySem.W.Frag) (so : SO) (F : List PyData → PyData → Option (List PyData)) : Sp := fun vs H Q _ => ∃ (a : Addr) (y : V) (ds : List PyData) (d : PyData) (S : Src) (A : Addr → Prop), vs = [.ref a, y] ∧
  Mt K so (rmH H a) A S [some (.ref a), some y] [some (.lst ds), some (.imm d)] H A ∧
  match F ds d with
  | some ds' => ∀ H' A', Mt K so (rmH H a) A S [some (.ref a)] [some (.lst ds')] H' A' → Q .non H'
  | none => False
def FnM (P : Program) (w : World) (K : PySem.W.Frag) (mg : Str → Option Value) (base : Heap) (k : Nat) (f : Addr) (fd : FuncData) (ps : List Str) (F : List PyData → PyData → Option (List PyData)) : Prop := ∀ so : SO, FnG P w K mg base k f fd ps (spM K so F)
def gLend (F : List PyData → PyData → Option (List PyData)) (i : Nat) (fe : SE) : SS := fun ρ S => if isOwn i ρ = true then (fe ρ S).bind fun b ρ S => ownSet i ρ S fun ds => (toF b).bind fun d => F ds d else .bad
theorem rds_lend {K : PySem.W.Frag} {F : List PyData → PyData → Option (List PyData)} {i : Nat} (he : RdE K so te fe) : RdS K so (tDrop (fun σ H Q => (tCons (tVar i) (tCons te tNil)) σ H fun vs H1 => spM K so F vs H1 Q E0)) (gLend F i fe) := fun H0 A0 S σ ρ tv tb H A D hl nb M h => by
  unfold gLend at h
  split at h
  · rename_i ho
    obtain ⟨ds0, e0⟩ := isOwn_at ho
    obtain ⟨a, vs0, e1, ha, _⟩ := M.own hl e0
    refine ⟨.ref a, e1, he H0 A0 S σ ρ tv tb H A _ hl M ?_⟩
    refine (R.post_bind.mp h).imp fun b ρ1 S1 h v1 H1 A1 hl1 M1 => ?_
    obtain ⟨ds, ds', g1, g2, g3, g4⟩ := ownSet_post h
    cases ef : toF b with
    | none => rw [ef] at g2; cases g2
    | some d =>
    rw [ef, Option.bind_some] at g2
    obtain ⟨A2, M2⟩ := M1.frz1 ef
    have dd : Den K H1 A2 v1 d := M2.last
    obtain ⟨v3, e3, o3⟩ := M2.init.slot hl1 g1
    have ea : v3 = .ref a := by rw [e1] at e3; exact (Option.some.inj (Option.some.inj e3)).symm
    subst ea
    refine ⟨a, v1, ds, d, S1, A2, rfl, (M2.lend o3).pushI (b := .imm d) dd rfl, ?_⟩
    rw [g2]
    intro H' A' M'
    exact g4 σ H' A' (by simpa using hl1) (M2.init.back hl1 nb g3 g1 e1 M')
  · exact h.elim
theorem ds_lend {n : Nat} {f : Addr} {fd : FuncData} {p1 p2 : Str} {F : List PyData → PyData → Option (List PyData)} {g : Str} {pg p3 px : Pos} (i : Nat) {x : Str} (G : FnM X.prog X.w X.K X.mg X.base n f fd [p1, p2] F) (hr : Rm n X.A) (hm : X.mg g = some (.ref f)) (hk : PySem.W.keepIn X.K (.ref f) = true) (hb : Binds X.K fd [p1, p2] []) (h : DE X so e te fe)
    (hg : Gl X g := by rfl) (hdb : (g == ("__debug__" : Str)) = false := by decide) (hN : X.N[i]? = some x := by rfl) (hv : Vis X.env.scope x := by first | exact Or.inl rfl | exact Or.inr (Or.inl rfl) | exact Or.inr (Or.inr rfl)) (hd : (x == ("__debug__" : Str)) = false := by decide)
    (hcd : (x == ("__classdict__" : Str)) = false := by decide) (he : starEach [.Name x px, e] X.env = (false, eval (.Name x px) X.env) :: starEach [e] X.env := by rfl) (he2 : starEach [e] X.env = (false, eval e X.env) :: starEach [] X.env := by rfl) (hpl : (backTo p3 (starEach [e] X.env)).any (·.1) = false := by rfl)
    (hs : swapsWith (.Call (.Name g pg) [.Name x px, e] [] p3) none pos.line X.env = pure false := by rfl) :
    DS X so (.Expr (.Call (.Name g pg) [.Name x px, e] [] p3) pos) (tDrop (fun σ H Q => (tCons (tVar i) (tCons te tNil)) σ H fun vs H1 => spM X.K so F vs H1 Q E0)) (gLend F i fe) :=
  ⟨ps_expr (pe_callG (G so) hr hg hm hk hb (pa_cons (pv i hN hv hd hcd) (pa_cons h.pe pa_nil he2) he) hdb he hpl) hs, rds_lend h.rd⟩
end
/-! ### in a comprehension's own frame the terms are the outer ones -/
section
variable {X : Cx} {so : SO}
theorem DE.cast {e : Expr} {te te' : TE} {f : SE} (h : DE X so e te' f) (z : te' = te) : DE X so e te f := z ▸ h
theorem DTs.cast {e : List Expr} {te te' : TT} {f : SB} (h : DTs X so e te' f) (z : te' = te) : DTs X so e te f := z ▸ h
theorem DG.cast {e : Expr} {te te' : TG} {f : Bd → En → Option En} {is : List Nat} (h : DG X so e te' f is) (z : te' = te) : DG X so e te f is := z ▸ h
end
/-! ### compares as tests -/
section
variable {X : Cx} {so : SO} {pos p : Pos} {a b : Expr} {ta tb : TE} {fa fb : SE}
theorem dt_cmp {op : CmpOp} {r : R2} {o : Bd → Bd → Option Bd} (ho : OpR X (compareOp op) r) (hs : OpS X.K so r o) (hm : behindInMarks op b = false) (ha : DE X so a ta fa) (hb : DE X so b tb fb) : DT X so (.Compare a [op] [b] pos) (tTest (tOp r ta tb)) (fTest (fOp o fa fb)) := ⟨pt_cmpR ho ha.pe hb.pe hm, rdt_val (rd_op hs ha.rd hb.rd)⟩
theorem dt_lt (ha : DE X so a ta fa) (hb : DE X so b tb fb) : DT X so (.Compare a [.Lt] [b] pos) (tTest (tOp (rI0 fun i j => .bl (decide (i < j))) ta tb)) (fTest (fOp ltB fa fb)) := dt_cmp op_lt ops_lt (nomark _) ha hb
theorem dt_le (ha : DE X so a ta fa) (hb : DE X so b tb fb) : DT X so (.Compare a [.LtE] [b] pos) (tTest (tOp (rI0 fun i j => .bl (decide (i ≤ j))) ta tb)) (fTest (fOp leB fa fb)) := dt_cmp op_le ops_le (nomark _) ha hb
theorem dt_gt (ha : DE X so a ta fa) (hb : DE X so b tb fb) : DT X so (.Compare a [.Gt] [b] pos) (tTest (tOp (rI0 fun i j => .bl (decide (j < i))) ta tb)) (fTest (fOp gtB fa fb)) := dt_cmp op_gt ops_gt (nomark _) ha hb
theorem dt_ge (ha : DE X so a ta fa) (hb : DE X so b tb fb) : DT X so (.Compare a [.GtE] [b] pos) (tTest (tOp (rI0 fun i j => .bl (decide (j ≤ i))) ta tb)) (fTest (fOp geB fa fb)) := dt_cmp op_ge ops_ge (nomark _) ha hb
theorem dt_eq {n : Nat} (hr : Rm n X.A) (ha : DE X so a ta fa) (hb : DE X so b tb fb) : DT X so (.Compare a [.Eq] [b] pos) (tTest (tOp (rEqA X.K) ta tb)) (fTest (fOp (eqB false) fa fb)) := dt_cmp (op_eqA hr.room.units) ops_eq (nomark _) ha hb
theorem dt_ne {n : Nat} (hr : Rm n X.A) (ha : DE X so a ta fa) (hb : DE X so b tb fb) : DT X so (.Compare a [.NotEq] [b] pos) (tTest (tOp (rNeA X.K) ta tb)) (fTest (fOp (eqB true) fa fb)) := dt_cmp (op_neA hr.room.units) ops_ne (nomark _) ha hb
theorem dt_is (ha : DE X so a ta fa) (hb : DE X so b tb fb) : DT X so (.Compare a [.Is] [b] pos) (tTest (tOp rIsA ta tb)) (fTest (fOp (isB false) fa fb)) := dt_cmp op_isA ops_is (nomark _) ha hb
theorem dt_isn (ha : DE X so a ta fa) (hb : DE X so b tb fb) : DT X so (.Compare a [.IsNot] [b] pos) (tTest (tOp rIsnA ta tb)) (fTest (fOp (isB true) fa fb)) := dt_cmp op_isnA ops_isn (nomark _) ha hb
theorem dt_in {n : Nat} (hr : Rm n X.A) (ha : DE X so a ta fa) (hb : DE X so b tb fb) (hm : behindInMarks .In b = false := by rfl) : DT X so (.Compare a [.In] [b] pos) (tTest (tOp (rInA X.K) ta tb)) (fTest (fOp (inB false) fa fb)) := dt_cmp (op_inA (u65 hr)) ops_in hm ha hb
theorem dt_nin {n : Nat} (hr : Rm n X.A) (ha : DE X so a ta fa) (hb : DE X so b tb fb) (hm : behindInMarks .NotIn b = false := by rfl) : DT X so (.Compare a [.NotIn] [b] pos) (tTest (tOp (rNinA X.K) ta tb)) (fTest (fOp (inB true) fa fb)) := dt_cmp (op_ninA (u65 hr)) ops_nin hm ha hb
theorem dt_din {n i : Nat} {x : Str} (hr : Rm n X.A) (hk : DE X so a ta fa) (hN : X.N[i]? = some x := by rfl) (hv : Vis X.env.scope x := by first | exact Or.inl rfl | exact Or.inr (Or.inl rfl) | exact Or.inr (Or.inr rfl)) (hd : (x == ("__debug__" : Str)) = false := by decide)
    (hcd : (x == ("__classdict__" : Str)) = false := by decide) (h1 : behindInMarks .In (.Name x p) = false := by rfl) : DT X so (.Compare a [.In] [.Name x p] pos) (tB (tDIn ta (tVar i))) (fTest (fDin false i fa)) := ⟨pt_cmp (pc_din hr.hu hk.pe (pv i hN hv hd hcd)) h1, rdt_val (rd_din hk.rd)⟩
theorem dt_dnin {n i : Nat} {x : Str} (hr : Rm n X.A) (hk : DE X so a ta fa) (hN : X.N[i]? = some x := by rfl) (hv : Vis X.env.scope x := by first | exact Or.inl rfl | exact Or.inr (Or.inl rfl) | exact Or.inr (Or.inr rfl)) (hd : (x == ("__debug__" : Str)) = false := by decide)
    (hcd : (x == ("__classdict__" : Str)) = false := by decide) (h1 : behindInMarks .NotIn (.Name x p) = false := by rfl) : DT X so (.Compare a [.NotIn] [.Name x p] pos) (tB (tDNotIn ta (tVar i))) (fTest (fDin true i fa)) := ⟨pt_cmp (pc_dnotin hr.hu hk.pe (pv i hN hv hd hcd)) h1, rdt_val (rd_dnotin hk.rd)⟩
end
end DL
set_option maxRecDepth 100000
set_option maxHeartbeats 2000000
/-! DM: the readings unfolded by simp. -/
namespace DL
open PySem PySem.Spec PyProof.Rows L2
section
variable {α β : Type} {a : α} {ρ : En} {S : Src} {g1 g2 g : SS} {c d : SB} {f fa fb fx : SE} {fr : SA} {fi : SI} {s : Bd → En → Option En} {r : List Bd → En → Option En} {i n : Nat} {ds : List PyData} {x y z b : Bd} {bs : List Bd}
@[simp] theorem rb_ok {k : α → En → Src → R β} : (R.ok a ρ S).bind k = k a ρ S := rfl
@[simp] theorem rb_bad {k : α → En → Src → R β} : (R.bad : R α).bind k = .bad := rfl
@[simp] theorem ro_some : R.of (some a) ρ S = .ok a ρ S := rfl
@[simp] theorem ro_none : R.of (none : Option α) ρ S = .bad := rfl
@[simp] theorem q_seq : gSeq g1 g2 ρ S = (g1 ρ S).bind fun fl ρ S => match fl with
  | .nx => g2 ρ S
  | fl => .ok fl ρ S := rfl
@[simp] theorem q_if : gIf c g1 g2 ρ S = (c ρ S).bind fun k ρ S => if k = true then g1 ρ S else g2 ρ S := rfl
@[simp] theorem q_asg : gAsg s f ρ S = (f ρ S).bind fun b ρ S => match s b ρ with
  | some ρ' => .ok .nx ρ' S
  | none => .bad := rfl
@[simp] theorem q_par : gPar r fr ρ S = (fr ρ S).bind fun bs ρ S => match r bs ρ with
  | some ρ' => .ok .nx ρ' S
  | none => .bad := rfl
@[simp] theorem q_parN : gParN n r fr ρ S = (fr ρ S).bind fun bs ρ S => if bs.length = n then match r bs ρ with
  | some ρ' => .ok .nx ρ' S
  | none => .bad else .bad := rfl
@[simp] theorem q_ret : gRet f ρ S = (f ρ S).bind fun b ρ S => .ok (.rt b) ρ S := rfl
@[simp] theorem q_retN : gRetN ρ S = .ok (.rt (.imm .none)) ρ S := rfl
@[simp] theorem q_drop : gDrop f ρ S = (f ρ S).bind fun _ ρ S => .ok .nx ρ S := rfl
@[simp] theorem q_next : gNext ρ S = .ok .nx ρ S := rfl
@[simp] theorem q_brk : gBrk ρ S = .ok .bk ρ S := rfl
@[simp] theorem q_cnt : gCnt ρ S = .ok .ct ρ S := rfl
@[simp] theorem q_for : gFor s fi g ρ S = (fi ρ S).bind fun p ρ S => if p.1 = true then forS s g p.2 ρ S else .bad := rfl
@[simp] theorem q_var : fVar i ρ S = match ρ[i]? with
  | some (some (.lst ds)) => .ok (.bor ds) ρ S
  | some (some (.dk _)) => .bad
  | some (some (.dt _)) => .bad
  | some (some b) => .ok b ρ S
  | _ => .bad := rfl
@[simp] theorem q_frz : fFrz i ρ S = match ρ[i]? with
  | some (some (.lst ds)) => .ok (.imm (.list ds)) (ρ.set i (some (.imm (.list ds)))) S
  | some (some (.dk _)) => .bad
  | some (some (.dt _)) => .bad
  | some (some b) => .ok b ρ S
  | _ => .bad := rfl
@[simp] theorem q_mov : fMov i ρ S = match ρ[i]? with
  | some (some b) => .ok b (ρ.set i none) S
  | _ => .bad := rfl
@[simp] theorem q_c {d : PyData} : fC d ρ S = .ok (.imm d) ρ S := rfl
@[simp] theorem q_op {o : Bd → Bd → Option Bd} : fOp o fa fb ρ S = (fa ρ S).bind fun x ρ S => (fb ρ S).bind fun y ρ S => R.of (o x y) ρ S := rfl
@[simp] theorem q_un {o : Bd → Option Bd} : fUn o fa ρ S = (fa ρ S).bind fun x ρ S => R.of (o x) ρ S := rfl
@[simp] theorem q_ar {o : List Bd → Option Bd} : fAr o fr ρ S = (fr ρ S).bind fun bs ρ S => R.of (o bs) ρ S := rfl
@[simp] theorem q_me {o : Bd → List Bd → Option Bd} : fMe o fx fr ρ S = (fx ρ S).bind fun x ρ S => (fr ρ S).bind fun bs ρ S => R.of (o x bs) ρ S := rfl
@[simp] theorem q_ife : fIf c fa fb ρ S = (c ρ S).bind fun k ρ S => if k = true then fa ρ S else fb ρ S := rfl
@[simp] theorem q_and : fAnd fa fb ρ S = (fa ρ S).bind fun b ρ S => match b with
  | .imm (.bool c) => if c = true then fb ρ S else .ok (.imm (.bool false)) ρ S
  | _ => .bad := by unfold fAnd; rfl
@[simp] theorem q_or : fOr fa fb ρ S = (fa ρ S).bind fun b ρ S => match b with
  | .imm (.bool c) => if c = true then .ok (.imm (.bool true)) ρ S else fb ρ S
  | _ => .bad := by unfold fOr; rfl
@[simp] theorem q_test : fTest f ρ S = (f ρ S).bind fun b ρ S => match b with
  | .imm (.bool c) => .ok c ρ S
  | _ => .bad := by unfold fTest; rfl
@[simp] theorem q_band : bAnd c d ρ S = (c ρ S).bind fun k ρ S => if k = true then d ρ S else .ok false ρ S := rfl
@[simp] theorem q_bor : bOr c d ρ S = (c ρ S).bind fun k ρ S => if k = true then .ok true ρ S else d ρ S := rfl
@[simp] theorem q_bnot : bNot c ρ S = (c ρ S).bind fun k ρ S => .ok (!k) ρ S := rfl
@[simp] theorem q_yes : bYes ρ S = .ok true ρ S := rfl
@[simp] theorem q_nil : aNil ρ S = .ok [] ρ S := rfl
@[simp] theorem q_cons : aCons fa fr ρ S = (fa ρ S).bind fun b ρ S => (fr ρ S).bind fun bs ρ S => .ok (b :: bs) ρ S := rfl
@[simp] theorem q_call {F : FD} : fCall F fr ρ S = (fr ρ S).bind fun bs ρ S => match argsB bs with
  | none => .bad
  | some cs => match F cs S with
    | none => .bad
    | some (b, S') => if (b.back && (!(bs.any Bd.lent) || b.plain)) = true then .ok b ρ S' else .bad := rfl
@[simp] theorem q_lc {vs : List Nat} : fLc vs s fi c f ρ S = (fi ρ S).bind fun p ρ S => (lcS vs s c f p.2 [] ρ S).bind fun acc ρ S => .ok (.lst acc) (wE ρ vs) S := rfl
@[simp] theorem q_sl {lo hi : SO2} : fSl fa lo hi ρ S = (fa ρ S).bind fun a ρ S => (lo ρ S).bind fun l ρ S => (hi ρ S).bind fun u ρ S => R.of (slB a l u) ρ S := rfl
@[simp] theorem q_onone : oNone ρ S = .ok none ρ S := rfl
@[simp] theorem q_osome : oSome f ρ S = (f ρ S).bind fun b ρ S => match toD b with
  | some (.int i) => .ok (some i) ρ S
  | _ => .bad := by unfold oSome; rfl
@[simp] theorem q_fiseq : fiSeq f ρ S = (f ρ S).bind fun b ρ S => R.of (seqI b) ρ S := rfl
@[simp] theorem q_fiar {o : List Bd → Option (Bool × List PyData)} : fiAr o fr ρ S = (fr ρ S).bind fun bs ρ S => R.of (o bs) ρ S := rfl
@[simp] theorem q_o1 {h : Bd → Option Bd} : o1 h [x] = h x := rfl
@[simp] theorem q_o2 {h : Bd → Bd → Option Bd} : o2 h [x, y] = h x y := rfl
@[simp] theorem q_sname : sName i b ρ = (stB b).map fun c => ρ.set i (some c) := rfl
@[simp] theorem q_snil : sNil [] ρ = some ρ := rfl
@[simp] theorem q_scons : sCons s r (b :: bs) ρ = (s b ρ).bind fun ρ => r bs ρ := rfl
@[simp] theorem q_stup : sTup n r (.imm (.tuple ds)) ρ = if ds.length = n then r (ds.map Bd.imm) ρ else none := rfl
@[simp] theorem q_forn : forS s g [] ρ S = .ok .nx ρ S := rfl
@[simp] theorem q_seqL : seqI (.lst ds) = some (true, ds) := rfl
@[simp] theorem q_seqB : seqI (.bor ds) = some (false, ds) := rfl
@[simp] theorem q_seqIL : seqI (.imm (.list ds)) = some (true, ds) := rfl
@[simp] theorem q_seqIT : seqI (.imm (.tuple ds)) = some (true, ds) := rfl
@[simp] theorem q_own : b.own = match b with
  | .lst _ => true
  | .dk _ => true
  | .dt _ => true
  | _ => false := by cases b <;> rfl
@[simp] theorem q_isbor : b.isBor = match b with
  | .bor _ => true
  | _ => false := by cases b <;> rfl
@[simp] theorem q_st : stB b = match b with
  | .bor _ => none
  | b => some b := by cases b <;> rfl
@[simp] theorem q_arg : b.arg = match b with
  | .imm d => some (.imm d)
  | .bor ds => some (.imm (.list ds))
  | .lst ds => some (.imm (.list ds))
  | .src => some .src
  | .ref a => some (.ref a)
  | .wr d => some (.wr d)
  | .dk _ => none
  | .dt _ => none := by cases b <;> rfl
@[simp] theorem q_args0 : argsB [] = some [] := rfl
@[simp] theorem q_args1 : argsB (b :: bs) = match b.arg, argsB bs with
    | some c, some cs => some (c :: cs)
    | _, _ => none := rfl
@[simp] theorem q_back : b.back = match b with
  | .dk _ => false
  | .dt _ => false
  | .bor _ => false
  | _ => true := by cases b <;> rfl
@[simp] theorem q_lent : b.lent = match b with
  | .bor _ => true
  | .lst _ => true
  | _ => false := by cases b <;> rfl
@[simp] theorem q_plain : b.plain = match b with
  | .imm d => noL d
  | .lst ds => noLs ds
  | .dk _ => false
  | .dt _ => false
  | .bor _ => false
  | _ => true := by cases b <;> rfl
@[simp] theorem q_toD : toD b = match b with
  | .imm d => some d
  | .bor ds => some (.list ds)
  | .lst ds => some (.list ds)
  | .wr d => some d
  | _ => none := by cases b <;> rfl
@[simp] theorem q_toL : toL b = match b with
  | .imm (.list ds) => some ds
  | .bor ds => some ds
  | .lst ds => some ds
  | _ => none := by unfold toL; rfl
@[simp] theorem q_toF : toF b = match b with
  | .imm d => some d
  | .lst ds => some (.list ds)
  | _ => none := by unfold toF; rfl
@[simp] theorem q_toFs0 : toFs [] = some [] := rfl
@[simp] theorem q_toFs1 : toFs (b :: bs) = match toF b, toFs bs with
  | some d, some ds => some (d :: ds)
  | _, _ => none := rfl
@[simp] theorem q_tupB : tupB bs = match toFs bs with
  | some ds => if ds.length ≤ 1000 then some (.imm (.tuple ds)) else none
  | none => none := by unfold tupB; rfl
@[simp] theorem q_lstB : lstB bs = match toFs bs with
  | some ds => if ds.length ≤ 1000 then some (.lst ds) else none
  | none => none := by unfold lstB; rfl
@[simp] theorem q_lenT : lenB (.imm (.tuple ds)) = some (.imm (.int ds.length)) := rfl
@[simp] theorem q_lenIL : lenB (.imm (.list ds)) = some (.imm (.int ds.length)) := rfl
@[simp] theorem q_lenL : lenB (.lst ds) = some (.imm (.int ds.length)) := rfl
@[simp] theorem q_lenB : lenB (.bor ds) = some (.imm (.int ds.length)) := rfl
@[simp] theorem q_ixT {i : Int} : ixB (.imm (.tuple ds)) (.imm (.int i)) = (atI ds i).map Bd.imm := rfl
@[simp] theorem q_ixIL {i : Int} : ixB (.imm (.list ds)) (.imm (.int i)) = (atI ds i).map Bd.imm := rfl
@[simp] theorem q_ixL {i : Int} : ixB (.lst ds) (.imm (.int i)) = (atI ds i).map Bd.imm := rfl
@[simp] theorem q_ixB {i : Int} : ixB (.bor ds) (.imm (.int i)) = (atI ds i).map Bd.imm := rfl
@[simp] theorem q_sub {i j : Int} : subB (.imm (.int i)) (.imm (.int j)) = some (.imm (.int (i - j))) := rfl
@[simp] theorem q_lt {i j : Int} : ltB (.imm (.int i)) (.imm (.int j)) = some (.imm (.bool (decide (i < j)))) := rfl
@[simp] theorem q_le {i j : Int} : leB (.imm (.int i)) (.imm (.int j)) = some (.imm (.bool (decide (i ≤ j)))) := rfl
@[simp] theorem q_gt {i j : Int} : gtB (.imm (.int i)) (.imm (.int j)) = some (.imm (.bool (decide (j < i)))) := rfl
@[simp] theorem q_ge {i j : Int} : geB (.imm (.int i)) (.imm (.int j)) = some (.imm (.bool (decide (j ≤ i)))) := rfl
@[simp] theorem q_add {i j : Int} : addB (.imm (.int i)) (.imm (.int j)) = some (.imm (.int (i + j))) := rfl
@[simp] theorem q_isn {neg : Bool} {x : Bd} : isB neg x (.imm .none) = some (.imm (.bool (if neg then !isNone x else isNone x))) := by unfold isB; cases neg <;> rfl
@[simp] theorem q_isnone {d : PyData} : isNone (.imm d) = match d with
  | .none => true
  | _ => false := by cases d <;> rfl
@[simp] theorem q_tupOf : tupleB (.lst ds) = some (.imm (.tuple ds)) := rfl
@[simp] theorem q_tupOfB : tupleB (.bor ds) = some (.imm (.tuple ds)) := rfl
@[simp] theorem q_neg {i : Int} : negB (.imm (.int i)) = some (.imm (.int (-i))) := rfl
@[simp] theorem q_int {k : Bool} : intB (.imm (.bool k)) = some (.imm (.int (if k then 1 else 0))) := rfl
@[simp] theorem q_eqS {neg : Bool} {u v : Str} : eqB neg (.imm (.str u)) (.imm (.str v)) = some (.imm (.bool (if neg then !decide (u = v) else decide (u = v)))) := rfl
@[simp] theorem q_eqI {neg : Bool} {u v : Int} : eqB neg (.imm (.int u)) (.imm (.int v)) = some (.imm (.bool (if neg then !decide (u = v) else decide (u = v)))) := rfl
theorem forS_cons {d : PyData} : forS s g (d :: ds) ρ S = match s (.imm d) ρ with
    | none => .bad
    | some ρ1 => match g ρ1 S with
      | .bad => .bad
      | .ok .nx ρ2 S2 => forS s g ds ρ2 S2
      | .ok .ct ρ2 S2 => forS s g ds ρ2 S2
      | .ok .bk ρ2 S2 => .ok .nx ρ2 S2
      | .ok (.rt b) ρ2 S2 => .ok (.rt b) ρ2 S2 := rfl
/-- a for with an invariant, whose body always goes on -/
theorem forS_inv (J : Nat → En → Prop) : ∀ {ds : List PyData} {k : Nat} {ρ : En} {S : Src}, J k ρ →
    (∀ (i : Nat) (d : PyData) (ρ : En) (S : Src), ds[i]? = some d → J (k + i) ρ → ∃ ρ1 ρ2 S2, s (.imm d) ρ = some ρ1 ∧ (g ρ1 S = .ok .nx ρ2 S2 ∨ g ρ1 S = .ok .ct ρ2 S2) ∧ J (k + i + 1) ρ2) → ∃ ρ' S', forS s g ds ρ S = .ok .nx ρ' S' ∧ J (k + ds.length) ρ'
  | [], k, ρ, S, h0, _ => ⟨ρ, S, rfl, h0⟩
  | d :: ds, k, ρ, S, h0, h => by
    obtain ⟨ρ1, ρ2, S2, e1, e2, j⟩ := h 0 d ρ S rfl h0
    obtain ⟨ρ', S', e3, j3⟩ := forS_inv J (ds := ds) (k := k + 1) (ρ := ρ2) (S := S2) j fun i d ρ S e j => by
      have := h (i + 1) d ρ S (by simpa using e) (by rw [show k + (i + 1) = k + 1 + i by omega]; exact j)
      rw [show k + (i + 1) + 1 = k + 1 + i + 1 by omega] at this
      exact this
    refine ⟨ρ', S', ?_, by rw [List.length_cons, show k + (ds.length + 1) = k + 1 + ds.length by omega]; exact j3⟩
    rw [forS_cons, e1]
    rcases e2 with e2 | e2 <;> simp only [e2] <;> exact e3
/-- a comprehension with an invariant -/
theorem lcS_inv {vs : List Nat} {fe : SE} (J : Nat → List PyData → En → Prop) : ∀ {ds acc : List PyData} {k : Nat} {ρ : En} {S : Src}, J k acc ρ →
    (∀ (i : Nat) (d : PyData) (acc : List PyData) (ρ : En) (S : Src), ds[i]? = some d → J (k + i) acc ρ → ∃ ρ1 ρ2 S2 k2, s (.imm d) (wE ρ vs) = some ρ1 ∧ c ρ1 S = .ok k2 ρ2 S2 ∧
      ((k2 = true ∧ ∃ b e ρ3 S3, fe ρ2 S2 = .ok b ρ3 S3 ∧ toF b = some e ∧ nbE ρ3 = true ∧ acc.length < 1000000 ∧ J (k + i + 1) (acc ++ [e]) ρ3) ∨ (k2 = false ∧ J (k + i + 1) acc ρ2))) →
    ∃ acc' ρ' S', lcS vs s c fe ds acc ρ S = .ok acc' ρ' S' ∧ J (k + ds.length) acc' ρ'
  | [], acc, k, ρ, S, h0, _ => ⟨acc, ρ, S, rfl, h0⟩
  | d :: ds, acc, k, ρ, S, h0, h => by
    have go : ∀ (acc2 : List PyData) (ρ2 : En) (S2 : Src), J (k + 1) acc2 ρ2 → ∃ acc' ρ' S', lcS vs s c fe ds acc2 ρ2 S2 = .ok acc' ρ' S' ∧ J (k + (d :: ds).length) acc' ρ' := fun acc2 ρ2 S2 j => by
      obtain ⟨a', ρ', S', e3, j3⟩ := lcS_inv J (ds := ds) (acc := acc2) (k := k + 1) (ρ := ρ2) (S := S2) j fun i d acc ρ S e j => by
        have := h (i + 1) d acc ρ S (by simpa using e) (by rw [show k + (i + 1) = k + 1 + i by omega]; exact j)
        rw [show k + (i + 1) + 1 = k + 1 + i + 1 by omega] at this
        exact this
      exact ⟨a', ρ', S', e3, by rw [List.length_cons, show k + (ds.length + 1) = k + 1 + ds.length by omega]; exact j3⟩
    obtain ⟨ρ1, ρ2, S2, k2, e1, e2, e3⟩ := h 0 d acc ρ S rfl h0
    unfold lcS
    rw [e1]
    simp only
    rw [e2, rb_ok]
    rcases e3 with ⟨rfl, b, e, ρ3, S3, e4, e5, e6, e7, j⟩ | ⟨rfl, j⟩
    · rw [if_pos rfl, e4, rb_ok, e5]
      simp only
      rw [if_pos (by rw [e6, decide_eq_true e7]; rfl)]
      exact go _ _ _ j
    · rw [if_neg (by simp)]
      exact go _ _ _ j
end
end DL
set_option maxRecDepth 100000
set_option maxHeartbeats 2000000
/-! DN: the readings' ends, step by step: what is to be shown of a part. -/
namespace DL
open PySem PySem.Spec PyProof.Rows L2
section
variable {α β : Type} {ρ ρ' : En} {S : Src} {g1 g2 g : SS} {c d : SB} {f fa fb fx : SE} {fr : SA} {fi : SI} {s : Bd → En → Option En} {r : List Bd → En → Option En} {i n : Nat} {ds : List PyData} {x y z b b' : Bd} {bs : List Bd}
  {P : Fl → En → Src → Prop} {Q : Bd → En → Src → Prop} {W : List Bd → En → Src → Prop} {B : Bool → En → Src → Prop} {I : Bool × List PyData → En → Src → Prop} {O : Option Int → En → Src → Prop}
/-- behind a statement -/
def Nx (P : Fl → En → Src → Prop) (N : En → Src → Prop) : Fl → En → Src → Prop := fun fl ρ S => match fl with
  | .nx => N ρ S
  | fl => P fl ρ S
theorem p_seq (h : (g1 ρ S).Post (Nx P fun ρ S => (g2 ρ S).Post P)) : (gSeq g1 g2 ρ S).Post P := by
  unfold gSeq
  rw [R.post_bind]
  refine h.imp fun fl ρ S h => ?_
  cases fl <;> exact h
theorem nx_nx {N : En → Src → Prop} (h : N ρ S) : Nx P N .nx ρ S := h
theorem nx_rt {N : En → Src → Prop} (h : P (.rt b) ρ S) : Nx P N (.rt b) ρ S := h
theorem nx_bk {N : En → Src → Prop} (h : P .bk ρ S) : Nx P N .bk ρ S := h
theorem nx_ct {N : En → Src → Prop} (h : P .ct ρ S) : Nx P N .ct ρ S := h
/-- a test's end -/
def Bh (N M : En → Src → Prop) : Bool → En → Src → Prop := fun k ρ S => if k = true then N ρ S else M ρ S
theorem bh_t {N M : En → Src → Prop} (h : N ρ S) : Bh N M true ρ S := h
theorem bh_f {N M : En → Src → Prop} (h : M ρ S) : Bh N M false ρ S := h
theorem bh_d {N M : En → Src → Prop} {p : Prop} [Decidable p] (h : p → N ρ S) (h' : ¬ p → M ρ S) : Bh N M (decide p) ρ S := by
  by_cases q : p
  · rw [decide_eq_true q]; exact h q
  · rw [decide_eq_false q]; exact h' q
theorem bh_n {N M : En → Src → Prop} {k : Bool} (h : Bh M N k ρ S) : Bh N M (!k) ρ S := by
  cases k <;> exact h
theorem p_if (h : (c ρ S).Post (Bh (fun ρ S => (g1 ρ S).Post P) fun ρ S => (g2 ρ S).Post P)) : (gIf c g1 g2 ρ S).Post P := by
  unfold gIf
  rw [R.post_bind]
  refine h.imp fun k ρ S h => ?_
  cases k <;> exact h
theorem p_asg (h : (f ρ S).Post fun b ρ S => ∃ ρ', s b ρ = some ρ' ∧ P .nx ρ' S) : (gAsg s f ρ S).Post P := by
  unfold gAsg
  rw [R.post_bind]
  refine h.imp fun b ρ S ⟨ρ', e, h⟩ => ?_
  rw [e]
  exact h
theorem p_par (h : (fr ρ S).Post fun b ρ S => ∃ ρ', r b ρ = some ρ' ∧ P .nx ρ' S) : (gPar r fr ρ S).Post P := by
  unfold gPar
  rw [R.post_bind]
  refine h.imp fun b ρ S ⟨ρ', e, h⟩ => ?_
  rw [e]
  exact h
theorem p_parN (h : (fr ρ S).Post fun b ρ S => b.length = n ∧ ∃ ρ', r b ρ = some ρ' ∧ P .nx ρ' S) : (gParN n r fr ρ S).Post P := by
  unfold gParN
  rw [R.post_bind]
  refine h.imp fun b ρ S ⟨e1, ρ', e, h⟩ => ?_
  rw [if_pos e1, e]
  exact h
theorem p_ret (h : (f ρ S).Post fun b ρ S => P (.rt b) ρ S) : (gRet f ρ S).Post P := by
  unfold gRet
  rw [R.post_bind]
  exact h
theorem p_retN (h : P (.rt (.imm .none)) ρ S) : (gRetN ρ S).Post P := h
theorem p_next (h : P .nx ρ S) : (gNext ρ S).Post P := h
theorem p_brk (h : P .bk ρ S) : (gBrk ρ S).Post P := h
theorem p_cnt (h : P .ct ρ S) : (gCnt ρ S).Post P := h
theorem p_drop (h : (f ρ S).Post fun _ ρ S => P .nx ρ S) : (gDrop f ρ S).Post P := by
  unfold gDrop
  rw [R.post_bind]
  exact h
theorem p_append (ho : isOwn i ρ = true) (h : (f ρ S).Post fun b ρ S => ∃ ds d, ρ[i]? = some (some (.lst ds)) ∧ toF b = some d ∧ ds.length < 1000000 ∧ nbE ρ = true ∧ P .nx (ρ.set i (some (.lst (ds ++ [d])))) S) : (gAppend i f ρ S).Post P := by
  unfold gAppend
  rw [if_pos ho, R.post_bind]
  refine h.imp fun b ρ S ⟨ds, d, e1, e2, e3, e4, h⟩ => ?_
  unfold ownSet
  rw [e1]
  simp only [e2, Option.bind_some, if_pos e3, if_pos e4]
  exact h
theorem p_lend {F : List PyData → PyData → Option (List PyData)} (ho : isOwn i ρ = true) (h : (f ρ S).Post fun b ρ S => ∃ ds d ds', ρ[i]? = some (some (.lst ds)) ∧ toF b = some d ∧ F ds d = some ds' ∧ nbE ρ = true ∧ P .nx (ρ.set i (some (.lst ds'))) S) : (gLend F i f ρ S).Post P := by
  unfold gLend
  rw [if_pos ho, R.post_bind]
  refine h.imp fun b ρ S ⟨ds, d, ds', e1, e2, e3, e4, h⟩ => ?_
  unfold ownSet
  rw [e1]
  simp only [e2, Option.bind_some, e3, if_pos e4]
  exact h
theorem p_setI {fk : SE} (h : (f ρ S).Post fun b ρ S => isOwn i ρ = true ∧ (fk ρ S).Post fun k ρ S => ∃ ds d j m, k = .imm (.int j) ∧ ρ[i]? = some (some (.lst ds)) ∧ toF b = some d ∧ ixN ds.length j = some m ∧ nbE ρ = true ∧ P .nx (ρ.set i (some (.lst (ds.set m d)))) S) : (gSetI i f fk ρ S).Post P := by
  unfold gSetI
  rw [R.post_bind]
  refine h.imp fun b ρ S ⟨ho, h⟩ => ?_
  rw [if_pos ho, R.post_bind]
  refine h.imp fun k ρ S ⟨ds, d, j, m, e0, e1, e2, e3, e4, h⟩ => ?_
  subst e0
  unfold ownSet
  simp only [e1, e2, Option.bind_some, e3, Option.map_some, if_pos e4]
  exact h
theorem p_dput {fk : SE} (h : (f ρ S).Post fun v ρ S => isDct i ρ = true ∧ (fk ρ S).Post fun k ρ S => ∃ c, dPut i ρ k v = some c ∧ nbE ρ = true ∧ P .nx (ρ.set i (some c)) S) : (gDput i fk f ρ S).Post P := by
  unfold gDput
  rw [R.post_bind]
  refine h.imp fun b ρ S ⟨ho, h⟩ => ?_
  rw [if_pos ho, R.post_bind]
  refine h.imp fun k ρ S ⟨c, e, e2, h⟩ => ?_
  simp only [e, if_pos e2]
  exact h
theorem p_for (h : (fi ρ S).Post fun p ρ S => p.1 = true ∧ (forS s g p.2 ρ S).Post P) : (gFor s fi g ρ S).Post P := by
  unfold gFor
  rw [R.post_bind]
  refine h.imp fun p ρ S ⟨e, h⟩ => ?_
  rw [if_pos e]
  exact h
/-- a for with an invariant -/
theorem p_forS (J : Nat → En → Prop) (h0 : J 0 ρ) (hs : ∀ (i : Nat) (d : PyData) (ρ : En) (S : Src), ds[i]? = some d → J i ρ → ∃ ρ1, s (.imm d) ρ = some ρ1 ∧ (g ρ1 S).Post fun fl ρ2 _ => (fl = .nx ∨ fl = .ct) ∧ J (i + 1) ρ2)
    (he : ∀ ρ' S', J ds.length ρ' → P .nx ρ' S') : (forS s g ds ρ S).Post P := by
  obtain ⟨ρ', S', e, j⟩ := forS_inv (s := s) (g := g) J (ds := ds) (k := 0) (ρ := ρ) (S := S) h0 fun i d ρ S e j => by
    rw [Nat.zero_add] at j ⊢
    obtain ⟨ρ1, e1, h⟩ := hs i d ρ S e j
    obtain ⟨fl, ρ2, S2, e2, e3, j2⟩ := h.get
    refine ⟨ρ1, ρ2, S2, e1, ?_, j2⟩
    rcases e3 with rfl | rfl
    · exact .inl e2
    · exact .inr e2
  rw [e]
  rw [Nat.zero_add] at j
  exact he ρ' S' j
/-- a for that may end by a return -/
theorem p_forR (J : Nat → En → Prop) (h0 : J 0 ρ) (hs : ∀ (i : Nat) (d : PyData) (ρ : En) (S : Src), ds[i]? = some d → J i ρ → ∃ ρ1, s (.imm d) ρ = some ρ1 ∧ (g ρ1 S).Post fun fl ρ2 S2 => match fl with
      | .nx => J (i + 1) ρ2
      | .ct => J (i + 1) ρ2
      | .bk => P .nx ρ2 S2
      | .rt b => P (.rt b) ρ2 S2)
    (he : ∀ ρ' S', J ds.length ρ' → P .nx ρ' S') : (forS s g ds ρ S).Post P := by
  suffices go : ∀ (l : List PyData) (k : Nat) (ρ : En) (S : Src), (∀ i, l[i]? = ds[k + i]?) → k + l.length = ds.length → J k ρ → (forS s g l ρ S).Post P from go ds 0 ρ S (fun i => by rw [Nat.zero_add]) (by omega) h0
  intro l
  induction l with
  | nil => intro k ρ S _ hk j; exact he ρ S (by rw [← hk]; exact j)
  | cons d l ih =>
    intro k ρ S hl hk j
    obtain ⟨ρ1, e1, h⟩ := hs k d ρ S (by have := hl 0; simpa using this.symm) j
    obtain ⟨fl, ρ2, S2, e2, e3⟩ := h.get
    rw [forS_cons, e1]
    simp only [e2]
    have next : J (k + 1) ρ2 → (forS s g l ρ2 S2).Post P := fun j => ih (k + 1) ρ2 S2 (fun i => by have := hl (i + 1); rw [show k + 1 + i = k + (i + 1) by omega, ← this]; rfl) (by rw [List.length_cons] at hk; omega) j
    cases fl with
    | nx => exact next e3
    | ct => exact next e3
    | bk => exact e3
    | rt b => exact e3
/-- a while with an invariant and a measure -/
theorem p_while (J : En → Prop) (m : Nat → En → Prop) {k : Nat} (hk : k < FU) (h0 : m k ρ) (hs : ∀ (k : Nat) (ρ : En) (S : Src), m k ρ → (c ρ S).Post fun t ρ1 S1 => if t = true then (g ρ1 S1).Post (fun fl ρ2 S2 => match fl with
      | .nx => ∃ j, j < k ∧ m j ρ2
      | .ct => ∃ j, j < k ∧ m j ρ2
      | .bk => P .nx ρ2 S2
      | .rt b => P (.rt b) ρ2 S2) else P .nx ρ1 S1) : (gWhile c g ρ S).Post P := by
  suffices go : ∀ (n k : Nat) (ρ : En) (S : Src), k < n → m k ρ → (whS c g n ρ S).Post P from go FU k ρ S hk h0
  intro n
  induction n with
  | zero => intro k ρ S h; omega
  | succ n ih =>
    intro k ρ S hn hm
    unfold whS
    rw [R.post_bind]
    refine (hs k ρ S hm).imp fun t ρ1 S1 h => ?_
    cases t with
    | false => exact h
    | true =>
      obtain ⟨fl, ρ2, S2, e2, e3⟩ := R.Post.get h
      simp only [if_true, e2]
      cases fl with
      | nx => obtain ⟨j, hj, hm2⟩ := e3; exact ih j ρ2 S2 (by omega) hm2
      | ct => obtain ⟨j, hj, hm2⟩ := e3; exact ih j ρ2 S2 (by omega) hm2
      | bk => exact e3
      | rt b => exact e3
/-! ### expressions -/
def vB : Bd → Option Bd
  | .lst ds => some (.bor ds)
  | .dk _ => none
  | .dt _ => none
  | b => some b
theorem p_var (e : ρ[i]? = some (some b)) (e2 : vB b = some b') (h : Q b' ρ S) : (fVar i ρ S).Post Q := by
  unfold fVar
  rw [e]
  cases b <;> first | (cases e2; done) | (cases e2; exact h)
def fzB (i : Nat) (ρ : En) : Bd → Option (Bd × En)
  | .lst ds => some (.imm (.list ds), ρ.set i (some (.imm (.list ds))))
  | .dk _ => none
  | .dt _ => none
  | b => some (b, ρ)
theorem p_frz {p : Bd × En} (e : ρ[i]? = some (some b)) (e2 : fzB i ρ b = some p) (h : Q p.1 p.2 S) : (fFrz i ρ S).Post Q := by
  unfold fFrz
  rw [e]
  cases b <;> first | (cases e2; done) | (cases e2; exact h)
theorem p_mov (e : ρ[i]? = some (some b)) (h : Q b (ρ.set i none) S) : (fMov i ρ S).Post Q := by
  unfold fMov
  rw [e]
  exact h
theorem p_c {d : PyData} (h : Q (.imm d) ρ S) : (fC d ρ S).Post Q := h
theorem p_op {o : Bd → Bd → Option Bd} (h : (fa ρ S).Post fun x ρ S => (fb ρ S).Post fun y ρ S => ∃ b, o x y = some b ∧ Q b ρ S) : (fOp o fa fb ρ S).Post Q := by
  unfold fOp
  rw [R.post_bind]
  refine h.imp fun x ρ S h => ?_
  rw [R.post_bind]
  exact h.imp fun y ρ S h => R.post_of.mpr h
theorem p_un {o : Bd → Option Bd} (h : (fa ρ S).Post fun x ρ S => ∃ b, o x = some b ∧ Q b ρ S) : (fUn o fa ρ S).Post Q := by
  unfold fUn
  rw [R.post_bind]
  exact h.imp fun x ρ S h => R.post_of.mpr h
theorem p_ar {o : List Bd → Option Bd} (h : (fr ρ S).Post fun bs ρ S => ∃ b, o bs = some b ∧ Q b ρ S) : (fAr o fr ρ S).Post Q := by
  unfold fAr
  rw [R.post_bind]
  exact h.imp fun x ρ S h => R.post_of.mpr h
theorem p_me {o : Bd → List Bd → Option Bd} (h : (fx ρ S).Post fun x ρ S => (fr ρ S).Post fun bs ρ S => ∃ b, o x bs = some b ∧ Q b ρ S) : (fMe o fx fr ρ S).Post Q := by
  unfold fMe
  rw [R.post_bind]
  refine h.imp fun x ρ S h => ?_
  rw [R.post_bind]
  exact h.imp fun y ρ S h => R.post_of.mpr h
theorem p_ife (h : (c ρ S).Post (Bh (fun ρ S => (fa ρ S).Post Q) fun ρ S => (fb ρ S).Post Q)) : (fIf c fa fb ρ S).Post Q := by
  unfold fIf
  rw [R.post_bind]
  refine h.imp fun k ρ S h => ?_
  cases k <;> exact h
theorem p_or (h : (fa ρ S).Post fun b ρ S => ∃ k, b = .imm (.bool k) ∧ Bh (fun ρ S => Q (.imm (.bool true)) ρ S) (fun ρ S => (fb ρ S).Post Q) k ρ S) : (fOr fa fb ρ S).Post Q := by
  unfold fOr
  rw [R.post_bind]
  refine h.imp fun b ρ S ⟨k, e, h⟩ => ?_
  subst e
  cases k <;> exact h
theorem p_and (h : (fa ρ S).Post fun b ρ S => ∃ k, b = .imm (.bool k) ∧ Bh (fun ρ S => (fb ρ S).Post Q) (fun ρ S => Q (.imm (.bool false)) ρ S) k ρ S) : (fAnd fa fb ρ S).Post Q := by
  unfold fAnd
  rw [R.post_bind]
  refine h.imp fun b ρ S ⟨k, e, h⟩ => ?_
  subst e
  cases k <;> exact h
theorem p_not (h : (fa ρ S).Post fun b ρ S => ∃ k, b = .imm (.bool k) ∧ Q (.imm (.bool !k)) ρ S) : (fNot fa ρ S).Post Q := by
  unfold fNot
  rw [R.post_bind]
  refine h.imp fun b ρ S ⟨k, e, h⟩ => ?_
  subst e
  exact h
theorem p_nil (h : W [] ρ S) : (aNil ρ S).Post W := h
theorem p_cons (h : (fa ρ S).Post fun b ρ S => (fr ρ S).Post fun bs ρ S => W (b :: bs) ρ S) : (aCons fa fr ρ S).Post W := by
  unfold aCons
  rw [R.post_bind]
  refine h.imp fun x ρ S h => ?_
  rw [R.post_bind]
  exact h
/-- a call's end -/
structure CallP (F : FD) (bs : List Bd) (S : Src) (Q : Bd → Src → Prop) : Prop where
  ex : ∃ cs b S', argsB bs = some cs ∧ F cs S = some (b, S') ∧ (b.back && (!(bs.any Bd.lent) || b.plain)) = true ∧ Q b S'
theorem p_call {F : FD} (h : (fr ρ S).Post fun bs ρ S => CallP F bs S fun b S => Q b ρ S) : (fCall F fr ρ S).Post Q := by
  unfold fCall
  rw [R.post_bind]
  refine h.imp fun bs ρ S ⟨cs, b, S', e1, e2, e3, h⟩ => ?_
  rw [e1]
  simp only [e2]
  rw [if_pos e3]
  exact h
theorem callP {F : FD} {cs : List Bd} {Q : Bd → Src → Prop} {S' : Src} (e1 : argsB bs = some cs) (e2 : F cs S = some (b, S')) (e3 : (b.back && (!(bs.any Bd.lent) || b.plain)) = true) (h : Q b S') : CallP F bs S Q := ⟨_, _, _, e1, e2, e3, h⟩
theorem p_lc {vs : List Nat} (h : (fi ρ S).Post fun p ρ S => (lcS vs s c f p.2 [] ρ S).Post fun acc ρ S => Q (.lst acc) (wE ρ vs) S) : (fLc vs s fi c f ρ S).Post Q := by
  unfold fLc
  rw [R.post_bind]
  refine h.imp fun x ρ S h => ?_
  rw [R.post_bind]
  exact h
/-- a comprehension with an invariant -/
theorem p_lcS {vs : List Nat} {acc : List PyData} {G : List PyData → En → Src → Prop} (J : Nat → List PyData → En → Prop) (h0 : J 0 acc ρ)
    (hs : ∀ (i : Nat) (d : PyData) (acc : List PyData) (ρ : En) (S : Src), ds[i]? = some d → J i acc ρ → ∃ ρ1, s (.imm d) (wE ρ vs) = some ρ1 ∧ (c ρ1 S).Post (Bh (fun ρ S => (f ρ S).Post fun b ρ3 _ => ∃ e, toF b = some e ∧ nbE ρ3 = true ∧ acc.length < 1000000 ∧ J (i + 1) (acc ++ [e]) ρ3) fun ρ2 _ => J (i + 1) acc ρ2))
    (he : ∀ acc' ρ' S', J ds.length acc' ρ' → G acc' ρ' S') : (lcS vs s c f ds acc ρ S).Post G := by
  obtain ⟨a', ρ', S', e, j⟩ := lcS_inv (s := s) (c := c) (fe := f) (vs := vs) J (ds := ds) (acc := acc) (k := 0) (ρ := ρ) (S := S) h0 fun i d acc ρ S e j => by
    rw [Nat.zero_add] at j ⊢
    obtain ⟨ρ1, e1, h⟩ := hs i d acc ρ S e j
    obtain ⟨k, ρ2, S2, e2, h2⟩ := h.get
    refine ⟨ρ1, ρ2, S2, k, e1, e2, ?_⟩
    cases k with
    | true =>
      obtain ⟨b, ρ3, S3, e3, e, e4, e5, e6, j⟩ := R.Post.get h2
      exact .inl ⟨rfl, b, e, ρ3, S3, e3, e4, e5, e6, j⟩
    | false => exact .inr ⟨rfl, h2⟩
  rw [e]
  rw [Nat.zero_add] at j
  exact he a' ρ' S' j
theorem p_sl {lo hi : SO2} (h : (fa ρ S).Post fun a ρ S => (lo ρ S).Post fun l ρ S => (hi ρ S).Post fun u ρ S => ∃ b, slB a l u = some b ∧ Q b ρ S) : (fSl fa lo hi ρ S).Post Q := by
  unfold fSl
  rw [R.post_bind]
  refine h.imp fun x ρ S h => ?_
  rw [R.post_bind]
  refine h.imp fun x ρ S h => ?_
  rw [R.post_bind]
  exact h.imp fun y ρ S h => R.post_of.mpr h
theorem p_on (h : O none ρ S) : (oNone ρ S).Post O := h
theorem p_os (h : (f ρ S).Post fun b ρ S => ∃ i, toD b = some (.int i) ∧ O (some i) ρ S) : (oSome f ρ S).Post O := by
  unfold oSome
  rw [R.post_bind]
  refine h.imp fun b ρ S ⟨i, e, h⟩ => ?_
  rw [e]
  exact h
theorem p_fis (h : (f ρ S).Post fun b ρ S => ∃ p, seqI b = some p ∧ I p ρ S) : (fiSeq f ρ S).Post I := by
  unfold fiSeq
  rw [R.post_bind]
  exact h.imp fun y ρ S h => R.post_of.mpr h
theorem p_fia {o : List Bd → Option (Bool × List PyData)} (h : (fr ρ S).Post fun bs ρ S => ∃ p, o bs = some p ∧ I p ρ S) : (fiAr o fr ρ S).Post I := by
  unfold fiAr
  rw [R.post_bind]
  exact h.imp fun y ρ S h => R.post_of.mpr h
structure RgP (i j : Int) (N : Prop) : Prop where
  ok : -1000000 ≤ i ∧ i ≤ 1000000 ∧ -1000000 ≤ j ∧ j ≤ 1000000
  nx : N
theorem p_rng1 (h : (fr ρ S).Post fun bs ρ S => ∃ j, bs = [.imm (.int j)] ∧ RgP 0 j (I (true, rangeD 0 j.toNat) ρ S)) : (fiAr rng1I fr ρ S).Post I := by
  refine p_fia (h.imp fun bs ρ S h => ?_)
  obtain ⟨j, rfl, ⟨hj, h⟩⟩ := h
  refine ⟨_, ?_, h⟩
  show (if rOk 0 j = true then some (true, rangeD 0 j.toNat) else none) = _
  rw [if_pos (by unfold rOk; rw [decide_eq_true_eq]; omega)]
theorem p_rng2 (h : (fr ρ S).Post fun bs ρ S => ∃ i j, bs = [.imm (.int i), .imm (.int j)] ∧ RgP i j (I (true, rangeD i (j - i).toNat) ρ S)) : (fiAr rng2I fr ρ S).Post I := by
  refine p_fia (h.imp fun bs ρ S h => ?_)
  obtain ⟨i, j, rfl, ⟨hj, h⟩⟩ := h
  refine ⟨_, ?_, h⟩
  show (if rOk i j = true then some (true, rangeD i (j - i).toNat) else none) = _
  rw [if_pos (by unfold rOk; rw [decide_eq_true_eq]; omega)]
theorem p_din {neg : Bool} {fk : SE} (h : (fk ρ S).Post fun k ρ S => ∃ o, dGet i ρ k = some o ∧ Q (.imm (.bool (if neg then !o.isSome else o.isSome))) ρ S) : (fDin neg i fk ρ S).Post Q := by
  unfold fDin
  rw [R.post_bind]
  refine h.imp fun k ρ S ⟨o, e, h⟩ => ?_
  rw [e]
  exact h
theorem p_newT (h : Q (.dt []) ρ S) : (fNewT ρ S).Post Q := h
theorem p_newK (h : Q (.dk []) ρ S) : (fNewK ρ S).Post Q := h
/-! ### tests -/
theorem p_test (h : (f ρ S).Post fun b ρ S => ∃ k, b = .imm (.bool k) ∧ B k ρ S) : (fTest f ρ S).Post B := by
  unfold fTest
  rw [R.post_bind]
  refine h.imp fun b ρ S ⟨k, e, h⟩ => ?_
  subst e
  exact h
theorem p_band (h : (c ρ S).Post (Bh (fun ρ S => (d ρ S).Post B) fun ρ S => B false ρ S)) : (bAnd c d ρ S).Post B := by
  unfold bAnd
  rw [R.post_bind]
  refine h.imp fun k ρ S h => ?_
  cases k <;> exact h
theorem p_bor (h : (c ρ S).Post (Bh (fun ρ S => B true ρ S) fun ρ S => (d ρ S).Post B)) : (bOr c d ρ S).Post B := by
  unfold bOr
  rw [R.post_bind]
  refine h.imp fun k ρ S h => ?_
  cases k <;> exact h
theorem p_bnot (h : (c ρ S).Post fun k ρ S => B (!k) ρ S) : (bNot c ρ S).Post B := by
  unfold bNot
  rw [R.post_bind]
  exact h
theorem p_yes (h : B true ρ S) : (bYes ρ S).Post B := h
/-! ### the same, for the stepping -/
def slotV (i : Nat) (ρ : En) : Option Bd := match ρ[i]? with
  | some (some b) => vB b
  | _ => none
theorem p_varE (h : ∃ b, slotV i ρ = some b ∧ Q b ρ S) : (fVar i ρ S).Post Q := by
  obtain ⟨b', e, h⟩ := h
  unfold slotV at e
  split at e
  · rename_i b e1
    exact p_var e1 e h
  · cases e
def slotF (i : Nat) (ρ : En) : Option (Bd × En) := match ρ[i]? with
  | some (some b) => fzB i ρ b
  | _ => none
theorem p_frzE (h : ∃ p, slotF i ρ = some p ∧ Q p.1 p.2 S) : (fFrz i ρ S).Post Q := by
  obtain ⟨p, e, h⟩ := h
  unfold slotF at e
  split at e
  · rename_i b e1
    exact p_frz e1 e h
  · cases e
theorem p_movE (h : ∃ b, ρ[i]? = some (some b) ∧ Q b (ρ.set i none) S) : (fMov i ρ S).Post Q := by
  obtain ⟨b, e, h⟩ := h
  exact p_mov e h
theorem p_appE (h : isOwn i ρ = true ∧ (f ρ S).Post fun b ρ S => ∃ ds d, ρ[i]? = some (some (.lst ds)) ∧ toF b = some d ∧ ds.length < 1000000 ∧ nbE ρ = true ∧ P .nx (ρ.set i (some (.lst (ds ++ [d])))) S) : (gAppend i f ρ S).Post P := p_append h.1 h.2
theorem p_lenE {F : List PyData → PyData → Option (List PyData)} (h : isOwn i ρ = true ∧ (f ρ S).Post fun b ρ S => ∃ ds d ds', ρ[i]? = some (some (.lst ds)) ∧ toF b = some d ∧ F ds d = some ds' ∧ nbE ρ = true ∧ P .nx (ρ.set i (some (.lst ds'))) S) : (gLend F i f ρ S).Post P := p_lend h.1 h.2
theorem if_id (h : (fIf c fa fb ρ S).Post Q) : (fIf c fa fb ρ S).Post Q := h
theorem op_id {o : Bd → Bd → Option Bd} (h : (fOp o fa fb ρ S).Post Q) : (fOp o fa fb ρ S).Post Q := h
theorem ex_id {γ : Sort _} {p : γ → Prop} (h : ∃ x, p x) : ∃ x, p x := h
theorem and_id {p q : Prop} (h : p ∧ q) : p ∧ q := h
theorem app_id (h : (gAppend i f ρ S).Post P) : (gAppend i f ρ S).Post P := h
theorem bh_id {N M : En → Src → Prop} {k : Bool} (h : Bh N M k ρ S) : Bh N M k ρ S := h
def rbB : Bool → Option Bool
  | true => some true
  | false => some false
theorem bh_r {N M : En → Src → Prop} {k : Bool} (h : ∃ k', rbB k = some k' ∧ Bh N M k' ρ S) : Bh N M k ρ S := by
  obtain ⟨k', e, h⟩ := h
  have : k = k' := by cases k <;> cases e <;> rfl
  exact this ▸ h
theorem bh_nt {N M : En → Src → Prop} (h : N ρ S) : Bh N M (!false) ρ S := h
theorem bh_nf {N M : En → Src → Prop} (h : M ρ S) : Bh N M (!true) ρ S := h
/-! ### a def by its reading -/
theorem run_of {m n : Nat} {bs : List Bd} {b : Bd → Prop} (hl : bs.length = m) (ho : (bs.all fun b => !b.own && !b.isBor) = true) (h : (g (bs.map some ++ List.replicate (n - m) none) S).Post fun fl ρ' S' => match fl with
    | .rt r => b r
    | .nx => b (.imm .none)
    | _ => False) : ∃ r S', runB m n g bs S = some (r, S') ∧ b r := by
  obtain ⟨fl, ρ', S', e, h⟩ := h.get
  unfold runB
  rw [if_pos (by rw [hl, ho]; simp), e]
  cases fl with
  | rt r => exact ⟨r, S', rfl, h⟩
  | nx => exact ⟨_, S', rfl, h⟩
  | bk => exact h.elim
  | ct => exact h.elim
end
end DL
set_option maxRecDepth 100000
set_option maxHeartbeats 400000
/-! DO: data that repr can show, that == can compare. -/
namespace DL
open PySem PySem.Spec PyProof.Rows L2
theorem canLayAll_of : ∀ {ds : List PyData}, (∀ d ∈ ds, PyData.canLay0 d = true) → PyData.canLayAll0 ds = true
  | [], _ => rfl
  | d :: r, h => by
    simp only [PyData.canLayAll0, Bool.and_eq_true]
    exact ⟨h d List.mem_cons_self, canLayAll_of fun x hx => h x (List.mem_cons_of_mem _ hx)⟩
theorem depthAll_of {n : Nat} : ∀ {ds : List PyData}, (∀ d ∈ ds, PyData.depth d ≤ n) → PyData.depthAll ds ≤ n
  | [], _ => Nat.zero_le _
  | d :: r, h => by
    simp only [PyData.depthAll]
    exact Nat.max_le.mpr ⟨h d List.mem_cons_self, depthAll_of fun x hx => h x (List.mem_cons_of_mem _ hx)⟩
theorem showableAll_of : ∀ {ds : List PyData}, (∀ d ∈ ds, PyData.showable d = true) → PyData.showableAll ds = true
  | [], _ => rfl
  | d :: r, h => by
    simp only [PyData.showableAll, Bool.and_eq_true]
    exact ⟨h d List.mem_cons_self, showableAll_of fun x hx => h x (List.mem_cons_of_mem _ hx)⟩
theorem noDictAll_of : ∀ {ds : List PyData}, (∀ d ∈ ds, PyData.hasDict d = false) → PyData.hasDictAll ds = false
  | [], _ => rfl
  | d :: r, h => by
    simp only [PyData.hasDictAll, Bool.or_eq_false_iff]
    exact ⟨h d List.mem_cons_self, noDictAll_of fun x hx => h x (List.mem_cons_of_mem _ hx)⟩
theorem shownAll_map : ∀ {ds : List PyData}, PyData.shownAll ds = ds.map PyData.shown
  | [] => rfl
  | d :: r => by simp only [PyData.shownAll, List.map_cons, shownAll_map]
/-- can be compared: depth at most k -/
structure Cmp (k : Nat) (d : PyData) : Prop where
  lay : PyData.canLay0 d = true
  dep : PyData.depth d ≤ k
theorem Cmp.shaped {k : Nat} {d : PyData} (h : Cmp k d) (hk : k ≤ 64) : SeqAt.shaped d = true := by
  unfold SeqAt.shaped
  rw [h.lay, decide_eq_true (Nat.le_trans h.dep hk)]
  rfl
theorem cmp_str {k : Nat} {x : Str} (h : PyData.strOk x = true) : Cmp k (.str x) := ⟨by simpa only [PyData.canLay0] using h, by simp only [PyData.depth]; omega⟩
theorem cmp_int {k : Nat} {i : Int} : Cmp k (.int i) := ⟨by simp only [PyData.canLay0], by simp only [PyData.depth]; omega⟩
theorem cmp_none {k : Nat} : Cmp k .none := ⟨by simp only [PyData.canLay0], by simp only [PyData.depth]; omega⟩
theorem cmp_bool {k : Nat} {b : Bool} : Cmp k (.bool b) := ⟨by simp only [PyData.canLay0], by simp only [PyData.depth]; omega⟩
theorem cmp_tup {k : Nat} {ds : List PyData} (h : ∀ d ∈ ds, Cmp k d) : Cmp (k + 1) (.tuple ds) := ⟨by simp only [PyData.canLay0]; exact canLayAll_of fun d hd => (h d hd).lay, by simp only [PyData.depth]; have := depthAll_of fun d hd => (h d hd).dep; omega⟩
theorem cmp_lst {k : Nat} {ds : List PyData} (h : ∀ d ∈ ds, Cmp k d) : Cmp (k + 1) (.list ds) := ⟨by simp only [PyData.canLay0]; exact canLayAll_of fun d hd => (h d hd).lay, by simp only [PyData.depth]; have := depthAll_of fun d hd => (h d hd).dep; omega⟩
/-- can be shown: depth at most k, at most n signs -/
structure Shw (k n : Nat) (d : PyData) : Prop where
  shw : PyData.showable d = true
  noD : PyData.hasDict d = false
  dep : PyData.depth d ≤ k
  len : (PyData.shown d).length ≤ n
theorem Shw.ok {k n : Nat} {d : PyData} (h : Shw k n d) (hk : k ≤ 60) (hn : n ≤ 2 ^ 24) : reprOk d = true := by
  unfold reprOk
  rw [h.shw, h.noD, decide_eq_true (Nat.le_trans h.dep hk), decide_eq_true (show (PyData.shown d).length ≤ sizeLine by rw [sizeLine_eq]; have := h.len; omega)]
  rfl
theorem Shw.mono {k n k' n' : Nat} {d : PyData} (h : Shw k n d) (hk : k ≤ k') (hn : n ≤ n') : Shw k' n' d := ⟨h.shw, h.noD, Nat.le_trans h.dep hk, Nat.le_trans h.len hn⟩
theorem textFrom_le {n : Nat} : ∀ (ts : List Str) (k : Nat) (acc : Str), (∀ t ∈ ts, t.length ≤ n) → (textFrom k acc ts).length ≤ acc.length + (n + 2) * ts.length
  | [], k, acc, _ => by simp only [textFrom, List.length_nil, Nat.mul_zero, Nat.add_zero, Nat.le_refl]
  | t :: r, k, acc, h => by
    have h1 := textFrom_le r (k + 1) (acc ++ (if k > 0 then ", " else "" : String) ++ t) fun t ht => h t (List.mem_cons_of_mem _ ht)
    have e : (acc ++ (if k > 0 then ", " else "" : String) ++ t).length = acc.length + (if k > 0 then 2 else 0) + t.length := by
      rw [strLen_append, strLen_append]
      split <;> rfl
    have h2 := h t List.mem_cons_self
    have h3 : (if k > 0 then 2 else 0) ≤ 2 := by split <;> omega
    have e2 : (n + 2) * (t :: r).length = (n + 2) * r.length + (n + 2) := by rw [List.length_cons, Nat.mul_add, Nat.mul_one]
    show (textFrom (k + 1) _ r).length ≤ _
    rw [e2]
    omega
theorem join_le {n : Nat} : ∀ (ts : List Str), (∀ t ∈ ts, t.length ≤ n) → (Str.join ", " ts).length ≤ (n + 2) * ts.length
  | [], _ => Nat.zero_le _
  | [x], h => by
    have := h x List.mem_cons_self
    show x.length ≤ _
    simp
    omega
  | x :: y :: r, h => by
    have ih := join_le (y :: r) fun t ht => h t (List.mem_cons_of_mem _ ht)
    have h2 := h x List.mem_cons_self
    show (x ++ ", " ++ Str.join ", " (y :: r)).length ≤ _
    rw [strLen_append, strLen_append, show ((", " : String) : Str).length = 2 from rfl]
    have e2 : (n + 2) * (x :: y :: r).length = (n + 2) * (y :: r).length + (n + 2) := by rw [List.length_cons, Nat.mul_add, Nat.mul_one]
    rw [e2]
    omega
theorem shw_tup {k n : Nat} {ds : List PyData} (h : ∀ d ∈ ds, Shw k n d) : Shw (k + 1) ((n + 2) * ds.length + 3) (.tuple ds) := ⟨by simp only [PyData.showable]; exact showableAll_of fun d hd => (h d hd).shw, by simp only [PyData.hasDict]; exact noDictAll_of fun d hd => (h d hd).noD,
  by simp only [PyData.depth]; have := depthAll_of fun d hd => (h d hd).dep; omega, by
    simp only [PyData.shown, tupleText, shownAll_map]
    have h1 := join_le (n := n) (ds.map PyData.shown) fun t ht => by obtain ⟨d, hd, rfl⟩ := List.mem_map.mp ht; exact (h d hd).len
    rw [List.length_map] at h1
    rw [strLen_append, strLen_append]
    have h2 : (("(" : Str)).length = 1 := rfl
    have h3 : (((if ((ds.map PyData.shown).length == 1) = true then ",)" else ")" : String)) : Str).length ≤ 2 := by split <;> decide +kernel
    omega⟩
theorem shw_lst {k n : Nat} {ds : List PyData} (h : ∀ d ∈ ds, Shw k n d) : Shw (k + 1) ((n + 2) * ds.length + 3) (.list ds) := ⟨by simp only [PyData.showable]; exact showableAll_of fun d hd => (h d hd).shw, by simp only [PyData.hasDict]; exact noDictAll_of fun d hd => (h d hd).noD,
  by simp only [PyData.depth]; have := depthAll_of fun d hd => (h d hd).dep; omega, by
    simp only [PyData.shown, listText, shownAll_map]
    have h1 := textFrom_le (n := n) (ds.map PyData.shown) 0 "[" fun t ht => by obtain ⟨d, hd, rfl⟩ := List.mem_map.mp ht; exact (h d hd).len
    rw [List.length_map] at h1
    rw [strLen_append]
    have h2 : (("[" : Str)).length = 1 := rfl
    have h3 : (("]" : Str)).length = 1 := rfl
    omega⟩
theorem shw_none {k : Nat} : Shw k 5 .none := ⟨rfl, rfl, by simp only [PyData.depth]; omega, by decide +kernel⟩
theorem shw_bool {k : Nat} {b : Bool} : Shw k 5 (.bool b) := ⟨rfl, rfl, by simp only [PyData.depth]; omega, by cases b <;> decide +kernel⟩
theorem shw_str {k n : Nat} {x : Str} (h : (reprText x).length ≤ n) : Shw k n (.str x) := ⟨rfl, rfl, by simp only [PyData.depth]; omega, by simpa only [PyData.shown] using h⟩
theorem shownInt_small : ∀ i : Fin 100, (PyData.shown (.int ((i.val : Nat) : Int))).length ≤ 5 := by decide +kernel
theorem showInt_small : ∀ i : Fin 100, PyData.showable (.int ((i.val : Nat) : Int)) = true := by decide +kernel
theorem shw_int {k : Nat} {i : Int} (h : 0 ≤ i) (h2 : i < 100) : Shw k 5 (.int i) := by
  obtain ⟨j, rfl⟩ := Int.eq_ofNat_of_zero_le h
  have hj : j < 100 := by omega
  exact ⟨showInt_small ⟨j, hj⟩, rfl, by simp only [PyData.depth]; omega, shownInt_small ⟨j, hj⟩⟩
/-- repr of what can be shown -/
theorem repr_ok {k n : Nat} {d : PyData} (h : Shw k n d) (hk : k ≤ 60) (hn : n ≤ 2 ^ 24) : reprB (.imm d) = some (.imm (.str d.shown)) := by
  unfold reprB
  simp only [q_toD]
  rw [if_pos (h.ok hk hn)]
theorem repr_okL {k n : Nat} {ds : List PyData} (h : Shw k n (.list ds)) (hk : k ≤ 60) (hn : n ≤ 2 ^ 24) : reprB (.lst ds) = some (.imm (.str (PyData.list ds).shown)) := by
  unfold reprB
  simp only [q_toD]
  rw [if_pos (h.ok hk hn)]
end DL
set_option maxRecDepth 100000
set_option maxHeartbeats 2000000
/-! DP: loops by invariants that tell the source, too. -/
namespace DL
open PySem PySem.Spec PyProof.Rows L2
section
variable {ρ : En} {S : Src} {g : SS} {c : SB} {f : SE} {s : Bd → En → Option En} {ds : List PyData} {P : Fl → En → Src → Prop}
theorem p_lcSS {vs : List Nat} {acc : List PyData} {G : List PyData → En → Src → Prop} (J : Nat → List PyData → En → Src → Prop) (h0 : J 0 acc ρ S)
    (hs : ∀ (i : Nat) (d : PyData) (acc : List PyData) (ρ : En) (S : Src), ds[i]? = some d → J i acc ρ S → ∃ ρ1, s (.imm d) (wE ρ vs) = some ρ1 ∧ (c ρ1 S).Post (Bh (fun ρ S => (f ρ S).Post fun b ρ3 S3 => ∃ e, toF b = some e ∧ nbE ρ3 = true ∧ acc.length < 1000000 ∧ J (i + 1) (acc ++ [e]) ρ3 S3) fun ρ2 S2 => J (i + 1) acc ρ2 S2))
    (he : ∀ acc' ρ' S', J ds.length acc' ρ' S' → G acc' ρ' S') : (lcS vs s c f ds acc ρ S).Post G := by
  suffices go : ∀ (l : List PyData) (k : Nat) (acc : List PyData) (ρ : En) (S : Src), (∀ i, l[i]? = ds[k + i]?) → k + l.length = ds.length → J k acc ρ S → (lcS vs s c f l acc ρ S).Post G from go ds 0 acc ρ S (fun i => by rw [Nat.zero_add]) (by omega) h0
  intro l
  induction l with
  | nil => intro k acc ρ S _ hk j; exact he acc ρ S (by rw [← hk]; exact j)
  | cons d l ih =>
    intro k acc ρ S hl hk j
    obtain ⟨ρ1, e1, h⟩ := hs k d acc ρ S (by have := hl 0; simpa using this.symm) j
    obtain ⟨t, ρ2, S2, e2, h2⟩ := h.get
    have hl' : ∀ i, l[i]? = ds[k + 1 + i]? := fun i => by have := hl (i + 1); rw [show k + 1 + i = k + (i + 1) by omega, ← this]; rfl
    have hk' : k + 1 + l.length = ds.length := by rw [List.length_cons] at hk; omega
    unfold lcS
    rw [e1]
    simp only
    rw [e2, rb_ok]
    cases t with
    | true =>
      obtain ⟨b, ρ3, S3, e3, e, e4, e5, e6, j3⟩ := R.Post.get h2
      rw [if_pos rfl, e3, rb_ok, e4]
      simp only
      rw [if_pos (by rw [e5, decide_eq_true e6]; rfl)]
      exact ih (k + 1) _ ρ3 S3 hl' hk' j3
    | false =>
      rw [if_neg (by simp)]
      exact ih (k + 1) _ ρ2 S2 hl' hk' h2
theorem p_forRS (J : Nat → En → Src → Prop) (h0 : J 0 ρ S) (hs : ∀ (i : Nat) (d : PyData) (ρ : En) (S : Src), ds[i]? = some d → J i ρ S → ∃ ρ1, s (.imm d) ρ = some ρ1 ∧ (g ρ1 S).Post fun fl ρ2 S2 => match fl with
      | .nx => J (i + 1) ρ2 S2
      | .ct => J (i + 1) ρ2 S2
      | .bk => P .nx ρ2 S2
      | .rt b => P (.rt b) ρ2 S2)
    (he : ∀ ρ' S', J ds.length ρ' S' → P .nx ρ' S') : (forS s g ds ρ S).Post P := by
  suffices go : ∀ (l : List PyData) (k : Nat) (ρ : En) (S : Src), (∀ i, l[i]? = ds[k + i]?) → k + l.length = ds.length → J k ρ S → (forS s g l ρ S).Post P from go ds 0 ρ S (fun i => by rw [Nat.zero_add]) (by omega) h0
  intro l
  induction l with
  | nil => intro k ρ S _ hk j; exact he ρ S (by rw [← hk]; exact j)
  | cons d l ih =>
    intro k ρ S hl hk j
    obtain ⟨ρ1, e1, h⟩ := hs k d ρ S (by have := hl 0; simpa using this.symm) j
    obtain ⟨fl, ρ2, S2, e2, e3⟩ := h.get
    rw [forS_cons, e1]
    simp only [e2]
    have next : J (k + 1) ρ2 S2 → (forS s g l ρ2 S2).Post P := fun j => ih (k + 1) ρ2 S2 (fun i => by have := hl (i + 1); rw [show k + 1 + i = k + (i + 1) by omega, ← this]; rfl) (by rw [List.length_cons] at hk; omega) j
    cases fl with
    | nx => exact next e3
    | ct => exact next e3
    | bk => exact e3
    | rt b => exact e3
theorem p_whileS (m : Nat → En → Src → Prop) {k : Nat} (hk : k < FU) (h0 : m k ρ S) (hs : ∀ (k : Nat) (ρ : En) (S : Src), m k ρ S → (c ρ S).Post fun t ρ1 S1 => if t = true then (g ρ1 S1).Post (fun fl ρ2 S2 => match fl with
      | .nx => ∃ j, j < k ∧ m j ρ2 S2
      | .ct => ∃ j, j < k ∧ m j ρ2 S2
      | .bk => P .nx ρ2 S2
      | .rt b => P (.rt b) ρ2 S2) else P .nx ρ1 S1) : (gWhile c g ρ S).Post P := by
  suffices go : ∀ (n k : Nat) (ρ : En) (S : Src), k < n → m k ρ S → (whS c g n ρ S).Post P from go FU k ρ S hk h0
  intro n
  induction n with
  | zero => intro k ρ S h; omega
  | succ n ih =>
    intro k ρ S hn hm
    unfold whS
    rw [R.post_bind]
    refine (hs k ρ S hm).imp fun t ρ1 S1 h => ?_
    cases t with
    | false => exact h
    | true =>
      obtain ⟨fl, ρ2, S2, e2, e3⟩ := R.Post.get h
      simp only [if_true, e2]
      cases fl with
      | nx => obtain ⟨j, hj, hm2⟩ := e3; exact ih j ρ2 S2 (by omega) hm2
      | ct => obtain ⟨j, hj, hm2⟩ := e3; exact ih j ρ2 S2 (by omega) hm2
      | bk => exact e3
      | rt b => exact e3
/-- a def by its reading, the source told -/
theorem run_ofS {m n : Nat} {bs : List Bd} {b : Bd → Src → Prop} (hl : bs.length = m) (ho : (bs.all fun b => !b.own && !b.isBor) = true) (h : (g (bs.map some ++ List.replicate (n - m) none) S).Post fun fl ρ' S' => match fl with
    | .rt r => b r S'
    | .nx => b (.imm .none) S'
    | _ => False) : ∃ r S', runB m n g bs S = some (r, S') ∧ b r S' := by
  obtain ⟨fl, ρ', S', e, h⟩ := h.get
  unfold runB
  rw [if_pos (by rw [hl, ho]; simp), e]
  cases fl with
  | rt r => exact ⟨r, S', rfl, h⟩
  | nx => exact ⟨_, S', rfl, h⟩
  | bk => exact h.elim
  | ct => exact h.elim
end
end DL
set_option maxRecDepth 100000
set_option maxHeartbeats 2000000
/-! EN: enumerate of a tuple, by values and by data. -/
namespace DL
open PySem PySem.Spec PyProof.Rows L2
set_option maxHeartbeats 1000000 in
theorem meets_enumerate_new1 {v : Value} {o : Obj} {H : Heap → Prop} (B : PySem.Begins v o H) :
    Meets (Builtin.«enumerate.__new__» ⟨[.type "enumerate", v], []⟩) (fun _ R s => H s.heap ∧
      R (.ok (.ret (.ref (s.heap.push o).objs.size))) { s with heap := (s.heap.push o).push { cls := .type "enumerate", data := .fields #[.none, .bool false, .ref s.heap.objs.size, rawInt 0, .none, .none] } }) :=
  .of_wp fun prog w A R s h => by
    obtain ⟨hp, g, d, tk, os⟩ := s; obtain ⟨h1, h⟩ := h
    have hsub := sub_enumerate
    have q1 : ∀ {A' : Around} {E : Value → Shared → Prop} {Q : Value → Shared → Prop}, Q (.ref hp.objs.size) ⟨hp.push o, g, d, tk, os⟩ → wpAny (model prog w) A' (pyIter v) Q E ⟨hp, g, d, tk, os⟩ :=
      fun q => B.iter prog w _ _ ⟨hp, g, d, tk, os⟩ _ h1 q
    wp_walk using q1
    refine wpAny_stack_any fun st => wpAny_pure ?_
    split
    · rename_i c _ _ _ _ _
      cases (c == Value.type "enumerate")
      · wp_walk using q1
        exact ⟨_, rfl, h⟩
      · wp_walk using q1
        exact ⟨_, rfl, h⟩
    · wp_walk using q1
      exact ⟨_, rfl, h⟩
theorem call_enumerate1 {prog : Program} {w : World} {A : Around} {E : Value → Shared → Prop} {s : Shared} {v : Value} {o : Obj} {H : Heap → Prop} {Q : Value → Shared → Prop} (B : PySem.Begins v o H) (h1 : H s.heap)
    (h : ∀ h', IsEnum h' (s.heap.objs.size + 1) s.heap.objs.size 0 .none → h'.get? s.heap.objs.size = some o → h'.objs.size = s.heap.objs.size + 2 →
      (∀ b o, s.heap.get? b = some o → h'.get? b = some o) → Q (.ref (s.heap.objs.size + 1)) { s with heap := h' }) :
    wpAny (model prog w) A (call (.type "enumerate") [v]) Q E s := by
  refine callType_new F.called_enumerate (by decide) (F.typeCall_enumerate_1 _) (F.newCall_enumerate_1 _) (fun obj => F.args_object_init_2 obj _) F.entry_enumerate_new
    (meets_enumerate_new1 B) ⟨h1, ?_⟩
  have hz : (s.heap.push o).objs.size = s.heap.objs.size + 1 := Heap.size_push ..
  show _ ∧ _
  rw [hz]
  have he : IsEnum ((s.heap.push o).push { cls := .type "enumerate", data := .fields #[.none, .bool false, .ref s.heap.objs.size, rawInt 0, .none, .none] }) (s.heap.objs.size + 1) s.heap.objs.size 0 .none := by
    have := Heap.get?_push_size (s.heap.push o) (o := { cls := .type "enumerate", data := .fields #[.none, .bool false, .ref s.heap.objs.size, rawInt 0, .none, .none] }) rfl
    rw [hz] at this; exact this
  refine ⟨⟨_, he, rfl⟩, h _ he (Heap.get?_push_of_some _ (Heap.get?_push_size _ B.free)) (by rw [Heap.size_push, hz]) fun b o x => Heap.get?_push_of_some _ (Heap.get?_push_of_some _ x)⟩
/-- the tuple at a, each item in a new pair -/
def Itet (K : PySem.W.Frag) (a : Addr) : It :=
  ⟨fun i H => ∃ (xs : List V) (x : V), SqT K H a xs ∧ xs[i]? = some x, fun i H v H' => ∃ T x, v = .ref T ∧ H T = none ∧ H' = upd H T (.tup [.int (i : Nat), x]) ∧ ∀ xs, SqT K H a xs → xs[i]? = some x, fun i H => ∃ xs : List V, SqT K H a xs ∧ xs.length ≤ i⟩
theorem tup_apart {h : Heap} {a it : Addr} {xs : Array Value} {i : Nat} (h1 : h.IsTuple a xs) (h2 : h.IsTupleIter it a i) : a ≠ it := fun e => by
  obtain ⟨o, e1, c1, _⟩ := h1
  obtain ⟨o', e2, c2, _⟩ := h2
  rw [e, e2] at e1
  cases e1
  rw [c1] at c2
  injection c2 with c2
  exact absurd c2 (by decide)
theorem draws_end {prog : Program} {w : World} {A : Around} (hh : A.handled = none) (it t : Addr) (items : Array Value) (i : Nat) (hx : items[i]? = none) :
    Draws prog w A it [it, t] 0 (fun _ _ => True) (fun _ h => h.IsTupleIter it t i ∧ h.IsTuple t items) where
  live := fun _ _ st => let ⟨o, ho, _⟩ := st.1; ⟨o, ho⟩
  frame := fun _ _ _ st hk => ⟨st.1.at fun o e => hk it (by simp) o e, st.2.at fun o e => hk t (by simp) o e⟩
  item := fun j s Q E hi st hQ => absurd hi (Nat.not_lt_zero _)
  done := fun s Q E st hE => wpAny_nextOf_tuple_end hh st.1 st.2 hx hE
theorem turn_enumT {P : Program} {w : World} {K : PySem.W.Frag} {elts : List Expr} {kk : Nat} {tpos : Pos} (a e it : Addr) :
    Turn P w K (.Tuple elts kk tpos) (Itet K a) [e, it] e (fun i h => (∃ old, IsEnum h e it ((i : Nat) : Int) old) ∧ h.IsTupleIter it a i ∧ e ≠ it) where
  mem := by simp
  obj := fun i h st b hb => by
    obtain ⟨⟨old, he⟩, ⟨o, ho, hc, hd⟩, _⟩ := st
    have e' : b = e ∨ b = it := by simpa using hb
    rcases e' with z | z
    · rw [z]; exact ⟨_, he, fun v q => nomatch q⟩
    · rw [z]; exact ⟨o, ho, fun v q => by rw [hd] at q; cases q⟩
  keep := fun i h h' st k => let ⟨⟨old, he⟩, hi, hne⟩ := st; ⟨⟨old, k e (by simp) _ he⟩, hi.at fun o q => k it (by simp) o q, hne⟩
  item := by
    intro X hP hw hK hc i pins s σ H E I hf st hg
    subst hP hw hK
    obtain ⟨⟨old, he⟩, hit, hne⟩ := st
    obtain ⟨xs, x, hq, hx⟩ := hg
    obtain ⟨its, rv, p, hz⟩ := I.tuple hq
    obtain ⟨u, hu, ru⟩ := rv.get hx
    have pT : s.heap.IsTuple a its.toArray := p
    have hai := tup_apart pT hit
    have hel : e < s.heap.objs.size := Heap.lt_size he
    have hil : it < s.heap.objs.size := by obtain ⟨_, q, _⟩ := hit; exact Heap.lt_size q
    have hea : e ≠ a := fun z => by
      obtain ⟨o, e1, c1, _⟩ := pT
      rw [← z, he] at e1
      cases e1
      injection c1 with c1
      exact absurd c1 (by decide)
    have hlt : i < its.toArray.size := by
      have := (List.getElem?_eq_some_iff.mp hu).1
      simpa using this
    refine wpAny_pyNext_enum_itemC (Draws.tuple (prog := X.prog) (w := X.w) (A := X.A.in1) (by show X.A.in1.handled = none; exact I.ok.hd hc) it a hai its.toArray) he ⟨hit, pT⟩ hlt hne (by simp [hne, hea]) fun x2 h' tk hP ho hs' hT hsz hk => ?_
    have ex2 : x2 = u := Option.some.inj (hP.symm.trans (by simpa using hu))
    subst ex2
    refine ⟨_, rfl, wpAny_letOwnedTupleGo_enum (s := { s with heap := h', toks := tk + 1 }) ho fun h'' he' sb => ?_⟩
    have hT2 : h''.get? s.heap.objs.size = some { cls := .type "tuple", data := .seq #[.int i tk, x2] } := (sb.2 _ (Nat.ne_of_gt hel)).trans hT
    have new : ObjOk X.prog X.w (upd H s.heap.objs.size (.tup [.int (i : Nat), x])) h'' s.heap.objs.size (.tup [.int (i : Nat), x]) :=
      ⟨by show 2 ≤ sizeLine; decide, [.int i tk, x2], .cons ⟨_, rfl⟩ (.cons ru .nil), ⟨_, hT2, rfl, _, rfl⟩⟩
    have I1 : Inv X pins σ (upd H s.heap.objs.size (.tup [.int (i : Nat), x])) { s with heap := h'', toks := tk + 1 } :=
      I.turnedNew (ch := [e, it]) (fun b ob hb q => (sb.2 b (fun z => hb (by simp [z]))).trans (hk b ob (fun z => hb (by simp [z])) (fun z => hb (by simp [z])) q)) hf (Nat.le_refl _) new
    refine ⟨.ref s.heap.objs.size, _, I1, rfl, ⟨_, x, rfl, I.hok.fresh (Nat.le_refl _), rfl, fun ys hy => by rw [I.tuple_inj hy hq]; exact hx⟩, ⟨⟨x2, ?_⟩, hs'.1.at fun o q => (sb.2 it (Ne.symm hne)).trans q, hne⟩, fun b hb => ?_⟩
    · have e1 : ((i + 1 : Nat) : Int) = (i : Int) + 1 := by omega
      rw [e1]; exact he'
    · have hb' : b < s.heap.objs.size := by
        have e' : b = e ∨ b = it := by simpa using hb
        rcases e' with z | z
        · rw [z]; exact hel
        · rw [z]; exact hil
      rw [upd_ne (Nat.ne_of_lt hb')]
      exact (hf b hb).1
  done := by
    intro X hP hw hK hc i pins s σ H E I hf st hg
    subst hP hw hK
    obtain ⟨⟨old, he⟩, hit, hne⟩ := st
    obtain ⟨xs, hq, hx⟩ := hg
    obtain ⟨its, rv, p, hz⟩ := I.tuple hq
    obtain ⟨f0, f1, f2, f3, f4, f5⟩ := hf it (by simp)
    have hl := rv.length
    refine wpAny_pyNext_enum_endD (draws_end (prog := X.prog) (w := X.w) (A := X.A.in1) (by show X.A.in1.handled = none; exact I.ok.hd hc) it a its.toArray i (by simp; omega)) he ⟨hit, (show s.heap.IsTuple a its.toArray from p)⟩ fun h' eb => ⟨rfl, I.turned (t' := s.toks) (fun b o hb q => eb b o hb q) f0 f1 f3 f4 f5⟩
  self := fun A i s Q E st h => let ⟨⟨_, he⟩, _⟩ := st; wpAny_pyIter_enum he h
def iEnumT (K : PySem.W.Frag) (ta : TA) : TI := fun σ H R => ta σ H fun vs H1 => ∃ a xs, vs = [.ref a] ∧ SqT K H1 a xs ∧ R (Itet K a) H1
theorem pi_enumT {X : Cx} {e : Expr} {ta : TA} {p pos tpos : Pos} {elts : List Expr} {kk : Nat} (hg : Gl X "enumerate") (hm : X.mg "enumerate" = none) (ha : PA X [e] ta) (hs : starEach [e] X.env = [(false, eval e X.env)] := by rfl) :
    PI X (.Tuple elts kk tpos) (.Call (.Name "enumerate" p) [e] [] pos) (iEnumT X.K ta) := by
  refine ⟨fun pins s σ H R I h => ?_⟩
  refine Call_ (ld_blt I hg hm boot_enumerate (PyProof.Rows.callWith_type1 (thn (ha.run pos pins s σ H _ I h) fun us s1 ⟨vs, H1, I1, r1, q1⟩ => ?_) hs rfl))
  obtain ⟨a, xs, ex, hq, q⟩ := q1
  subst ex
  cases r1 with
  | cons r rr =>
    cases rr
    cases r
    obtain ⟨its, rv, p', hz⟩ := I1.tuple hq
    refine call_enumerate1 (begins_tuple a its.toArray) p' fun h' he hit hsz hk => wpAny_pyIter_enum he ?_
    have I2 : Inv X pins σ H1 { s1 with heap := h' } := I1.kept (t' := s1.toks) hk
    refine ⟨s1.heap.objs.size + 1, [s1.heap.objs.size + 1, s1.heap.objs.size], _, _, H1, rfl, I2, turn_enumT a (s1.heap.objs.size + 1) s1.heap.objs.size, ⟨⟨.none, he⟩, ⟨_, hit, rfl, rfl⟩, Nat.succ_ne_self _⟩, fun b hb => ?_, q⟩
    have e' : b = s1.heap.objs.size + 1 ∨ b = s1.heap.objs.size := by simpa using hb
    have hle : s1.heap.objs.size ≤ b := by
      rcases e' with z | z
      · rw [z]; exact Nat.le_add_right _ _
      · rw [z]; exact Nat.le_refl _
    exact I1.fpOk hle (I1.hok.fresh hle)
/-- the text x, each sign in a new pair -/
def Ites (x : Str) : It :=
  ⟨fun i _ => i < x.cps.size, fun i H v H' => ∃ T c, x.cps[i]? = some c ∧ v = .ref T ∧ H T = none ∧ H' = upd H T (.tup [.int (i : Nat), .str ⟨#[c]⟩]), fun i _ => x.cps.size ≤ i⟩
theorem draws_strEnd {prog : Program} {w : World} {A : Around} (hh : A.handled = none) (it : Addr) (x : Str) (t : Tok) (ty : String) (hty : ty = "str_ascii_iterator" ∨ ty = "str_iterator") (i : Nat) (hx : x.cps[i]? = none) :
    Draws prog w A it [it] 0 (fun _ _ => True) (fun _ h => h.IsStrIter it ty x t i) where
  live := fun _ _ st => let ⟨o, ho, _⟩ := st; ⟨o, ho⟩
  frame := fun _ _ _ st hk => let ⟨o, ho, r⟩ := st; ⟨o, hk it (by simp) o ho, r⟩
  item := fun j s Q E hi st hQ => absurd hi (Nat.not_lt_zero _)
  done := fun s Q E st hE => by
    rcases hty with e | e
    · rw [e] at st; exact wpAny_nextOf_ascii_end hh st hx hE
    · rw [e] at st; exact wpAny_nextOf_wide_end hh st hx hE
theorem draws_str {prog : Program} {w : World} {A : Around} (hh : A.handled = none) (it : Addr) (x : Str) (t : Tok) (ty : String) (hty : ty = "str_ascii_iterator" ∨ ty = "str_iterator") :
    Draws prog w A it [it] x.cps.size (fun i v => ∃ c u, x.cps[i]? = some c ∧ v = .str ⟨#[c]⟩ u) (fun i h => h.IsStrIter it ty x t i) := by
  rcases hty with e | e
  · rw [e]; exact Draws.strAscii hh it x t
  · rw [e]; exact Draws.strWide hh it x t
theorem turn_enumS {P : Program} {w : World} {K : PySem.W.Frag} {elts : List Expr} {kk : Nat} {tpos : Pos} (e it : Addr) (x : Str) (t : Tok) (ty : String) (hty : ty = "str_ascii_iterator" ∨ ty = "str_iterator") :
    Turn P w K (.Tuple elts kk tpos) (Ites x) [e, it] e (fun i h => (∃ old, IsEnum h e it ((i : Nat) : Int) old) ∧ h.IsStrIter it ty x t i ∧ e ≠ it) where
  mem := by simp
  obj := fun i h st b hb => by
    obtain ⟨⟨old, he⟩, ⟨o, ho, hc, hd⟩, _⟩ := st
    have e' : b = e ∨ b = it := by simpa using hb
    rcases e' with z | z
    · rw [z]; exact ⟨_, he, fun v q => nomatch q⟩
    · rw [z]; exact ⟨o, ho, fun v q => by rw [hd] at q; cases q⟩
  keep := fun i h h' st k => let ⟨⟨old, he⟩, ⟨o, ho, r⟩, hne⟩ := st; ⟨⟨old, k e (by simp) _ he⟩, ⟨o, k it (by simp) o ho, r⟩, hne⟩
  item := by
    intro X hP hw hK hc i pins s σ H E I hf st hg
    subst hP hw hK
    obtain ⟨⟨old, he⟩, hit, hne⟩ := st
    have hel : e < s.heap.objs.size := Heap.lt_size he
    have hil : it < s.heap.objs.size := by obtain ⟨_, q, _⟩ := hit; exact Heap.lt_size q
    refine wpAny_pyNext_enum_itemC (draws_str (prog := X.prog) (w := X.w) (A := X.A.in1) (by show X.A.in1.handled = none; exact I.ok.hd hc) it x t ty hty) he hit hg hne (by simp [hne]) fun x2 h' tk hP ho hs' hT hsz hk => ?_
    obtain ⟨c, u, hcx, rfl⟩ := hP
    refine ⟨_, rfl, wpAny_letOwnedTupleGo_enum (s := { s with heap := h', toks := tk + 1 }) ho fun h'' he' sb => ?_⟩
    have hT2 : h''.get? s.heap.objs.size = some { cls := .type "tuple", data := .seq #[.int i tk, .str ⟨#[c]⟩ u] } := (sb.2 _ (Nat.ne_of_gt hel)).trans hT
    have new : ObjOk X.prog X.w (upd H s.heap.objs.size (.tup [.int (i : Nat), .str ⟨#[c]⟩])) h'' s.heap.objs.size (.tup [.int (i : Nat), .str ⟨#[c]⟩]) :=
      ⟨by show 2 ≤ sizeLine; decide, [.int i tk, .str ⟨#[c]⟩ u], .cons ⟨_, rfl⟩ (.cons ⟨_, rfl⟩ .nil), ⟨_, hT2, rfl, _, rfl⟩⟩
    have I1 : Inv X pins σ (upd H s.heap.objs.size (.tup [.int (i : Nat), .str ⟨#[c]⟩])) { s with heap := h'', toks := tk + 1 } :=
      I.turnedNew (ch := [e, it]) (fun b ob hb q => (sb.2 b (fun z => hb (by simp [z]))).trans (hk b ob (fun z => hb (by simp [z])) (fun z => hb (by simp [z])) q)) hf (Nat.le_refl _) new
    refine ⟨.ref s.heap.objs.size, _, I1, rfl, ⟨_, c, hcx, rfl, I.hok.fresh (Nat.le_refl _), rfl⟩, ⟨⟨.str ⟨#[c]⟩ u, ?_⟩, ?_, hne⟩, fun b hb => ?_⟩
    · have e1 : ((i + 1 : Nat) : Int) = (i : Int) + 1 := by omega
      rw [e1]; exact he'
    · obtain ⟨o, ho, r⟩ := hs'
      exact ⟨o, (sb.2 it (Ne.symm hne)).trans ho, r⟩
    · have hb' : b < s.heap.objs.size := by
        have e' : b = e ∨ b = it := by simpa using hb
        rcases e' with z | z
        · rw [z]; exact hel
        · rw [z]; exact hil
      rw [upd_ne (Nat.ne_of_lt hb')]
      exact (hf b hb).1
  done := by
    intro X hP hw hK hc i pins s σ H E I hf st hg
    subst hP hw hK
    obtain ⟨⟨old, he⟩, hit, hne⟩ := st
    obtain ⟨f0, f1, f2, f3, f4, f5⟩ := hf it (by simp)
    exact wpAny_pyNext_enum_endD (draws_strEnd (prog := X.prog) (w := X.w) (A := X.A.in1) (by show X.A.in1.handled = none; exact I.ok.hd hc) it x t ty hty i (Array.getElem?_eq_none hg)) he hit fun h' eb => ⟨rfl, I.turned (t' := s.toks) (fun b o hb q => eb b o hb q) f0 f1 f3 f4 f5⟩
  self := fun A i s Q E st h => let ⟨⟨_, he⟩, _⟩ := st; wpAny_pyIter_enum he h
def iEnumS (ta : TA) : TI := fun σ H R => ta σ H fun vs H1 => ∃ x, vs = [.str x] ∧ R (Ites x) H1
theorem pi_enumS {X : Cx} {e : Expr} {ta : TA} {p pos tpos : Pos} {elts : List Expr} {kk : Nat} (hg : Gl X "enumerate") (hm : X.mg "enumerate" = none) (ha : PA X [e] ta) (hs : starEach [e] X.env = [(false, eval e X.env)] := by rfl) :
    PI X (.Tuple elts kk tpos) (.Call (.Name "enumerate" p) [e] [] pos) (iEnumS ta) := by
  refine ⟨fun pins s σ H R I h => ?_⟩
  refine Call_ (ld_blt I hg hm boot_enumerate (PyProof.Rows.callWith_type1 (thn (ha.run pos pins s σ H _ I h) fun us s1 ⟨vs, H1, I1, r1, q1⟩ => ?_) hs rfl))
  obtain ⟨x, ex, q⟩ := q1
  subst ex
  cases r1 with
  | cons r rr =>
    cases rr
    obtain ⟨t, rfl⟩ := r
    have hty : strIterType x = "str_ascii_iterator" ∨ strIterType x = "str_iterator" := by
      unfold strIterType
      split
      · exact .inl rfl
      · exact .inr rfl
    refine call_enumerate_str fun h' he hit hsz hk => wpAny_pyIter_enum he ?_
    have I2 : Inv X pins σ H1 { s1 with heap := h' } := I1.kept (t' := s1.toks) hk
    refine ⟨s1.heap.objs.size + 1, [s1.heap.objs.size + 1, s1.heap.objs.size], _, _, H1, rfl, I2, turn_enumS (s1.heap.objs.size + 1) s1.heap.objs.size x t _ hty, ⟨⟨.none, he⟩, hit, Nat.succ_ne_self _⟩, fun b hb => ?_, q⟩
    have e' : b = s1.heap.objs.size + 1 ∨ b = s1.heap.objs.size := by simpa using hb
    have hle : s1.heap.objs.size ≤ b := by
      rcases e' with z | z
      · rw [z]; exact Nat.le_add_right _ _
      · rw [z]; exact Nat.le_refl _
    exact I1.fpOk hle (I1.hok.fresh hle)
/-- enumerate of a list, of a tuple, of a text -/
def iEnumA (K : PySem.W.Frag) (ta : TA) : TI := fun σ H R => iEnum K ta σ H R ∨ iEnumT K ta σ H R ∨ iEnumS ta σ H R
theorem pi_enumA {X : Cx} {e : Expr} {ta : TA} {p pos tpos : Pos} {elts : List Expr} {kk : Nat} (hg : Gl X "enumerate") (hm : X.mg "enumerate" = none) (ha : PA X [e] ta) (hs : starEach [e] X.env = [(false, eval e X.env)] := by rfl) :
    PI X (.Tuple elts kk tpos) (.Call (.Name "enumerate" p) [e] [] pos) (iEnumA X.K ta) := ⟨fun pins s σ H R I h => by
  rcases h with h | h | h
  · exact (pi_enum hg hm ha hs).run pins s σ H R I h
  · exact (pi_enumT hg hm ha hs).run pins s σ H R I h
  · exact (pi_enumS hg hm ha hs).run pins s σ H R I h⟩
section
variable {K : PySem.W.Frag} {so : SO} {H0 H H' : Hp} {A0 A A' : Addr → Prop} {S S' : Src} {σ σ' tv : Sl} {ρ ρ' tb : En} {v x y : V} {b c : Bd}
def enumAI (bs : List Bd) : Option (Bool × List PyData) := match bs with
  | [.imm (.tuple ds)] => some (true, enumD ds)
  | [.imm (.str z)] => some (true, enumD (signsD z))
  | [b] => (toL b).map fun ds => (!b.isBor, enumD ds)
  | _ => none
theorem wk_enumT {a : Addr} {ds : List PyData} : Wk K so (Itet K a) [some (.ref a)] [some (.imm (.tuple ds))] (enumD ds) := by
  refine ⟨rfl, fun H => ∃ vs, SqT K H a vs ∧ vs.length = (enumD ds).length, fun i H v H' => ∃ T x, v = .ref T ∧ H T = none ∧ H' = upd H T (.tup [.int (i : Nat), x]) ∧ ∀ xs, SqT K H a xs → xs[i]? = some x,
    ⟨fun i H hi ⟨vs, g1, g2⟩ => ⟨vs, vs[i], g1, List.getElem?_eq_getElem (by omega)⟩, fun H ⟨vs, g1, g2⟩ => ⟨vs, g1, by omega⟩, fun i H x H' _ _ y => y⟩, ?_, ?_⟩
  · intro H0 A0 S σ ρ H A hl M
    cases M.last with
    | tup g1 g2 => exact ⟨_, g1.sq, by simp [enumD, g2.length]⟩
  · rintro H0 A0 S σ ρ H A i d x H' hl M ed ⟨T, x', rfl, hT, rfl, y⟩
    cases M.last with
    | tup g1 g2 =>
    rename_i vs
    unfold enumD at ed
    rw [List.getElem?_mapIdx] at ed
    cases ei : ds[i]? with
    | none => rw [ei] at ed; cases ed
    | some d' =>
      rw [ei] at ed
      have : d = .tuple [.int (i : Nat), d'] := by simpa using ed.symm
      subst this
      obtain ⟨w, e1, e2⟩ := g2.get ei
      have := y vs g1.sq
      rw [e1] at this
      cases this
      exact ⟨A, M.pairNew hT (.int _) e2 rfl⟩
theorem post_ok {α : Type} {a : α} {k : α → En → Src → Prop} (h : (R.ok a ρ S).Post k) : k a ρ S := h
theorem signsD_get {z : Str} {i : Nat} : (signsD z)[i]? = z.cps[i]?.map fun c => .str ⟨#[c]⟩ := by
  unfold signsD
  rw [List.getElem?_map, Array.getElem?_toList]
theorem wk_enumS {z : Str} : Wk K so (Ites z) [] [] (enumD (signsD z)) := by
  have hl : (enumD (signsD z)).length = z.cps.size := by simp [enumD, signsD]
  refine ⟨rfl, fun H => True, fun i H v H' => ∃ T c, z.cps[i]? = some c ∧ v = .ref T ∧ H T = none ∧ H' = upd H T (.tup [.int (i : Nat), .str ⟨#[c]⟩]),
    ⟨fun i H hi _ => by rw [hl] at hi; exact hi, fun H _ => by rw [hl]; exact Nat.le_refl _, fun i H x H' _ _ y => y⟩, fun _ _ _ _ _ _ _ _ _ => trivial, ?_⟩
  rintro H0 A0 S σ ρ H A i d x H' hl2 M ed ⟨T, c, hc, rfl, hT, rfl⟩
  unfold enumD at ed
  rw [List.getElem?_mapIdx, signsD_get, hc] at ed
  have : d = .tuple [.int (i : Nat), .str ⟨#[c]⟩] := by simpa using ed.symm
  subst this
  exact ⟨A, by simpa using M.pairNew hT (.int _) (.str ⟨#[c]⟩) rfl⟩
theorem enumAI_of {b : Bd} (h : ∀ ds, b ≠ .imm (.tuple ds)) (h2 : ∀ z, b ≠ .imm (.str z)) : enumAI [b] = enumI [b] := by
  unfold enumAI enumI
  cases b with
  | imm d => cases d with
    | tuple ds => exact absurd rfl (h ds)
    | str z => exact absurd rfl (h2 z)
    | _ => rfl
  | _ => rfl
theorem rdi_enumA {ta : TA} {fa : SA} (ha : RdA K so ta fa) : RdI K so (iEnumA K ta) (fiAr enumAI fa) := fun H0 A0 S σ ρ tv tb H A Q hl M h => by
  by_cases hx : ∃ ds ρ1 S1, fa ρ S = .ok [.imm (.tuple ds)] ρ1 S1
  · obtain ⟨ds, ρ1, S1, ex⟩ := hx
    refine .inr (.inl (ha H0 A0 S σ ρ tv tb H A _ hl M ?_))
    have h2 := R.post_bind.mp h
    rw [ex] at h2 ⊢
    intro vs H1 A1 hl1 hn M1
    obtain ⟨p, e, h⟩ := R.post_of.mp (post_ok h2)
    have ep : (true, enumD ds) = p := Option.some.inj e
    subst ep
    have hlt : (σ ++ tv).length = (ρ1 ++ tb).length := by have := M1.len; simp at this hn ⊢; omega
    obtain ⟨x, rfl, M2⟩ := M1.at1 hlt
    have o := M2.last
    cases o with
    | tup g1 g2 => exact ⟨_, _, rfl, g1.sq, h _ [some (.ref _)] [some (.imm (.tuple ds))] H1 A1 hl1 wk_enumT (fun z => nbOne rfl) M2⟩
  by_cases hy : ∃ z ρ1 S1, fa ρ S = .ok [.imm (.str z)] ρ1 S1
  · obtain ⟨z, ρ1, S1, ex⟩ := hy
    refine .inr (.inr (ha H0 A0 S σ ρ tv tb H A _ hl M ?_))
    have h2 := R.post_bind.mp h
    rw [ex] at h2 ⊢
    intro vs H1 A1 hl1 hn M1
    obtain ⟨p, e, h⟩ := R.post_of.mp (post_ok h2)
    have ep : (true, enumD (signsD z)) = p := Option.some.inj e
    subst ep
    have hlt : (σ ++ tv).length = (ρ1 ++ tb).length := by have := M1.len; simp at this hn ⊢; omega
    obtain ⟨x, rfl, M2⟩ := M1.at1 hlt
    have o := M2.last
    cases o with
    | str => exact ⟨_, rfl, h _ [] [] H1 A1 hl1 wk_enumS (fun _ c hc => by cases hc) (by simpa using M2.init)⟩
  · refine .inl (rdi_enum ha H0 A0 S σ ρ tv tb H A Q hl M ?_)
    have h2 := R.post_bind.mp h
    refine R.post_bind.mpr ?_
    cases ef : fa ρ S with
    | bad => rw [ef] at h2; exact h2.elim
    | ok bs ρ1 S1 =>
      rw [ef] at h2
      have h3 := post_ok h2
      have eq : enumAI bs = enumI bs := by
        match bs, ef with
        | [], _ => rfl
        | x :: y :: r, _ => simp [enumAI, enumI]
        | [b], ef => exact enumAI_of (fun ds e => hx ⟨ds, ρ1, S1, by rw [ef, e]⟩) fun z e => hy ⟨z, ρ1, S1, by rw [ef, e]⟩
      rw [eq] at h3
      exact h3
theorem di_enumA {X : Cx} {e : Expr} {p pos tpos : Pos} {elts : List Expr} {kk : Nat} {ta : TA} {fs : SA} (hm : X.mg "enumerate" = none) (ha : DAr X so [e] ta fs) (hg : Gl X "enumerate" := by rfl) (hs : starEach [e] X.env = [(false, eval e X.env)] := by rfl) :
    DI X so (.Tuple elts kk tpos) (.Call (.Name "enumerate" p) [e] [] pos) (iEnumA X.K ta) (fiAr enumAI fs) := ⟨pi_enumA hg hm ha.pa hs, rdi_enumA ha.rd⟩
/-- a comprehension within a comprehension: its test by the kernel -/
theorem de_lcK {X : Cx} {pos : Pos} {elt tg iter : Expr} {ifs : List Expr} {scope : Scope} {own : List (Str × Nat)} {w : TI} {g : TG} {tt : TT} {te : TE} {s : Bd → En → Option En} {is : List Nat} {fi : SI} {c : SB} {fe : SE} (hc : X.calm = true) (hN : X.N.Nodup) (hi : DI X so tg iter w fi) (ok : blkC X.N X.env.scope scope own = true)
    (hg : ∀ (s' : Shared) (H : Hp) (C : Addr) (cl : List (Str × Addr)) (fp : List Addr), DG (X.blk s' H scope (compEnvC scope cl C X.env) fp) so tg g s is) (hs : ∀ i ∈ is, i ∈ own.map (·.2))
    (ht : ∀ (s' : Shared) (H : Hp) (C : Addr) (cl : List (Str × Addr)) (fp : List Addr), DTs (X.blk s' H scope (compEnvC scope cl C X.env) fp) so ifs tt c)
    (he : ∀ (s' : Shared) (H : Hp) (C : Addr) (cl : List (Str × Addr)) (fp : List Addr), DE (X.blk s' H scope (compEnvC scope cl C X.env) fp) so elt te fe) (hf : ∀ x, foldedSetIterable iter X.env x = pure x := by intro _; rfl) :
    DE X so (.ListComp elt [⟨tg, iter, ifs, 0⟩] scope pos) (tLc w g tt te (own.map (·.2))) (fLc (own.map (·.2)) s fi c fe) :=
  de_lc X.N X.env.scope hc hN hi ok hg hs ht he hf rfl rfl
section
variable {X : Cx} {so : SO} {pos p : Pos} {a b : Expr} {ta tb : TE} {fa fb : SE} {K' : PySem.W.Frag}
theorem dt_eqK {n : Nat} (hK : X.K = K') (hr : Rm n X.A) (ha : DE X so a ta fa) (hb : DE X so b tb fb) : DT X so (.Compare a [.Eq] [b] pos) (tTest (tOp (rEqA K') ta tb)) (fTest (fOp (eqB false) fa fb)) := hK ▸ dt_eq hr ha hb
theorem dt_neK {n : Nat} (hK : X.K = K') (hr : Rm n X.A) (ha : DE X so a ta fa) (hb : DE X so b tb fb) : DT X so (.Compare a [.NotEq] [b] pos) (tTest (tOp (rNeA K') ta tb)) (fTest (fOp (eqB true) fa fb)) := hK ▸ dt_ne hr ha hb
theorem de_ixK (hK : X.K = K') (ha : DE X so a ta fa) (hb : DE X so b tb fb) (hs : PlainIx b := by intro _ _; rfl) : DE X so (.Subscript a b pos) (tOp (rIx K') ta tb) (fOp ixB fa fb) := hK ▸ de_ix ha hb hs
end
/-! ### sum -/
def intsD : List PyData → Option (List Int)
  | [] => some []
  | .int i :: r => (intsD r).map (i :: ·)
  | _ => none
def sumB (b : Bd) : Option Bd := (toL b).bind fun ds => (intsD ds).map fun is => .imm (.int is.sum)
theorem intsD_den : ∀ {ds : List PyData} {vs : List V} {is : List Int}, DenL K H A vs ds → intsD ds = some is → vs = is.map V.int
  | [], _, is, h, e => by cases h; cases e; rfl
  | d :: ds, _, is, h, e => by
    cases h with
    | cons h1 h2 =>
      cases d with
      | int b =>
        simp only [intsD] at e
        cases er : intsD ds with
        | none => rw [er] at e; cases e
        | some r => rw [er] at e; cases e; cases h1; rw [intsD_den h2 er]; rfl
      | _ => simp [intsD] at e
theorem cs_sum : CaS K so (rSum K) (o1 sumB) := CaS.of1 fun H0 A0 S σ ρ H A x bx b Q M e q => by
  unfold sumB at e
  cases el : toL bx with
  | none => rw [el] at e; cases e
  | some ds =>
  rw [el, Option.bind_some] at e
  cases eb : intsD ds with
  | none => rw [eb] at e; cases e
  | some bs =>
  rw [eb] at e
  cases e
  obtain ⟨a, vs, rfl, g1, g2⟩ := M.last.lstI el
  exact ⟨a, bs, rfl, by rw [← intsD_den g2 eb]; exact SqL.of g1, q _ H A (M.flat fun H A => .int _)⟩
/-! ### t.index(x), of texts -/
def strsD : List PyData → Option (List Str)
  | [] => some []
  | .str x :: r => (strsD r).map (x :: ·)
  | _ => none
def idxS (z : Str) : List Str → Nat → Option Nat
  | [], _ => none
  | y :: r, n => if y = z then some n else idxS z r (n + 1)
theorem idxS_at {z : Str} : ∀ {ys : List Str} {n j : Nat}, idxS z ys n = some j → n ≤ j ∧ ys[j - n]? = some z ∧ ∀ m, m < j - n → ys[m]? ≠ some z
  | [], n, j, h => by cases h
  | y :: ys, n, j, h => by
    unfold idxS at h
    split at h
    · rename_i hz
      cases h
      exact ⟨Nat.le_refl _, by rw [Nat.sub_self]; simp [hz], fun m hm => by omega⟩
    · rename_i hz
      obtain ⟨h1, h2, h3⟩ := idxS_at h
      refine ⟨by omega, ?_, fun m hm e => ?_⟩
      · rw [show j - n = (j - (n + 1)) + 1 by omega]; simpa using h2
      · cases m with
        | zero => simp at e; exact hz e
        | succ m => exact h3 m (by omega) (by simpa using e)
theorem strsD_eq : ∀ {ds : List PyData} {ys : List Str}, strsD ds = some ys → ds = ys.map PyData.str
  | [], ys, h => by cases h; rfl
  | d :: r, ys, h => by
    cases d with
    | str x =>
      simp only [strsD] at h
      cases hr : strsD r with
      | none => rw [hr] at h; cases h
      | some zs => rw [hr] at h; cases h; rw [strsD_eq hr]; rfl
    | _ => simp [strsD] at h
theorem strsT_map : ∀ {ys : List Str}, ys ≠ [] → strsT (ys.map PyData.str) = true := fun {ys} h => by
  have go : ∀ zs : List Str, allS (zs.map PyData.str) = true := fun zs => by
    induction zs with
    | nil => rfl
    | cons z zs ih => exact ih
  cases ys with
  | nil => exact absurd rfl h
  | cons y ys => exact go (y :: ys)
theorem den_strs : ∀ {ys : List Str} {vs : List V}, DenL K H A vs (ys.map PyData.str) → vs = ys.map V.str
  | [], _, h => by cases h; rfl
  | y :: r, _, h => by
    cases h with
    | cons h1 h2 => cases h1; rw [den_strs h2]; rfl
def tidxB (a b : Bd) : Option Bd := match a, b with
  | .imm (.tuple ds), .imm (.str z) => (strsD ds).bind fun ys => (idxS z ys 0).map fun j => .imm (.int (j : Nat))
  | _, _ => none
theorem rd_tidx {to te : TE} {fo fe : SE} (ho : RdE K so to fo) (he : RdE K so te fe) : RdE K so (tTIdx K to te) (fOp tidxB fo fe) := fun H0 A0 S σ ρ tv tb H A Q hl M h => by
  refine ho H0 A0 S σ ρ tv tb H A _ hl M ?_
  refine (R.post_bind.mp h).imp fun bx ρ1 S1 h v1 H1 A1 hl1 M1 => ?_
  have h2 := R.post_bind.mp h
  obtain ⟨b0, ρ2, S2, ea, h3⟩ := h2.get
  obtain ⟨b, eo, h4⟩ := R.post_of.mp h3
  unfold tidxB at eo
  split at eo
  · rename_i ds z
    cases es : strsD ds with
    | none => rw [es] at eo; cases eo
    | some ys =>
    rw [es, Option.bind_some] at eo
    cases ej : idxS z ys 0 with
    | none => rw [ej] at eo; cases eo
    | some j =>
    rw [ej] at eo
    cases eo
    obtain ⟨_, j1, j2⟩ := idxS_at ej
    have ed := strsD_eq es
    subst ed
    have hy : ys ≠ [] := fun e => by rw [e] at ej; cases ej
    obtain ⟨a, vs, rfl, g1, g2⟩ := M1.last.tupI
    have ev := den_strs g2
    subst ev
    obtain ⟨o, oc, od, og⟩ : ∃ o : Obj, o.cls = .type "tuple" ∧ o.dict = none ∧ H1 a = some (.frz o (.tup (ys.map V.str))) := by
      unfold TupAt at g1
      rw [if_pos (strsT_map hy)] at g1
      exact g1
    refine ⟨a, o, ys, rfl, oc, od, og, he H0 A0 S1 σ ρ1 (tv ++ [some (.ref a)]) (tb ++ [some (.imm (.tuple (ys.map PyData.str)))]) H1 A1 _ hl1 (by simpa only [List.append_assoc] using M1) ?_⟩
    rw [ea]
    intro v2 H2 A2 hl2 M2
    have M2' : Mt K so H0 A0 S2 (σ ++ tv ++ [some (.ref a)] ++ [some v2]) (ρ2 ++ tb ++ [some (.imm (.tuple (ys.map PyData.str)))] ++ [some (.imm (.str z))]) H2 A2 := by simpa only [List.append_assoc] using M2
    have o2 := M2'.last
    cases o2
    obtain ⟨a2, vs2, e2, g3, g4⟩ := M2'.init.last.tupI
    cases e2
    have ev2 := den_strs g4
    subst ev2
    exact ⟨z, j, rfl, g3.sq, by simpa using j1, fun m hm => j2 m (by simpa using hm), h4 _ H2 A2 hl2 (M2'.init.init.flat fun H A => .int _)⟩
  · cases eo
theorem de_tidx {X : Cx} {cpos apos : Pos} {e o : Expr} {to te : TE} {fo fe : SE} (ho : DE X so o to fo) (he : DE X so e te fe)
    (hbase : attributeBase o "index" X.env (eval o X.env) = eval o X.env := by rfl)
    (hfew : ((backTo cpos (starEach [e] X.env)).all (fun x => !x.1) && (backToKw cpos (keywordEach [] X.env)).all (fun x => x.1.isSome)
      && decide ([e].length + ([] : List Keyword).length + (if ([] : List Keyword).isEmpty then 0 else 1) < 30)) = true := by rfl)
    (hline : (apos.endLine == cpos.line) = true := by rfl) (hs : starEach [e] X.env = (false, eval e X.env) :: starEach [] X.env := by rfl) (hplain : (backTo cpos (starEach [] X.env)).any (·.1) = false := by rfl) :
    DE X so (.Call (.Attribute o "index" apos) [e] [] cpos) (tTIdx X.K to te) (fOp tidxB fo fe) := ⟨pe_tidx ho.pe he.pe hbase hfew hline hs hplain, rd_tidx ho.rd he.rd⟩
/-! ### x += e, ints -/
def iaddB (a b : Bd) : Option Bd := match a, b with
  | .imm (.int i), .imm (.int j) => some (.imm (.int (i + j)))
  | _, _ => none
theorem iaddB_some {a b c : Bd} (h : iaddB a b = some c) : ∃ i j, a = .imm (.int i) ∧ b = .imm (.int j) ∧ c = .imm (.int (i + j)) := by
  unfold iaddB at h
  split at h
  · rename_i i j
    cases h
    exact ⟨i, j, rfl, rfl, rfl⟩
  · cases h
theorem rds_augI {te : TE} {fe : SE} (i : Nat) (he : RdE K so te fe) : RdS K so (tAug i te (ipI fun i j => i + j)) (gAsg (sName i) (fOp iaddB (fVar i) fe)) := fun H0 A0 S σ ρ tv tb H A D hl nb M h => by
  have h1 := R.post_bind.mp (R.post_bind.mp h)
  have hlt : tv.length = tb.length := by have := M.len; simp at this; omega
  obtain ⟨b0, eρ⟩ : ∃ b0, ρ[i]? = some (some b0) := by
    cases e : ρ[i]? with
    | none => unfold fVar at h1; rw [e] at h1; exact h1.elim
    | some o => cases o with
      | none => unfold fVar at h1; rw [e] at h1; exact h1.elim
      | some b => exact ⟨b, rfl⟩
  have hi : i < ρ.length := (List.getElem?_eq_some_iff.mp eρ).1
  obtain ⟨v, hv, o⟩ := M.bd i b0 (by rw [List.getElem?_append_left hi]; exact eρ)
  rw [List.getElem?_append_left (by omega)] at hv
  have key : ∀ (b1 : Bd), (b1 = b0 ∨ ∃ ds, b1 = .bor ds) → ((fe ρ S).bind fun y ρ S => R.of (iaddB b1 y) ρ S).Post (fun b ρ1 S1 => (match sName i b ρ1 with
    | some ρ' => R.ok Fl.nx ρ' S1
    | none => R.bad).Post (EndOk K so H0 A0 tv tb D)) → tAug i te (ipI fun i j => i + j) D σ H := fun b1 hb h2 => by
    refine ⟨v, hv, he H0 A0 S σ ρ tv tb H A _ hl M ((R.post_bind.mp h2).imp fun b2 ρ1 S1 h v1 H1 A1 hl1 M1 => ?_)⟩
    obtain ⟨b, e, h⟩ := R.post_of.mp h
    obtain ⟨k, j, e1, e2, e3⟩ := iaddB_some e
    subst e1 e2 e3
    rcases hb with hb | ⟨ds, hb⟩
    · subst hb
      cases o
      have o2 := M1.last
      cases o2
      refine ⟨k, j, rfl, rfl, ?_⟩
      have M3 : Mt K so H0 A0 S1 (σ ++ tv ++ [some (.int (k + j))]) (ρ1 ++ tb ++ [some (.imm (.int (k + j)))]) H1 A1 := M1.init.pushI (b := .imm (.int (k + j))) (Den.int _) rfl
      exact h (σ.set i (some (.int (k + j)))) H1 A1 (by simpa using hl1) (M3.asg hl1 hlt i)
    · cases hb
  unfold fVar at h1
  rw [eρ] at h1
  cases b0 with
  | lst ds => exact key _ (.inr ⟨ds, rfl⟩) h1
  | dk _ => exact h1.elim
  | dt _ => exact h1.elim
  | imm d => exact key _ (.inl rfl) h1
  | bor d => exact key _ (.inl rfl) h1
  | src => exact key _ (.inl rfl) h1
  | ref a => exact key _ (.inl rfl) h1
  | wr d => exact key _ (.inl rfl) h1
theorem ds_augI {X : Cx} (i : Nat) {x : Str} {px pos : Pos} {e : Expr} {te : TE} {fe : SE} (hN : X.N.Nodup) (h : DE X so e te fe) (hi : X.N[i]? = some x := by rfl) (hx : Loc X.env.scope x := by first | exact Or.inl rfl | exact Or.inr rfl)
    (hf : X.fn x = true ∨ X.env.scope.names.lookup x = some .local := by first | exact .inl rfl | exact .inr rfl) : DS X so (.AugAssign (.Name x px) .Add e pos) (tAug i te (ipI fun i j => i + j)) (gAsg (sName i) (fOp iaddB (fVar i) fe)) :=
  ⟨ps_aug hN hi hx h.pe ip_add hf, rds_augI i h.rd⟩
@[simp] theorem q_iadd {i j : Int} : iaddB (.imm (.int i)) (.imm (.int j)) = some (.imm (.int (i + j))) := rfl
/-! ### text * int -/
def repS (z : Str) (k : Nat) : Str := ⟨(List.replicate k z.cps).foldl (· ++ ·) #[]⟩
def smulB (a b : Bd) : Option Bd := match a, b with
  | .imm (.str z), .imm (.int k) => if 2 ≤ k ∧ k ≤ 1000 ∧ 1 ≤ z.length ∧ z.length ≤ 1000 then some (.imm (.str (repS z k.toNat))) else none
  | _, _ => none
def rMulS : R2 := fun x y H Q => ∃ z k, x = .str z ∧ y = .int k ∧ (2 ≤ k ∧ k ≤ 1000 ∧ 1 ≤ z.length ∧ z.length ≤ 1000) ∧ Q (.str (repS z k.toNat)) H
theorem repS_len {z : Str} : ∀ (k : Nat) (a : Array Nat), ((List.replicate k z.cps).foldl (· ++ ·) a).size = a.size + k * z.length
  | 0, a => by simp
  | k + 1, a => by
    rw [List.replicate_succ, List.foldl_cons, repS_len k, Array.size_append, Nat.succ_mul]
    show a.size + z.length + _ = _
    omega
theorem op_mulS {X : Cx} : OpR X (binaryOp .Mult) rMulS := by
  intro pins s σ H x y v u Q I rx ry h
  obtain ⟨z, k, rfl, rfl, ⟨h1, h2, h3, h4⟩, q⟩ := h
  obtain ⟨t, rfl⟩ := rx
  obtain ⟨t', rfl⟩ := ry
  have hk : k.toNat ≤ 1000 := by omega
  have hm : z.length * k.toNat ≤ 1000000 := Nat.mul_le_mul h4 hk
  have nk : ¬ k < 1 := by omega
  have n1 : (k == 1) = false := by simp; omega
  have n0 : (z.length == 0) = false := by simp; omega
  refine PySem.P.mul_str ?_ (fun _ _ => ?_) (fun _ _ => ?_) ?_
  · have a1 : ¬ k < -(2 ^ 63 : Int) := by omega
    have a2 : ¬ k ≥ 2 ^ 63 := by omega
    rw [decide_eq_false a1, decide_eq_false a2]; rfl
  · have : (1000 : Int) ≤ (2 ^ 63 - 1) / k := by
      rw [Int.le_ediv_iff_mul_le (by omega)]
      omega
    omega
  · have := lim2 hm
    exact decide_eq_false (show ¬ z.length * k.toNat > sizeLine by omega)
  · rw [if_neg nk, if_neg (by rw [n1, n0]; simp)]
    have hl : (repS z k.toNat).length ≤ sizeLine := by
      show ((List.replicate k.toNat z.cps).foldl (· ++ ·) #[]).size ≤ _
      rw [repS_len]
      simp only [Array.size_empty]
      rw [Nat.zero_add, Nat.mul_comm]
      exact lim2 hm
    exact ⟨hl, .str (repS z k.toNat), H, I.tok _, ⟨_, rfl⟩, q⟩
theorem ops_mulS : OpS K so rMulS smulB := fun H0 A0 S σ ρ H A x y bx by_ b Q M e q => by
  have o1 := M.init.last
  have o2 := M.last
  unfold smulB at e
  split at e
  · rename_i z k
    split at e
    · rename_i hz
      cases e
      exact ⟨z, k, (o1.dp (d := .str z) rfl).strI, (o2.dp (d := .int k) rfl).intI, hz, q _ H A (M.flat fun H A => .str _)⟩
    · cases e
  · cases e
theorem de_mulS {X : Cx} {pos : Pos} {a b : Expr} {ta tb : TE} {fa fb : SE} (ha : DE X so a ta fa) (hb : DE X so b tb fb) : DE X so (.BinOp a .Mult b pos) (tOp rMulS ta tb) (fOp smulB fa fb) := ⟨pe_op op_mulS ha.pe hb.pe, rd_op ops_mulS ha.rd hb.rd⟩
end
end DL
set_option maxRecDepth 100000
set_option maxHeartbeats 1000000
namespace DL
open PySem PySem.Spec PyProof.Rows L2
/-! ### a < b < c -/
section
variable {K : PySem.W.Frag} {so : SO}
def fChain (o o' : Bd → Bd → Option Bd) (fa fb fc : SE) : SE := fun ρ S => (fa ρ S).bind fun x ρ S => (fb ρ S).bind fun y ρ S => match o x y with
  | some (.imm (.bool true)) => (fc ρ S).bind fun z ρ S => R.of (o' y z) ρ S
  | some (.imm (.bool false)) => .ok (.imm (.bool false)) ρ S
  | _ => .bad
theorem rd_chain {r r' : R2} {o o' : Bd → Bd → Option Bd} {ta tb' tc : TE} {fa fb fc : SE} (ho : OpS K so r o) (ho' : OpS K so r' o') (ha : RdE K so ta fa) (hb : RdE K so tb' fb) (hc : RdE K so tc fc) : RdE K so (tChain r r' ta tb' tc) (fChain o o' fa fb fc) := fun H0 A0 S σ ρ tv tb H A Q hl M h => by
  refine ha H0 A0 S σ ρ tv tb H A _ hl M ?_
  refine (R.post_bind.mp h).imp fun bx ρ1 S1 h v1 H1 A1 hl1 M1 => ?_
  refine hb H0 A0 S1 σ ρ1 (tv ++ [some v1]) (tb ++ [some bx]) H1 A1 _ hl1 (by simpa only [List.append_assoc] using M1) ?_
  refine (R.post_bind.mp h).imp fun by_ ρ2 S2 h v2 H2 A2 hl2 M2 => ?_
  have M2' : Mt K so H0 A0 S2 (σ ++ tv ++ [some v1] ++ [some v2]) (ρ2 ++ tb ++ [some bx] ++ [some by_]) H2 A2 := by simpa only [List.append_assoc] using M2
  split at h
  · rename_i e
    refine ho H0 A0 S2 (σ ++ tv) (ρ2 ++ tb) H2 A2 v1 v2 bx by_ _ _ M2' e fun v H' A' M' => ?_
    have o1 := M'.last
    cases o1
    refine ⟨true, rfl, ?_⟩
    rw [if_pos rfl]
    have M3 := M'.init
    refine hc H0 A0 S2 σ ρ2 (tv ++ [some v1] ++ [some v2]) (tb ++ [some bx] ++ [some by_]) H' A' _ hl2 (by simpa only [List.append_assoc] using M3) ?_
    refine (R.post_bind.mp h).imp fun bz ρ3 S3 h v3 H3 A3 hl3 M4 => ?_
    obtain ⟨b, e', h⟩ := R.post_of.mp h
    have M5 : Mt K so H0 A0 S3 ((σ ++ tv ++ [some v1]) ++ [some v2] ++ [some v3]) ((ρ3 ++ tb ++ [some bx]) ++ [some by_] ++ [some bz]) H3 A3 := by simpa only [List.append_assoc] using M4
    exact ho' H0 A0 S3 (σ ++ tv ++ [some v1]) (ρ3 ++ tb ++ [some bx]) H3 A3 v2 v3 by_ bz b Q M5 e' fun v H' A' M' => h v H' A' hl3 M'.cut2.cut1
  · rename_i e
    refine ho H0 A0 S2 (σ ++ tv) (ρ2 ++ tb) H2 A2 v1 v2 bx by_ _ _ M2' e fun v H' A' M' => ?_
    have o1 := M'.last
    cases o1
    refine ⟨false, rfl, ?_⟩
    rw [if_neg Bool.false_ne_true]
    exact h _ H' A' hl2 M'.cut2
  · exact h.elim
end
section
variable {X : Cx} {so : SO} {pos : Pos} {a b c : Expr} {ta tb tc : TE} {fa fb fc : SE}
theorem dt_chain {op op' : CmpOp} {r r' : R2} {o o' : Bd → Bd → Option Bd} (ho : OpR X (compareOp op) r) (hs : OpS X.K so r o) (ho' : OpR X (compareOp op') r') (hs' : OpS X.K so r' o') (ha : DE X so a ta fa) (hb : DE X so b tb fb) (hc : DE X so c tc fc)
    (hm : lastMarks [op, op'] [b, c] = false := by with_unfolding_all rfl) : DT X so (.Compare a [op, op'] [b, c] pos) (tTest (tChain r r' ta tb tc)) (fTest (fChain o o' fa fb fc)) := ⟨pt_chain ho ho' ha.pe hb.pe hc.pe hm, rdt_val (rd_chain hs hs' ha.rd hb.rd hc.rd)⟩
theorem de_chain {op op' : CmpOp} {r r' : R2} {o o' : Bd → Bd → Option Bd} (ho : OpR X (compareOp op) r) (hs : OpS X.K so r o) (ho' : OpR X (compareOp op') r') (hs' : OpS X.K so r' o') (ha : DE X so a ta fa) (hb : DE X so b tb fb) (hc : DE X so c tc fc)
    (hm : lastMarks [op, op'] [b, c] = false := by with_unfolding_all rfl) : DE X so (.Compare a [op, op'] [b, c] pos) (tChain r r' ta tb tc) (fChain o o' fa fb fc) := ⟨pe_chain ho ho' ha.pe hb.pe hc.pe hm, rd_chain hs hs' ha.rd hb.rd hc.rd⟩
end
end DL
set_option maxRecDepth 100000
set_option maxHeartbeats 1000000
namespace DL
open PySem PySem.Spec PyProof.Rows L2
/-! ### s.join(xs), s.split(t) -/
section
variable {K : PySem.W.Frag} {so : SO}
theorem strs_den {H : Hp} {A : Addr → Prop} : ∀ {ds : List PyData} {vs : List V} {ys : List Str}, DenL K H A vs ds → strsD ds = some ys → vs = ys.map V.str
  | [], _, ys, h, e => by cases h; cases e; rfl
  | d :: ds, _, ys, h, e => by
    cases h with
    | cons h1 h2 =>
      cases d with
      | str b =>
        simp only [strsD] at e
        cases hr : strsD ds with
        | none => rw [hr] at e; cases e
        | some zs =>
          rw [hr] at e
          cases e
          rw [strs_den h2 hr, show _ = V.str b from h1.dp.strI]
          rfl
      | _ => simp [strsD] at e
theorem strs_up {H : Hp} {A : Addr → Prop} : ∀ ys : List Str, DenL K H A (ys.map V.str) (ys.map PyData.str)
  | [] => .nil
  | y :: ys => .cons (.str y) (strs_up ys)
def isS : Bd → Bool
  | .imm (.str _) => true
  | _ => false
theorem isS_some {b : Bd} (h : isS b = true) : ∃ s, b = .imm (.str s) := by
  unfold isS at h
  split at h
  · exact ⟨_, rfl⟩
  · cases h
/-- a text's method with one argument -/
def fMeth (o : Bd → Bd → Option Bd) (fo fe : SE) : SE := fun ρ S => (fo ρ S).bind fun x ρ S => if isS x = true then (fe ρ S).bind fun y ρ S => R.of (o x y) ρ S else .bad
theorem rd_meth {r : V → List V → Hp → VK → Prop} {o : Bd → Bd → Option Bd} {to te : TE} {fo fe : SE} (ho : OpS K so (fun x y H Q => r x [y] H Q) o) (ha : RdE K so to fo) (hb : RdE K so te fe) : RdE K so (tM1 r to te) (fMeth o fo fe) := fun H0 A0 S σ ρ tv tb H A Q hl M h => by
  refine ha H0 A0 S σ ρ tv tb H A _ hl M ?_
  refine (R.post_bind.mp h).imp fun bx ρ1 S1 h v1 H1 A1 hl1 M1 => ?_
  split at h
  · rename_i hs
    obtain ⟨s, rfl⟩ := isS_some hs
    have o1 := M1.last
    cases o1
    refine ⟨⟨s, rfl⟩, ?_⟩
    refine hb H0 A0 S1 σ ρ1 (tv ++ [some (.str s)]) (tb ++ [some (.imm (.str s))]) H1 A1 _ hl1 (by simpa only [List.append_assoc] using M1) ?_
    refine (R.post_bind.mp h).imp fun by_ ρ2 S2 h v2 H2 A2 hl2 M2 => ?_
    obtain ⟨b, e, h⟩ := R.post_of.mp h
    have M2' : Mt K so H0 A0 S2 (σ ++ tv ++ [some (.str s)] ++ [some v2]) (ρ2 ++ tb ++ [some (.imm (.str s))] ++ [some by_]) H2 A2 := by simpa only [List.append_assoc] using M2
    exact ho H0 A0 S2 (σ ++ tv) (ρ2 ++ tb) H2 A2 _ v2 _ by_ b Q M2' e fun v H' A' M' => h v H' A' hl2 M'.cut2
  · exact h.elim
def splitB (a b : Bd) : Option Bd := match a, b with
  | .imm (.str s), .imm (.str t) => if (t.length == 0) = false ∧ s.length ≤ 1000000 then some (.lst ((Txt.split s t).map .str)) else none
  | _, _ => none
theorem ops_split : OpS K so (fun x y H Q => ∃ a b, x = .str a ∧ [y] = [.str b] ∧ (b.length == 0) = false ∧ a.length + 2 ≤ sizeLine ∧ rNewStrs (Txt.split a b) H Q) splitB := fun H0 A0 S σ ρ H A x y bx by_ b Q M e q => by
  unfold splitB at e
  split at e
  · rename_i s t
    split at e
    · rename_i hz
      cases e
      have e1 := (M.init.last.dp (d := .str s) rfl).strI
      have e2 := (M.last.dp (d := .str t) rfl).strI
      subst e1
      subst e2
      exact ⟨s, t, rfl, rfl, hz.1, by rw [sizeLine_eq]; omega, fun p hp => q _ _ A (M.newL hp (strs_up _))⟩
    · cases e
  · cases e
def strsB (b : Bd) : Option (List Str) := match toL b with
  | some ds => strsD ds
  | none => match b with
    | .imm (.tuple ds) => strsD ds
    | _ => none
def joinB (a b : Bd) : Option Bd := match a with
  | .imm (.str s) => (strsB b).bind fun ys => if (ys.map (·.length)).sum + ys.length * s.length ≤ 16777216 then some (.imm (.str (Txt.join s ys))) else none
  | _ => none
theorem ops_join : OpS K so (fun x y H Q => ∃ a p, ∃ ys : List Str, x = .str a ∧ [y] = [.ref p] ∧ (SqL K H p (ys.map V.str) ∨ SqT K H p (ys.map V.str)) ∧ (ys.map (·.length)).sum + ys.length * a.length ≤ 16777216 ∧ Q (.str (Txt.join a ys)) H) joinB := fun H0 A0 S σ ρ H A x y bx by_ b Q M e q => by
  unfold joinB at e
  split at e
  · rename_i s
    have e1 := (M.init.last.dp (d := .str s) rfl).strI
    subst e1
    obtain ⟨ys, ey, e⟩ := Option.bind_eq_some_iff.mp e
    split at e
    · rename_i hz
      cases e
      unfold strsB at ey
      split at ey
      · rename_i ds el
        obtain ⟨a, vs, rfl, g1, g2⟩ := M.last.lstI el
        have := strs_den g2 ey
        subst this
        exact ⟨s, a, ys, rfl, rfl, .inl (SqL.of g1), hz, q _ H A (M.flat fun H A => .str _)⟩
      · split at ey
        · rename_i ds _
          obtain ⟨a, vs, rfl, g1, g2⟩ := M.last.tupI
          have := strs_den g2 ey
          subst this
          exact ⟨s, a, ys, rfl, rfl, .inr g1.sq, hz, q _ H A (M.flat fun H A => .str _)⟩
        · cases ey
    · cases e
  · cases e
end
section
variable {X : Cx} {so : SO} {apos pos : Pos} {o e : Expr} {to te : TE} {fo fe : SE}
theorem de_split (ho : DE X so o to fo) (he : DE X so e te fe) (hs : starEach [e] X.env = [(false, eval e X.env)] := by rfl) (hbase : attributeBase o "split" X.env (eval o X.env) = eval o X.env := by rfl) (hline : (apos.endLine == pos.line) = true := by rfl) :
    DE X so (.Call (.Attribute o "split" apos) [e] [] pos) (tM1 (fun x xs H Q => ∃ a b, x = .str a ∧ xs = [.str b] ∧ (b.length == 0) = false ∧ a.length + 2 ≤ sizeLine ∧ rNewStrs (Txt.split a b) H Q) to te) (fMeth splitB fo fe) := ⟨pe_split ho.pe he.pe hs hbase hline, rd_meth ops_split ho.rd he.rd⟩
theorem de_join (ho : DE X so o to fo) (he : DE X so e te fe) (hs : starEach [e] X.env = [(false, eval e X.env)] := by rfl) (hbase : attributeBase o "join" X.env (eval o X.env) = eval o X.env := by rfl) (hline : (apos.endLine == pos.line) = true := by rfl) :
    DE X so (.Call (.Attribute o "join" apos) [e] [] pos) (tM1 (fun x xs H Q => ∃ a p, ∃ ys : List Str, x = .str a ∧ xs = [.ref p] ∧ (SqL X.K H p (ys.map V.str) ∨ SqT X.K H p (ys.map V.str)) ∧ (ys.map (·.length)).sum + ys.length * a.length ≤ 16777216 ∧ Q (.str (Txt.join a ys)) H) to te) (fMeth joinB fo fe) := ⟨pe_join ho.pe he.pe hs hbase hline, rd_meth ops_join ho.rd he.rd⟩
end
end DL
set_option maxRecDepth 100000
set_option maxHeartbeats 1000000
namespace DL
open PySem PySem.Spec PyProof.Rows L2 PySem.W NdefX LamX
/-! ### super().__init__(..) in an exception's own __init__ -/
/-- what the written part says of the def and its class -/
structure SuF (P : Program) (K : Frag) (mg : Str → Option Value) (N : List Str) (F : NF) (f C D cc : Addr) (slf : Str) : Prop where
  fn : ∃ oc od dV kV doc pm an ct osl, K.lookup f = some ⟨oc, od, .func (fnX F.name F.qual F.params F.body F.scope F.cl dV kV doc pm an (.ref F.c) ct), osl⟩
  cd : codeIn K (.ref F.c) F.qual = true
  file : ∃ ccl cdd vs ccs fl tf, K.lookup F.c = some ⟨ccl, cdd, .fields vs, ccs⟩ ∧ vs[2]? = some (.str fl tf) ∧ ((P.main.file : Str) == fl) = true
  clo : F.cl = [(("__class__" : Str), cc)]
  cell : ∃ cl cld csl, K.lookup cc = some ⟨cl, cld, .cell (some (.ref D)), csl⟩
  clsD : ∃ cdD, clsIn K D = some cdD
  sub : mroIn K C (.ref D) = some true
  first : ∃ ar, (F.params.posonlyargs ++ F.params.args).head? = some ar ∧ ar.arg = slf
  n0 : N[0]? = some slf
  kself : F.scope.names.lookup slf = some .local
  ksup : F.scope.names.lookup ("super" : Str) = some .globalImplicit
  kcls : F.scope.names.lookup ("__class__" : Str) = some .free
  kind : F.scope.kind = .function
  sup : mg "super" = none
  top : (P.main.scope.names.lookup ("super" : Str)).isSome = false
  opq : nsIn K cStatics "thirdparty.any" = some none
  nxt : ks_superIn K C D "__init__" = some (some (.builtin "ValueError.__init__"))
  subV : subIn K (.ref C) (.type "ValueError") = some true
section
variable {CX : CXT} {P : Program} {w : World} {K : Frag} {mg : Str → Option Value} {base : Heap} {N : List Str} {F : NF} {f : Addr} {A : Around} {outer : List PySem.Env} {s0 s : Shared} {H0 H : Hp} {E : XK} {C D cc x : Addr} {slf : Str} {σ : L2.St}
theorem exo_inst (T : OexC K C) (I : L2.Inv (ncx CX P w K mg base N F f A outer s0 H0 E) [] σ H s) (e : H x = some (exo x C none)) : ∃ ox : Obj, InstAt s.heap x ox C none ∧ ox.cls = .ref C ∧ (∀ c, ox.data ≠ .cls c) := by
  obtain ⟨t1, ho⟩ := exo_at I.hok e
  exact ⟨_, ⟨ho, rfl, rfl, trivial⟩, rfl, fun c h => by cases h⟩
theorem super_obj (T : OexC K C) (U : SuF P K mg N F f C D cc slf) (I : L2.Inv (ncx CX P w K mg base N F f A outer s0 H0 E) [] σ H s) (e0 : σ[0]? = some (some (.ref x))) (e : H x = some (exo x C none))
    {body : List Stmt} {p0 p1 : Pos} {whole : Sem Value} {Q : Value → Shared → Prop} {EE : Value → Shared → Prop}
    (h : ∀ so s', L2.Inv (ncx CX P w K mg base N F f A outer s0 H0 E) [] σ H s' → s'.heap.get? so = some (ks_superObj D x C) → Q (.ref so) s') :
    _root_.PySem.wpAt (model P w) (ncx CX P w K mg base N F f A outer s0 H0 E).A (.func body (envF F f s0.heap.objs.size)) (attributeBase (.Call (.Name "super" p0) [] [] p1) "__init__" (envF F f s0.heap.objs.size) whole) Q EE s := by
  have X : K.In s.heap := I.kIn
  obtain ⟨ox, IA, hcx, hnc⟩ := exo_inst T I e
  obtain ⟨m, hn, hlk⟩ := id I.loc
  obtain ⟨oc, od, dV, kV, doc, pm, an, ct, osl, lf⟩ := U.fn
  obtain ⟨ccl, cdd, vs, ccs, fl, tf, lc, hvs, hfile⟩ := U.file
  obtain ⟨cl, cld, csl, lcc⟩ := U.cell
  obtain ⟨cdD, hD⟩ := U.clsD
  obtain ⟨ar, hp, ha⟩ := U.first
  obtain ⟨u, ru, hu⟩ := hlk 0 slf (.ref x) U.n0 e0 (.inl U.kself)
  obtain rfl : u = Value.ref x := ru
  have hm : m slf = some (.ref x) := by
    rcases hu with ⟨_, z⟩ | ⟨z, _⟩
    · exact z
    · have z : F.scope.names.lookup slf = some .cell ∨ F.scope.names.lookup slf = some .free := z
      rw [U.kself] at z
      rcases z with z | z <;> cases z
  obtain ⟨mb, hb1, hb2⟩ := I.mod.blt
  obtain ⟨oD, hD1, hD2⟩ : ∃ oD, s.heap.get? D = some oD ∧ oD.data = .cls cdD := by
    unfold clsIn at hD
    split at hD
    · rename_i c d cd' sl ho
      cases hD
      exact ⟨_, X _ _ ho, rfl⟩
    · cases hD
  obtain ⟨hh, g, d, t, os⟩ := s
  refine ks_wpAt_super_base (env := envF F f s0.heap.objs.size) U.ksup U.kcls (by decide) rfl (X _ _ lf) rfl hp rfl (X _ _ lc) rfl hvs hfile U.top ?_
  refine ks_loadName_global U.kind U.ksup (Calls.loadGlobal_builtin (env := envF F f s0.heap.objs.size) (I.mod.glob.keeps I.bk) U.sup (hb1.keeps I.bk) ((hb2 _ (by decide)).trans PyProof.Rows.Boot.«super») ⟨rfl, ?_⟩)
  refine wpAny_loadName_free U.kind U.kcls (by show F.cl.lookup _ = _; rw [U.clo]; rfl) ⟨_, X _ _ lcc, rfl⟩ ?_
  rw [ha]
  refine wpAny_loadName_local U.kind U.kself hn hm ?_
  refine ks_wpAny_isType_cls hD1 hD2 ⟨rfl, ?_⟩
  refine ks_wpAny_call_super hD1 hD2 IA.at_ IA.cls hnc (looks_mroIn X U.sub) (fun h' e k => ?_)
  exact h _ _ (I.kept (t' := t) k) e
/-- the bound wrapper called -/
theorem mw_call {X : Cx} {σ : L2.St} {H : Hp} {s : Shared} {u : Addr} {us : List Value} {Q : Value → Shared → Prop} {EE : Value → Shared → Prop} (T : OexC X.K C) (I : L2.Inv X [] σ H s) (e : H x = some (exo x C none)) (hu : s.heap.get? u = some (kxs_mw "ValueError.__init__" x))
    (hz : us.length ≤ sizeLine) (h : ∀ s', L2.Inv X [] σ H s' → Q .none s') : wpAny (model X.prog X.w) X.A (call (.ref u) us) Q EE s := by
  obtain ⟨nm, q, N, bs, bm, sn, sub, ab, col, dd, k0, k1, k2, k3, k5, hC, hbm⟩ := T.cls
  obtain ⟨t1, ho⟩ := exo_at I.hok e
  have FB := PySem.F.excBase_ValueError
  obtain ⟨hp, g, d, t, os⟩ := s
  refine wpAny_call (codeAny_of_tree ?_)
  show wpAny _ X.A.in1 (callAny (.ref u) ⟨us, []⟩) _ _ _
  simp only [callAny]
  refine wpAny_bind (wpAny_load hu ?_)
  simp only [kxs_mw, show (Value.type "method-wrapper" == Value.type "method" || Value.type "method-wrapper" == Value.type "builtin_function_or_method" || Value.type "method-wrapper" == Value.type "method-wrapper") = true by decide, if_true]
  refine KFB.if_so (by decide) ?_
  refine wpAny_bind (check_bound_init FB.toExcCallFacts (I.kIn _ _ hC) ho rfl ?_)
  refine wpAny_bind (wpAny_pure (wpAny_pure ?_))
  refine ⟨plainId_quiet FB.init.plain _, codeAny_builtin FB.initEntry ?_⟩
  refine exc_init_tree (cls := .ref C) (t0 := t1) (dv := none) (c2 := .none) (c3 := .none) (b4 := .bool false) ho hz fun h' k hx _ => ?_
  have J := I.write (t' := t) (x := x) (e := x) (o := exo x C none) (by rw [e]; exact True.intro) (.inl rfl) k ⟨_, hx⟩ (exo_ok hx)
  have eu : upd H x (exo x C none) = H := by
    funext b
    by_cases hb : b = x
    · rw [hb, upd_same, e]
    · rw [upd_ne hb]
  rw [eu] at J
  exact h _ J
theorem super_stmt (T : OexC K C) (U : SuF P K mg N F f C D cc slf) (I : L2.Inv (ncx CX P w K mg base N F f A outer s0 H0 E) [] σ H s) (e0 : σ[0]? = some (some (.ref x))) (e : H x = some (exo x C none))
    {body : List Stmt} {p0 p1 p2 pos pos' : Pos} {e1 : Expr} {es : List Expr} {ta : TA} {pl : Sem Bool} {Q : Flow → Shared → Prop} {Qn : Hp → Prop} (ha : PA (ncx CX P w K mg base N F f A outer s0 H0 E) (e1 :: es) ta)
    (q : ta σ H fun vs H1 => vs.length ≤ 1000 ∧ H1 x = some (exo x C none) ∧ Qn H1) (hQ : ∀ s' H1, L2.Inv (ncx CX P w K mg base N F f A outer s0 H0 E) [] σ H1 s' → Qn H1 → Q .next s')
    (hm : eval (.Call (.Attribute (.Call (.Name "super" p0) [] [] p1) "__init__" p2) (e1 :: es) [] pos) (envF F f s0.heap.objs.size) = (do
      let ov ← attributeBase (.Call (.Name "super" p0) [] [] p1) "__init__" (envF F f s0.heap.objs.size) (eval (.Call (.Name "super" p0) [] [] p1) (envF F f s0.heap.objs.size))
      standAt p2.atName
      let (fn, first) ← holding [ov] (getMethod ov "__init__" pl)
      callWith pos fn first (backTo pos (starEach (e1 :: es) (envF F f s0.heap.objs.size))) []))
    (hs : swapsWith (.Call (.Attribute (.Call (.Name "super" p0) [] [] p1) "__init__" p2) (e1 :: es) [] pos) none pos'.line (envF F f s0.heap.objs.size) = pure false)
    (he : starEach (e1 :: es) (envF F f s0.heap.objs.size) = (false, eval e1 (envF F f s0.heap.objs.size)) :: starEach es (envF F f s0.heap.objs.size)) (hpl : (backTo pos (starEach es (envF F f s0.heap.objs.size))).any (·.1) = false) :
    _root_.PySem.wpAt (model P w) (ncx CX P w K mg base N F f A outer s0 H0 E).A (.func body (envF F f s0.heap.objs.size)) (exec (.Expr (.Call (.Attribute (.Call (.Name "super" p0) [] [] p1) "__init__" p2) (e1 :: es) [] pos) pos') (envF F f s0.heap.objs.size)) Q (ncx CX P w K mg base N F f A outer s0 H0 E).xe s := by
  refine ks_wpAt_Expr_any (ks_wpAt_MethodCall (super_obj T U I e0 e fun so s' I' hso => ?_) hm) I.quiet hs
  obtain ⟨ox, IA, hcx, hnc⟩ := exo_inst T I' e
  have X : K.In s'.heap := I'.kIn
  have hI : Looks (model P w) s'.heap (isInstance (.ref x) (.type "ValueError")) true := IA.type.andThen (looks_subIn X U.subV)
  have hnx := U.nxt
  have fr1 := I'.hok.fresh (a := s'.heap.objs.size) (Nat.le_refl _)
  have nf1 := I'.nofs (a := s'.heap.objs.size) (Nat.le_refl _)
  have lt1 := I'.lt
  obtain ⟨hh, g, d, t, os⟩ := s'
  cases hc : clsIn K C with
  | none => unfold ks_superIn at hnx; rw [hc] at hnx; cases hnx
  | some cd =>
    unfold ks_superIn at hnx
    rw [hc] at hnx
    refine kxs_getMethod kxs_ValueError hso (looks_opaque X U.opq) (l₀ := cd.mro) (fun A Q E s k q => wpAny_bind ((looks_clsIn X hc) A _ E s k (wpAny_pure q))) rfl X hnx hI (ks_ne X IA hc) (by decide) ?_
    have J : L2.Inv (ncx CX P w K mg base N F f A outer s0 H0 E) [] σ H ⟨hh.push (kxs_mw "ValueError.__init__" x), g, d, t + 1, os⟩ := I'.kept (t' := t + 1) fun b u z => Heap.get?_push_of_some _ z
    have hu : (hh.push (kxs_mw "ValueError.__init__" x)).get? hh.objs.size = some (kxs_mw "ValueError.__init__" x) := Heap.get?_push_at rfl rfl
    have J1 : L2.Inv (ncx CX P w K mg base N F f A outer s0 H0 E) [(hh.objs.size, kxs_mw "ValueError.__init__" x)] σ H ⟨hh.push (kxs_mw "ValueError.__init__" x), g, d, t + 1, os⟩ := J.pins_of fun p hp => by
      rw [List.mem_singleton] at hp
      subst hp
      exact ⟨hu, fr1, Nat.ne_of_gt lt1, nf1, fun v z => by cases z⟩
    show wpAny _ _ (callWith pos (.ref hh.objs.size) [] (backTo pos (starEach (e1 :: es) (envF F f s0.heap.objs.size))) []) _ _ _
    have hr := ha.run pos _ _ σ H _ J1 q
    have he' : starEach (e1 :: es) (ncx CX P w K mg base N F f A outer s0 H0 E).env = (false, eval e1 (envF F f s0.heap.objs.size)) :: starEach es (envF F f s0.heap.objs.size) := he
    rw [he'] at hr
    rw [he]
    refine kxs_callWith (i := "ValueError.__init__") (x := x) (by show (false || (backTo pos (starEach es (envF F f s0.heap.objs.size))).any (·.1)) = false; rw [hpl]; rfl) (Calls.evalArgs_plain (thn hr fun us s1 hx => ?_))
    obtain ⟨vs, H1, I1, r1, hlen, ex, qn⟩ := hx
    obtain ⟨hu1, _, _, _, _⟩ := I1.pin (hh.objs.size, kxs_mw "ValueError.__init__" x) (by simp)
    refine ⟨hu1, ?_⟩
    have I1' : L2.Inv (ncx CX P w K mg base N F f A outer s0 H0 E) [] σ H1 s1 := I1.pins_of fun p hp => absurd hp (by simp)
    show wpAny _ _ (call (.ref hh.objs.size) us) _ _ _
    exact mw_call T I1' ex hu1 (by rw [← r1.length, sizeLine_eq]; omega) fun s2 J2 => hQ s2 H1 J2 qn
end
end DL
set_option maxRecDepth 100000
set_option maxHeartbeats 1000000
namespace DL
open PySem PySem.Spec PyProof.Rows L2 PySem.W NdefX LamX
section
variable {CX : CXT} {P : Program} {w : World} {K : Frag} {mg : Str → Option Value} {base : Heap} {N ps : List Str} {F : NF} {f : Addr} {C D cc : Addr} {slf : Str} {fd : FuncData} {k : Nat} {sp : Sp}
/-- a def whose first line is super().__init__(..) -/
theorem fn_super (T : OexC K C) (U : SuF P K mg N F f C D cc slf) (S : NScope N ps ["__class__"] F.scope)
    (hfd : ∃ oc od dV kV doc pm an ct osl, fd = fnX F.name F.qual F.params F.body F.scope F.cl dV kV doc pm an (.ref F.c) ct ∧ K.lookup f = some ⟨oc, od, .func fd, osl⟩)
    (len : ∀ vs H Q E, sp vs H Q E → vs.length = ps.length) {p0 p1 p2 pos pos' : Pos} {e1 : Expr} {es : List Expr} {rest : List Stmt} {pl : Sem Bool}
    (hb : F.body = .Expr (.Call (.Attribute (.Call (.Name "super" p0) [] [] p1) "__init__" p2) (e1 :: es) [] pos) pos' :: rest)
    (hm : ∀ L, eval (.Call (.Attribute (.Call (.Name "super" p0) [] [] p1) "__init__" p2) (e1 :: es) [] pos) (envF F f L) = (do
      let ov ← attributeBase (.Call (.Name "super" p0) [] [] p1) "__init__" (envF F f L) (eval (.Call (.Name "super" p0) [] [] p1) (envF F f L))
      standAt p2.atName
      let (fn, first) ← holding [ov] (getMethod ov "__init__" pl)
      callWith pos fn first (backTo pos (starEach (e1 :: es) (envF F f L))) []))
    (hs : ∀ L, swapsWith (.Call (.Attribute (.Call (.Name "super" p0) [] [] p1) "__init__" p2) (e1 :: es) [] pos) none pos'.line (envF F f L) = pure false)
    (he : ∀ L, starEach (e1 :: es) (envF F f L) = (false, eval e1 (envF F f L)) :: starEach es (envF F f L)) (hpl : ∀ L, (backTo pos (starEach es (envF F f L))).any (·.1) = false)
    (hbody : ∀ (A : Around) (outer : List PySem.Env) (s : Shared) (H : Hp) (vs : List V) (Q : VK) (E : XK), Room k (A.deeper (envF F f s.heap.objs.size)) → sp vs H Q E →
      ∃ (x : Addr) (ta : TA) (t : TS), PA (ncx CX P w K mg base N F f A outer s H E) (e1 :: es) ta ∧ PSs (ncx CX P w K mg base N F f A outer s H E) rest t ∧ (startF N vs [some (.ref D)])[0]? = some (some (.ref x)) ∧ H x = some (exo x C none) ∧
        ta (startF N vs [some (.ref D)]) H fun ws H1 => ws.length ≤ 1000 ∧ H1 x = some (exo x C none) ∧ t { nx := fun _ H' => Q .non H', rt := Q } (startF N vs [some (.ref D)]) H1) :
    FnOk P w K mg base CX (k + 1) f fd ps sp := by
  refine ⟨len, fun A outer s H args us vs Q E hr e0 hbt r hsp => ?_⟩
  have hl := len _ _ _ _ hsp
  have lim : s.heap.NoLimit := e0.mod.nolimit.keeps fun b o e => (e0.bs b o e).1
  have hin : K.In s.heap := e0.mod.kin.keeps fun b o e => (e0.bs b o e).1
  obtain ⟨oc, od, dV, kV, doc, pm, an, ct, osl, rfl, lk⟩ := hfd
  obtain ⟨cl, cld, csl, lcc⟩ := U.cell
  have hbc := e0.mod.kin _ _ lcc
  have hcl : ∀ y c, F.cl.lookup y = some c → y = "__class__" ∧ c = cc := fun y c h => by
    rw [U.clo] at h
    unfold List.lookup at h
    split at h
    · rename_i z
      cases h
      exact ⟨by simpa using z, rfl⟩
    · simp at h
  have CA : CellsAt F.cl ["__class__"] [some (.ref D)] s.heap H := by
    refine ⟨rfl, fun y c h => ?_, fun a b c h1 h2 => by rw [(hcl _ _ h1).1, (hcl _ _ h2).1], fun i y h => ?_⟩
    · obtain ⟨rfl, rfl⟩ := hcl y c h
      exact ⟨(e0.bs _ _ hbc).2, _, _, hin _ _ lcc, rfl⟩
    · match i, h with
      | 0, h =>
        cases h
        refine ⟨cc, by rw [U.clo]; rfl, fun v hv => ?_⟩
        cases hv
        exact ⟨.ref D, rfl, _, hin _ _ lcc, rfl⟩
      | i + 1, h => simp at h
  refine codeAny_call_function hr.depth (hin _ _ lk) rfl S.co S.gen rfl (codeRec_of hin U.cd) (hbt _ _ _ _ ?_)
  refine wpAny_newFunctionEnv S.nocell (fun ⟨n, _⟩ hy => S.par n (List.of_mem_zip hy).1) (fun h₁ hns hsb => ⟨lim.fresh _ hsb, ?_⟩) S.kind
  show codeAny _ _ (.func F.body (envF F f s.heap.objs.size)) _ _
  have kp : ∀ b o, s.heap.get? b = some o → h₁.get? b = some o := fun b o e => hsb.extBut b o (Nat.ne_of_lt (Heap.lt_size e)) (Heap.get?_push_of_some _ e)
  have I : L2.Inv (ncx CX P w K mg base N F f A outer s H E) [] (startF N vs [some (.ref D)]) H { s with heap := h₁, toks := s.toks + (ps.zip us).length } := inv_startN S hr.hd e0 hl r CA hns kp
  obtain ⟨x, ta, t, ha, ht, ex0, ex, q⟩ := hbody A outer s H vs Q E (hr.deeper _) hsp
  rw [hb]
  refine ks_codeAny_funcAt (ks_wpAt_execs_cons (super_stmt (Qn := fun H1 => t { nx := fun _ H' => Q .non H', rt := Q } (startF N vs [some (.ref D)]) H1) T U I ex0 ex ha q (fun s' H1 J qn => ?_) (hm _) (hs _) (he _) (hpl _)))
  refine wpAt_of_wpAny (wpAny_mono (ht.run [] _ _ H1 _ J qn) (fun fl s' hs => ?_) fun e s' hs => hs)
  have fin : ∀ {σ' : L2.St} {H' : Hp} {v : V} {u : Value}, L2.Inv (ncx CX P w K mg base N F f A outer s H E) [] σ' H' s' → L2.RelV v u → Q v H' → CE outer P w H s Q u s' :=
    fun {σ' H' v u} J rv q => ⟨v, H', J.os, J.bare, J.base, J.hok, rv, q⟩
  cases fl with
  | ret u =>
    obtain ⟨v, σ', H', J, rv, q⟩ := hs
    exact fin J rv q
  | next =>
    obtain ⟨σ', H', J, q⟩ := hs
    exact fin (v := V.non) (u := Value.none) J rfl q
  | brk =>
    obtain ⟨_, _, _, q⟩ := hs
    exact False.elim q
  | cont =>
    obtain ⟨_, _, _, q⟩ := hs
    exact False.elim q
end
end DL
set_option maxRecDepth 100000
set_option maxHeartbeats 1000000
namespace DL
open PySem PySem.Spec PyProof.Rows L2 PySem.W NdefX LamX
/-- what __init__ with one field keeps -/
def spIni (C : Addr) (fl : Str) : Sp := fun vs H Q _ => ∃ x y, vs = [.ref x, y] ∧ H x = some (exo x C none) ∧ ∀ dx, H dx = none → dx ≠ x → Q .non (upd (upd H dx (exd dx [(fl, y)])) x (exo x C (some dx)))
/-- the text of such an __init__: self, one name, its field; where all stands -/
structure IniP where
  a1 : Pos
  a2 : Pos
  s0 : Pos
  s1 : Pos
  s2 : Pos
  s3 : Pos
  s4 : Pos
  s5 : Pos
  q1 : Pos
  q2 : Pos
  q3 : Pos
  q4 : Pos
def iniA (fl : Str) (p : IniP) : Arguments := { posonlyargs := [], args := [{ arg := "self", annotation := none, pos := p.a1 }, { arg := fl, annotation := none, pos := p.a2 }], vararg := none, kwonlyargs := [], kw_defaults := [], kwarg := none, defaults := [] }
def iniB (fl : Str) (p : IniP) : List Stmt := [.Expr (.Call (.Attribute (.Call (.Name "super" p.s0) [] [] p.s1) "__init__" p.s2) [.Name fl p.s3] [] p.s4) p.s5, .Assign [.Attribute (.Name "self" p.q1) fl p.q2] (.Name fl p.q3) p.q4]
section
variable {P : Program} {w : World} {K : Frag} {mg : Str → Option Value} {base : Heap} {F : NF} {f : Addr} {C D cc : Addr} {fd : FuncData} {p : IniP}
/-- __init__(self, place): super().__init__(place); self.place = place -/
theorem place_ok (T : OexC K C) (U : SuF P K mg ["self", "place", "__class__"] F f C D cc "self") (hA : F.params = iniA "place" p) (hB : F.body = iniB "place" p) (S : NScope ["self", "place", "__class__"] ["self", "place"] ["__class__"] F.scope)
    (hk : F.scope.names.lookup ("place" : Str) = some .local) (hno : findIn K (.ref C) "place" = some none)
    {pl : Sem Bool} (hm : ∀ L, eval (.Call (.Attribute (.Call (.Name "super" p.s0) [] [] p.s1) "__init__" p.s2) [.Name "place" p.s3] [] p.s4) (envF F f L) = (do
      let ov ← attributeBase (.Call (.Name "super" p.s0) [] [] p.s1) "__init__" (envF F f L) (eval (.Call (.Name "super" p.s0) [] [] p.s1) (envF F f L))
      standAt p.s2.atName
      let (fn, first) ← holding [ov] (getMethod ov "__init__" pl)
      callWith p.s4 fn first (backTo p.s4 (starEach [.Name "place" p.s3] (envF F f L))) []))
    (hfd : ∃ oc od dV kV doc pm an ct osl, fd = fnX F.name F.qual F.params F.body F.scope F.cl dV kV doc pm an (.ref F.c) ct ∧ K.lookup f = some ⟨oc, od, .func fd, osl⟩) :
    FnOk P w K mg base (L2.CX P w) 1 f fd ["self", "place"] (spIni C "place") := by
  refine fn_super T U S hfd (fun vs H Q E h => ?_) hB hm (fun L => rfl) (fun L => rfl) (fun L => rfl) fun A outer s H vs Q E hr h => ?_
  · obtain ⟨x, y, rfl, _⟩ := h
    rfl
  · obtain ⟨x, y, rfl, hx, q⟩ := h
    refine ⟨x, tCons (tVar 1) tNil, tOst K "place" (tVar 0) (tVar 1), ?_, ?_, rfl, hx, ?_⟩
    · exact pa_cons (pe_var (i := 1) rfl (.inl hk) rfl) pa_nil
    · exact pss_one (ps_ost (pe_var (i := 0) rfl (.inl U.kself) rfl) (pe_var (i := 1) rfl (.inl hk) rfl))
    · exact ⟨y, rfl, (show (1 : Nat) ≤ 1000 by decide), hx, y, rfl, .ref x, rfl, x, C, rfl, T, hno, .inl ⟨hx, fun dx h1 h2 => q dx h1 h2⟩⟩
end
end DL
set_option maxRecDepth 100000
set_option maxHeartbeats 1000000
namespace DL
open PySem PySem.Spec PyProof.Rows L2
/-! ### statements that may raise an error with one field -/
/-- a way out: as before, or raised, with what the field holds -/
inductive FlX where
  | fl (f : Fl)
  | ex (d : PyData)
abbrev SX := En → Src → R FlX
section
variable (K : PySem.W.Frag) (so : SO) (C : Addr) (fld : Str)
/-- what is wished of the error -/
def ExOk (H0 : Hp) (A0 : Addr → Prop) (tv : Sl) (tb : En) (W : WX) (d : PyData) (ρ : En) (S : Src) : Prop :=
  ∀ (σ : Sl) (v : V) (H : Hp) (A : Addr → Prop) (dx : Addr), σ.length = ρ.length → Mt K so H0 A0 S (σ ++ tv ++ [some v]) (ρ ++ tb ++ [some (.imm d)]) H A → H dx = none → W (.ref C) (some dx) σ (upd H dx (.xd [(fld, v)]))
def EndX (H0 : Hp) (A0 : Addr → Prop) (tv : Sl) (tb : En) (D : Ends) (W : WX) (fl : FlX) (ρ : En) (S : Src) : Prop := match fl with
  | .fl f => EndOk K so H0 A0 tv tb D f ρ S
  | .ex d => ExOk K so C fld H0 A0 tv tb W d ρ S
def RdX (W : WX) (t : TS) (g : SX) : Prop := ∀ (H0 : Hp) (A0 : Addr → Prop) (S : Src) (σ : Sl) (ρ : En) (tv : Sl) (tb : En) (H : Hp) (A : Addr → Prop) (D : Ends), σ.length = ρ.length → NB tb → Mt K so H0 A0 S (σ ++ tv) (ρ ++ tb) H A →
  (g ρ S).Post (EndX K so C fld H0 A0 tv tb D W) → t D σ H
end
def xLift (g : SS) : SX := fun ρ S => (g ρ S).bind fun f ρ S => .ok (.fl f) ρ S
def xSeq (g1 g2 : SX) : SX := fun ρ S => (g1 ρ S).bind fun fl ρ S => match fl with
  | .fl .nx => g2 ρ S
  | fl => .ok fl ρ S
def xIf (c : SB) (g1 g2 : SX) : SX := fun ρ S => (c ρ S).bind fun k ρ S => if k = true then g1 ρ S else g2 ρ S
def whX (c : SB) (g : SX) : Nat → SX
  | 0, _, _ => .bad
  | n + 1, ρ, S => (c ρ S).bind fun k ρ S => if k = true then (g ρ S).bind fun fl ρ S => (match fl with
    | .fl .nx => whX c g n ρ S
    | .fl .ct => whX c g n ρ S
    | .fl .bk => .ok (.fl .nx) ρ S
    | fl => .ok fl ρ S) else .ok (.fl .nx) ρ S
def xWhile (c : SB) (g : SX) : SX := whX c g FU
def xRaise (fe : SE) : SX := fun ρ S => (fe ρ S).bind fun b ρ S => match b with
  | .imm d => .ok (.ex d) ρ S
  | _ => .bad
section
variable {K : PySem.W.Frag} {so : SO} {C : Addr} {fld : Str} {W : WX}
theorem rx_lift {t : TS} {g : SS} (h : RdS K so t g) : RdX K so C fld W t (xLift g) := fun H0 A0 S σ ρ tv tb H A D hl nb M q => by
  refine h H0 A0 S σ ρ tv tb H A D hl nb M ?_
  exact (R.post_bind.mp q).imp fun f ρ1 S1 q => q
theorem rx_seq {t u : TS} {g1 g2 : SX} (h1 : RdX K so C fld W t g1) (h2 : RdX K so C fld W u g2) : RdX K so C fld W (tSeq t u) (xSeq g1 g2) := fun H0 A0 S σ ρ tv tb H A D hl nb M h => by
  refine h1 H0 A0 S σ ρ tv tb H A _ hl nb M ?_
  refine (R.post_bind.mp h).imp fun fl ρ1 S1 h => ?_
  cases fl with
  | ex d => exact h
  | fl f =>
    cases f with
    | nx => exact fun σ' H' A' hl' M' => h2 H0 A0 S1 σ' ρ1 tv tb H' A' D hl' nb M' h
    | rt b => exact h
    | bk => exact h
    | ct => exact h
theorem rx_if {tc : TT} {t u : TS} {c : SB} {g1 g2 : SX} (hc : RdT K so tc c) (h1 : RdX K so C fld W t g1) (h2 : RdX K so C fld W u g2) : RdX K so C fld W (tIfS tc t u) (xIf c g1 g2) := fun H0 A0 S σ ρ tv tb H A D hl nb M h => by
  refine hc H0 A0 S σ ρ tv tb H A _ hl M ?_
  refine (R.post_bind.mp h).imp fun k ρ1 S1 h H1 A1 hl1 M1 => ?_
  cases k with
  | true => rw [if_pos rfl] at h ⊢; exact h1 H0 A0 S1 σ ρ1 tv tb H1 A1 D hl1 nb M1 h
  | false => rw [if_neg Bool.false_ne_true] at h ⊢; exact h2 H0 A0 S1 σ ρ1 tv tb H1 A1 D hl1 nb M1 h
theorem rx_while {tc : TT} {t : TS} {c : SB} {g : SX} (hc : RdT K so tc c) (hb : RdX K so C fld W t g) : RdX K so C fld W (tWhile tc t) (xWhile c g) := fun H0 A0 S σ ρ tv tb H A D hl nb M h => by
  refine ⟨fun n σ' H' => ∃ (ρ' : En) (S' : Src) (A' : Addr → Prop), σ'.length = ρ'.length ∧ Mt K so H0 A0 S' (σ' ++ tv) (ρ' ++ tb) H' A' ∧ (whX c g n ρ' S').Post (EndX K so C fld H0 A0 tv tb D W), ⟨FU, ρ, S, A, hl, M, h⟩, ?_⟩
  rintro n σ' H' ⟨ρ', S', A', l, m, po⟩
  cases n with
  | zero => exact po.elim
  | succ n =>
  simp only [whX] at po
  refine hc H0 A0 S' σ' ρ' tv tb H' A' _ l m ?_
  refine (R.post_bind.mp po).imp fun k ρ1 S1 po H1 A1 l1 m1 => ?_
  cases k with
  | false => rw [if_neg Bool.false_ne_true] at po ⊢; exact po σ' H1 A1 l1 m1
  | true =>
  rw [if_pos rfl] at po ⊢
  refine ⟨fun σ' H' => ∃ (ρ' : En) (S' : Src) (A' : Addr → Prop), σ'.length = ρ'.length ∧ Mt K so H0 A0 S' (σ' ++ tv) (ρ' ++ tb) H' A' ∧ (whX c g n ρ' S').Post (EndX K so C fld H0 A0 tv tb D W), fun σ2 H2 q => ⟨n, Nat.lt_succ_self n, q⟩, ?_⟩
  refine hb H0 A0 S1 σ' ρ1 tv tb H1 A1 _ l1 nb m1 ?_
  refine (R.post_bind.mp po).imp fun fl ρ2 S2 po => ?_
  cases fl with
  | ex d => exact po
  | fl f =>
    cases f with
    | nx => exact fun σ5 H5 A5 l5 m5 => ⟨ρ2, S2, A5, l5, m5, po⟩
    | ct => exact fun σ5 H5 A5 l5 m5 => ⟨ρ2, S2, A5, l5, m5, po⟩
    | bk => exact po
    | rt b => exact po
theorem upd_made {H : Hp} {a dx : Addr} {C : Addr} {fld : Str} {y : V} (ha : H a = none) (h2 : dx ≠ a) : upd (del (upd (upd (upd H a (exo a C none)) dx (exd dx [(fld, y)])) a (exo a C (some dx))) a) dx (.xd [(fld, y)]) = upd H dx (.xd [(fld, y)]) := by
  funext b
  by_cases e : b = dx
  · rw [e, upd_same, upd_same]
  · rw [upd_ne e, upd_ne e]
    by_cases e2 : b = a
    · rw [e2, del_same, ha]
    · rw [del_ne e2, upd_ne e2, upd_ne e, upd_ne e2]
theorem rx_raise {te : TE} {fe : SE} (he : RdE K so te fe) : RdX K so C fld W (fun _ σ H => tMkO C (spIni C fld) [] (tCons te tNil) σ H fun cls d H' => W cls d σ H') (xRaise fe) := fun H0 A0 S σ ρ tv tb H A D hl nb M h => by
  refine he H0 A0 S σ ρ tv tb H A _ hl M ?_
  refine (R.post_bind.mp h).imp fun b ρ1 S1 h v H1 A1 hl1 M1 => ?_
  cases b with
  | imm d =>
    refine ⟨(show (1 : Nat) ≤ 1000 by decide), fun a ha => ⟨a, v, rfl, upd_same, fun dx h1 h2 => ⟨rfl, dx, [(fld, v)], upd_same, by rw [upd_ne h2, upd_same], ?_, ?_⟩⟩⟩
    · rw [upd_ne h2] at h1; exact h1
    · rw [upd_made ha h2]
      rw [upd_ne h2] at h1
      exact h σ v H1 A1 dx hl1 M1 h1
  | _ => exact h.elim
end
end DL
set_option maxRecDepth 100000
set_option maxHeartbeats 1000000
namespace DL
open PySem PySem.Spec PyProof.Rows L2
/-! ### defs that may raise -/
structure FnGX (P : Program) (w : World) (K : PySem.W.Frag) (mg : Str → Option Value) (base : Heap) (k : Nat) (f : Addr) (fd : FuncData) (ps : List Str) (sp : Sp) : Prop where
  len : ∀ vs H Q E, sp vs H Q E → vs.length = ps.length
  run : ∀ (A : Around) (outer : List PySem.Env) (s : Shared) (H : Hp) (args : Args) (us : List Value) (vs : List V) (Q : VK) (E : XK), Rm k A → Env0 P w K mg base A outer s H → BindsTo s fd args (ps.zip us) → Vals vs us → sp vs H Q E →
    codeAny (model P w) A (.call (.ref f) args) (CR (L2.CX P w) outer P w H s Q E) s
section
variable {P : Program} {w : World} {K : PySem.W.Frag} {mg : Str → Option Value} {base : Heap}
theorem FnGX.body {x qual : Str} {st : Stmt} {f : Addr} {fd : FuncData} {N ps : List Str} {k : Nat} {sp : Sp} (F : Fun K x qual st f fd) (S : FnScope N ps (defScope st)) (len : ∀ vs H Q E, sp vs H Q E → vs.length = ps.length)
    (hb : ∀ (cdv : Value) (A : Around) (outer : List PySem.Env) (s : Shared) (H : Hp) (vs : List V) (Q : VK) (E : XK), Rm k (A.deeper (envOfC qual (defScope st) s.heap.objs.size f cdv)) → sp vs H Q E →
      ∃ t, PSs (cxOf (L2.CX P w) P w K mg base N qual (defScope st) f cdv A outer s H E) (defBody st) t ∧ t { nx := fun _ H' => Q .non H', rt := Q } (start N vs) H) : FnGX P w K mg base (k + 1) f fd ps sp := by
  obtain ⟨oc, od, kV, doc, pm, an, cdv, ct, osl, rfl, lk, hcd⟩ := F.ex
  constructor
  · exact len
  intro A outer s H args us vs Q E hr e0 hbd r hsp
  have hl := len _ _ _ _ hsp
  have hin : K.In s.heap := e0.mod.kin.keeps fun b o e => (e0.bs b o e).1
  have hlim : s.heap.NoLimit := e0.mod.nolimit.keeps fun b o e => (e0.bs b o e).1
  have kinds : ∀ y ∈ ps.zip us, (defScope st).names.lookup y.1 = some .local ∨ ((defScope st).names.lookup y.1 = some .cell ∧ ((cellsFrom (s.heap.objs.size + 1) (defScope st).names []).lookup y.1).isSome = true) := by
    rintro ⟨n, v⟩ hy
    exact (S.par n (List.of_mem_zip hy).1).imp id fun q => ⟨q, PySem.W.cellsFrom_some _ _ _ (.inl q)⟩
  apply codeAny_call_function hr.room.depth (hin _ _ lk) rfl S.co S.gen rfl (PySem.W.codeRec_of hin hcd) (hbd _ _ _ _ ?_)
  apply wpAny_newFunctionEnv_cells S.kind kinds
  rintro env rfl s1 x
  refine ⟨hlim.keeps x.toInCall.keep, codeAny_func ?_⟩
  obtain ⟨t, ht, hq⟩ := hb cdv A outer s H vs Q E (hr.deeper _) hsp
  have I0 : L2.Inv (cxOf (L2.CX P w) P w K mg base N qual (defScope st) f cdv A outer s H E) [] (start N vs) H s1 := inv_start S hr.room.hd e0 hl r x
  refine wpAny_mono (ht.run [] s1 (start N vs) H _ I0 hq) ?_ fun e s' hs => hs
  intro fl s' hs
  cases fl with
  | ret u => obtain ⟨v, σ', H', J, rv, q⟩ := hs; exact ⟨v, H', J.os, J.bare, J.base, J.hok, rv, q⟩
  | next => obtain ⟨σ', H', J, q⟩ := hs; exact ⟨V.non, H', J.os, J.bare, J.base, J.hok, rfl, q⟩
  | brk => obtain ⟨_, _, _, q⟩ := hs; exact q.elim
  | cont => obtain ⟨_, _, _, q⟩ := hs; exact q.elim
end
section
variable {X : Cx} {k : Nat} {f : Addr} {fd : FuncData} {ps : List Str} {sp : Sp} {x : Str} {p pos : Pos} {e : Expr} {es : List Expr} {t : TA} {E : L2.St → XK}
theorem runGX {pins : List (Addr × Obj)} {σ : Sl} {H : Hp} {s : Shared} {Q : VK} {us : List Value} {vs : List V} (F : FnGX X.prog X.w X.K X.mg X.base k f fd ps sp) (hr : Rm k X.A) (hb : Binds X.K fd ps []) (hx : PassesAt (L2.CX X.prog X.w) X σ (E σ))
    (I : L2.Inv X pins σ H s) (r : Vals vs us) (h : sp vs H Q (E σ)) : wpAny (model X.prog X.w) X.A (call (.ref f) us) (EP X pins σ Q) X.xe s := by
  have hl : us.length = ps.length := by rw [← r.length]; exact F.len _ _ _ _ h
  have b := hb s us I.kIn (by rw [List.append_nil]; exact hl)
  rw [List.append_nil] at b
  refine wpAny_call (codeAny_mono (F.run X.A X.stack s H ⟨us, []⟩ us vs Q (E σ) hr I.env0 b r h) fun r s' hq => ?_)
  cases r with
  | error e => exact hx pins H s e s' I hq
  | ok fl =>
    cases fl with
    | ret u => exact I.after hq
    | next => exact False.elim hq
    | brk => exact False.elim hq
    | cont => exact False.elim hq
theorem pe_callGX (F : FnGX X.prog X.w X.K X.mg X.base k f fd ps sp) (hr : Rm k X.A) (hg : Gl X x) (hm : X.mg x = some (.ref f)) (hk : PySem.W.keepIn X.K (.ref f) = true) (hb : Binds X.K fd ps []) (hx : ∀ σ, PassesAt (L2.CX X.prog X.w) X σ (E σ))
    (ha : PA X (e :: es) t) (hdb : (x == ("__debug__" : Str)) = false := by decide) (he : starEach (e :: es) X.env = (false, eval e X.env) :: starEach es X.env := by rfl) (hpl : (backTo pos (starEach es X.env)).any (·.1) = false := by rfl) :
    PE X (.Call (.Name x p) (e :: es) [] pos) (tCallS sp E t) := by
  refine ⟨fun pins s σ H Q I h => ?_⟩
  refine wpAny_Call_Name_kw (ld_glob I hg hm ?_ hdb)
  refine PySem.W.callWith_K (h₀ := X.base) I.ok.mod.kin hk (thn (ha.run pos pins s σ H _ I h) fun us s1 ⟨vs, H1, I1, r, q⟩ => ⟨I1.kIn, ?_⟩) he hpl
  exact runGX F hr hb (hx σ) I1 r q
end
/-- a def by data, a field's data where it raises -/
abbrev FDX := List Bd → Src → Option ((Bd ⊕ PyData) × Src)
def spX (K : PySem.W.Frag) (so : SO) (C : Addr) (fld : Str) (F : FDX) : Sp := fun vs H Q E => ∃ (bs : List Bd) (S : Src) (A : Addr → Prop), Mt K so H A S (vs.map some) (bs.map some) H A ∧
  match F bs S with
  | some (.inl b, S') => ∀ v H' A', Mt K so H A S' [some v] [some b] H' A' → Q v H'
  | some (.inr d, S') => ∀ v H' A' dx, Mt K so H A S' [some v] [some (.imm d)] H' A' → H' dx = none → E (.ref C) (some dx) (upd H' dx (.xd [(fld, v)]))
  | none => False
def runX (m n : Nat) (g : SX) : FDX := fun bs S => if (decide (bs.length = m) && bs.all fun b => !b.own && !b.isBor) = true then match g (bs.map some ++ List.replicate (n - m) none) S with
  | .ok (.fl (.rt b)) _ S' => some (.inl b, S')
  | .ok (.fl .nx) _ S' => some (.inl (.imm .none), S')
  | .ok (.ex d) _ S' => some (.inr d, S')
  | _ => none else none
section
variable {P : Program} {w : World} {K : PySem.W.Frag} {mg : Str → Option Value} {base : Heap}
theorem runX_some {m n : Nat} {g : SX} {bs : List Bd} {S S' : Src} {r : Bd ⊕ PyData} (h : runX m n g bs S = some (r, S')) : bs.length = m ∧
    ((∃ ρ b, r = .inl b ∧ g (bs.map some ++ List.replicate (n - m) none) S = .ok (.fl (.rt b)) ρ S') ∨ (r = .inl (.imm .none) ∧ ∃ ρ, g (bs.map some ++ List.replicate (n - m) none) S = .ok (.fl .nx) ρ S') ∨ ∃ ρ d, r = .inr d ∧ g (bs.map some ++ List.replicate (n - m) none) S = .ok (.ex d) ρ S') := by
  unfold runX at h
  by_cases hc : (decide (bs.length = m) && bs.all fun b => !b.own && !b.isBor) = true
  · rw [if_pos hc] at h
    simp only [Bool.and_eq_true, decide_eq_true_eq] at hc
    refine ⟨hc.1, ?_⟩
    cases eg : g (bs.map some ++ List.replicate (n - m) none) S with
    | bad => rw [eg] at h; cases h
    | ok fl ρ S2 =>
      rw [eg] at h
      cases fl with
      | ex d => cases h; exact .inr (.inr ⟨ρ, d, rfl, rfl⟩)
      | fl f =>
        cases f with
        | nx => cases h; exact .inr (.inl ⟨rfl, ρ, rfl⟩)
        | rt c => cases h; exact .inl ⟨ρ, c, rfl, rfl⟩
        | bk => cases h
        | ct => cases h
  · rw [if_neg hc] at h
    cases h
theorem fn_x {x qual : Str} {st : Stmt} {f : Addr} {fd : FuncData} {N ps : List Str} {k : Nat} {g : SX} {C : Addr} {fld : Str} (so : SO) (F : Fun K x qual st f fd) (S : FnScope N ps (defScope st))
    (hb : ∀ (cdv : Value) (A : Around) (outer : List PySem.Env) (s : Shared) (H : Hp) (E : XK), Rm k (A.deeper (envOfC qual (defScope st) s.heap.objs.size f cdv)) →
      ∃ t, PSs (cxOf (L2.CX P w) P w K mg base N qual (defScope st) f cdv A outer s H E) (defBody st) t ∧ RdX K so C fld (fun cls d _ H => E cls d H) t g) : FnGX P w K mg base (k + 1) f fd ps (spX K so C fld (runX ps.length N.length g)) := by
  refine FnGX.body F S (fun vs H Q E h => ?_) fun cdv A outer s H vs Q E hr h => ?_
  · obtain ⟨bs, S', A', M, h⟩ := h
    cases e : runX ps.length N.length g bs S' with
    | none => rw [e] at h; exact h.elim
    | some r =>
      have := (runX_some (r := r.1) (S' := r.2) e).1
      have := M.len
      simp at this
      omega
  · obtain ⟨t, ht, hrd⟩ := hb cdv A outer s H E hr
    refine ⟨t, ht, ?_⟩
    obtain ⟨bs, S', A', M, h⟩ := h
    cases e : runX ps.length N.length g bs S' with
    | none => rw [e] at h; exact h.elim
    | some r =>
    obtain ⟨b, S2⟩ := r
    rw [e] at h
    obtain ⟨hc, hg⟩ := runX_some e
    have hvl : vs.length = bs.length := by have := M.len; simpa using this
    have M1 : Mt K so H A' S' (L2.start N vs) (bs.map some ++ List.replicate (N.length - ps.length) none) H A' := by
      have := M.nones (N.length - ps.length)
      unfold L2.start
      rw [hvl, hc]
      exact this
    have rd := hrd H A' S' (L2.start N vs) _ [] [] H A' { nx := fun _ H' => Q .non H', rt := Q } (by have := M1.len; exact this) (fun b hb => nomatch hb) (by rw [List.append_nil, List.append_nil]; exact M1)
    have only : ∀ {σ : Sl} {ρ : En} {v : V} {b : Bd} {H2 : Hp} {A2 : Addr → Prop}, σ.length = ρ.length → Mt K so H A' S2 (σ ++ [some v]) (ρ ++ [some b]) H2 A2 → Mt K so H A' S2 [some v] [some b] H2 A2 := fun {σ ρ v b H2 A2} l m =>
      Mt.cut (σ := []) (ρ := []) (xs := σ) (ys := ρ) m rfl l
    refine rd ?_
    rcases hg with ⟨ρ, b, rfl, eg⟩ | ⟨rfl, ρ, eg⟩ | ⟨ρ, d, rfl, eg⟩
    · rw [eg]
      intro σ v H2 A2 l m
      exact h v H2 A2 (only l (by have m' := m; rw [List.append_nil, List.append_nil] at m'; exact m'))
    · rw [eg]
      intro σ H2 A2 l m
      exact h .non H2 A2 (only (σ := σ) (ρ := ρ) l (Mt.pushI (b := .imm .none) (by have m' := m; rw [List.append_nil, List.append_nil] at m'; exact m') Den.non rfl))
    · rw [eg]
      intro σ v H2 A2 dx l m hdx
      exact h v H2 A2 dx (only l (by have m' := m; rw [List.append_nil, List.append_nil] at m'; exact m')) hdx
end
end DL
set_option maxRecDepth 100000
set_option maxHeartbeats 1000000
namespace DL
open PySem PySem.Spec PyProof.Rows L2
/-! ### try: return f(..) / except X as e: return e.field -/
/-- what is handed back either way -/
def joinX (F : FDX) : FD := fun bs S => match F bs S with
  | some (.inl b, S') => some (b, S')
  | some (.inr d, S') => some (.imm d, S')
  | none => none
def MonoA (ta : TA) : Prop := ∀ (σ : L2.St) (H : Hp) (Q Q' : List V → Hp → Prop), (∀ vs H1, Q vs H1 → Q' vs H1) → ta σ H Q → ta σ H Q'
theorem mono_nil : MonoA tNil := fun _ _ _ _ h q => h _ _ q
theorem mono_var {i : Nat} {ta : TA} (h : MonoA ta) : MonoA (tCons (tVar i) ta) := fun σ H Q Q' k q => by
  obtain ⟨v, e, q⟩ := q
  exact ⟨v, e, h σ H _ _ (fun vs H1 z => k _ _ z) q⟩
section
variable {K : PySem.W.Frag} {so : SO} {C : Addr} {fld : Str} {F : FDX}
theorem spX_of {vs : List V} {H : Hp} {R : VK} {E : XK} (h : spD K so (joinX F) vs H R E0) (hE : ∀ (v : V) (H' : Hp) (dx : Addr), R v (upd H' dx (.xd [(fld, v)])) → E (.ref C) (some dx) (upd H' dx (.xd [(fld, v)]))) : spX K so C fld F vs H R E := by
  obtain ⟨bs, S, A, M, h⟩ := h
  refine ⟨bs, S, A, M, ?_⟩
  unfold joinX at h
  cases e : F bs S with
  | none => rw [e] at h; exact h.elim
  | some r =>
    obtain ⟨b, S'⟩ := r
    rw [e] at h
    cases b with
    | inl b => exact h
    | inr d => exact fun v H' A' dx M' hd => hE v H' dx (h v _ A' (M'.new hd))
def gTryR (i : Nat) (F : FDX) (fa : SA) : SS := fun ρ S => if i < ρ.length then gRet (fCall (joinX F) fa) ρ S else .bad
/-- the suite: return e.fld -/
def tSui (C : Addr) (fld : Str) (i : Nat) : Addr → Value → Option Addr → TS := fun a cls d => tRet (tXf a cls d C fld (tVar i))
theorem rds_try {ta : TA} {fa : SA} {i : Nat} (hm : PySem.W.exmOne K (.ref C) (.ref C) = some true) (mo : MonoA ta) (ha : RdA K so ta fa) :
    RdS K so (fun D σ H => σ.length > i ∧ tRet (tCallS (spX K so C fld F) (WE (wAs K (.ref C) i (tSui C fld i) (fun _ _ _ _ => False) D)) ta) D σ H) (gTryR i F fa) := fun H0 A0 S σ ρ tv tb H A D hl nb M h => by
  unfold gTryR at h
  split at h
  · rename_i hi
    refine ⟨by omega, ?_⟩
    have r := rds_ret (rd_call (F := joinX F) ha) H0 A0 S σ ρ tv tb H A D hl nb M h
    refine mo σ H _ _ (fun vs H1 q => spX_of q fun v H' dx z => ?_) r
    refine ⟨true, hm, fun _ a hz => ?_, fun q => Bool.noConfusion q⟩
    refine ⟨.ref a, by rw [List.getElem?_set_self (by omega)], rfl, rfl, dx, _, v, rfl, upd_same, by simp [List.lookup], z⟩
  · exact h.elim
end
section
variable {X : Cx} {so : SO} {C : Addr} {fld fx cx n : Str} {F : FDX} {k i : Nat} {f : Addr} {fd : FuncData} {ps : List Str} {e : Expr} {es : List Expr} {ta : TA} {fa : SA} {p1 p2 p3 p4 p5 p6 p7 p8 p9 : Pos}
theorem ds_tryRet (hs : X.stack = X.env :: X.outer) (hf : X.env.frame = some X.env.locals) (hN : X.N.Nodup) (hi : X.N[i]? = some n) (hln : X.env.kindOf n = some .local) (hc : Names X cx (.ref C)) (xf : XfC X.K C) (hno : PySem.W.findIn X.K (.ref C) fld = some none)
    (hm : PySem.W.exmOne X.K (.ref C) (.ref C) = some true) (G : FnGX X.prog X.w X.K X.mg X.base k f fd ps (spX X.K so C fld F)) (hr : Rm k X.A) (hg : Gl X fx) (mf : X.mg fx = some (.ref f)) (hk : PySem.W.keepIn X.K (.ref f) = true) (hb : Binds X.K fd ps [])
    (mo : MonoA ta) (rA : RdA X.K so ta fa) (pA : ∀ (W : WX) (pn : List (Addr × Obj)) (xe : Value → Shared → Prop), PA (X.tr pn xe) (e :: es) ta)
    (hdb : (fx == ("__debug__" : Str)) = false := by decide) (he : starEach (e :: es) X.env = (false, eval e X.env) :: starEach es X.env := by rfl) (hpl : (backTo p4 (starEach es X.env)).any (·.1) = false := by rfl)
    (hab : attributeBase (.Name n p7) fld X.env (eval (.Name n p7) X.env) = eval (.Name n p7) X.env := by rfl) (hnd : (n == ("__debug__" : Str)) = false := by decide) (hcd : (n == ("__classdict__" : Str)) = false := by decide) :
    DS X so (.Try [.Return (some (.Call (.Name fx p1) (e :: es) [] p4)) p2] [.ExceptHandler (some (.Name cx p3)) (some n) [.Return (some (.Attribute (.Name n p7) fld p8)) p9] p5] [] [] p6)
      (fun D σ H => σ.length > i ∧ tRet (tCallS (spX X.K so C fld F) (WE (wAs X.K (.ref C) i (tSui C fld i) (fun _ _ _ _ => False) D)) ta) D σ H) (gTryR i F fa) := by
  refine ⟨?_, rds_try hm mo rA⟩
  have q := ps_try_as (X := X) (pos := p6) (pos' := p5) (np := p3) (tb := fun W => tRet (tCallS (spX X.K so C fld F) (WE W) ta)) (ts := tSui C fld i) (Wout := fun _ _ _ _ => False) (body := [.Return (some (.Call (.Name fx p1) (e :: es) [] p4)) p2]) (b₀ := .Return (some (.Attribute (.Name n p7) fld p8)) p9) (suite := [])
    hs hf hN hi hln hc takes0 (fun W pn xe tk _ => pss_one (ps_ret (pe_callGX (X := X.tr pn xe) G hr hg mf hk hb (fun σ => passAt tk σ) (pA W pn xe) hdb he hpl))) (fun a oe cls d pn hz hf => pss_one (ps_ret (pe_xf xf hno hz hf (pe_var (i := i) hi (.inl hln) hnd hcd) hab)))
  exact ⟨fun pins s σ H D I h => q.run pins s σ H D I h.2⟩
end
end DL
set_option maxRecDepth 100000
set_option maxHeartbeats 1000000
namespace DL
open PySem PySem.Spec PyProof.Rows L2
/-! ### a tuple of texts of the module's own -/
def strsV : List Value → Option (List Str)
  | [] => some []
  | .str x _ :: r => (strsV r).map (x :: ·)
  | _ => none
def strTup (K : PySem.W.Frag) (a : Addr) : Option (List Str) := match K.lookup a with
  | some o => if o.cls = .type "tuple" then (match o.data with
    | .seq its _ => strsV its.toList
    | _ => none) else none
  | none => none
section
variable {K : PySem.W.Frag}
theorem strsV_vals : ∀ {us : List Value} {ys : List Str}, strsV us = some ys → Vals (ys.map V.str) us
  | [], ys, h => by cases h; exact .nil
  | u :: us, ys, h => by
    cases u with
    | str x t =>
      simp only [strsV] at h
      cases hr : strsV us with
      | none => rw [hr] at h; cases h
      | some zs => rw [hr] at h; cases h; exact .cons ⟨t, rfl⟩ (strsV_vals hr)
    | _ => simp [strsV] at h
theorem dpAll_strs {H : Hp} : ∀ ys : List Str, DpAll K H (ys.map V.str) (ys.map PyData.str)
  | [] => .nil
  | y :: ys => .cons (.str y) (dpAll_strs ys)
theorem dp_strs {a : Addr} {ys : List Str} (h : strTup K a = some ys) (hl : ys.length ≤ 1000) : Dp K (fun _ => none) (.ref a) (.tuple (ys.map .str)) := by
  unfold strTup at h
  split at h
  · rename_i o ho
    split at h
    · rename_i hc
      split at h
      · rename_i its n hd
        have v := strsV_vals h
        refine .tup (.inr ⟨o, its, n, ho, hc, hd, ?_, v⟩) (dpAll_strs ys)
        have := v.length
        rw [List.length_map] at this
        have : its.size = ys.length := by rw [← Array.length_toList]; exact this.symm
        rw [this, sizeLine_eq]
        omega
      · cases h
    · cases h
  · cases h
end
end DL
set_option maxRecDepth 100000
set_option maxHeartbeats 1000000
namespace DL
open PySem PySem.Spec PyProof.Rows L2
/-- what is known of an own error class with one field -/
structure ErrF (P : Program) (K : PySem.W.Frag) (mg : Str → Option Value) (x fld : Str) (C fI : Addr) (fdI : FuncData) : Prop where
  g : mg x = some (.ref C)
  T : OexC K C
  xf : XfC K C
  no : PySem.W.findIn K (.ref C) fld = some none
  iC : PySem.W.findIn K (.ref C) "__init__" = some (some (.ref fI))
  tI : PySem.W.typeIn K (.ref fI) = some (.type "function")
  te : PySem.W.exmOne K (.ref C) (.ref C) = some true
  b : Binds K fdI ["self", fld] []
  ok : ∀ (w : World) (base : Heap), FnOk P w K mg base (L2.CX P w) 1 fI fdI ["self", fld] (spIni C fld)
structure DX (X : Cx) (so : SO) (C : Addr) (fld : Str) (W : WX) (st : Stmt) (t : TS) (g : SX) : Prop where
  ps : PS X st t
  rd : RdX X.K so C fld W t g
structure DXs (X : Cx) (so : SO) (C : Addr) (fld : Str) (W : WX) (st : List Stmt) (t : TS) (g : SX) : Prop where
  pss : PSs X st t
  rd : RdX X.K so C fld W t g
section
variable {X : Cx} {so : SO} {C : Addr} {fld : Str} {W : WX} {st : Stmt} {sts rest : List Stmt} {t u : TS} {g h : SS} {gx hx : SX}
theorem dx_lift (d : DS X so st t g) : DX X so C fld W st t (xLift g) := ⟨d.ps, rx_lift d.rd⟩
theorem dxs_lift (d : DSs X so sts t g) : DXs X so C fld W sts t (xLift g) := ⟨d.pss, rx_lift d.rd⟩
theorem dxs_cons (a : DX X so C fld W st t gx) (b : DXs X so C fld W rest u hx) : DXs X so C fld W (st :: rest) (tSeq t u) (xSeq gx hx) := ⟨pss_cons a.ps b.pss, rx_seq a.rd b.rd⟩
theorem dxs_one (a : DX X so C fld W st t gx) : DXs X so C fld W [st] t gx := ⟨pss_one a.ps, a.rd⟩
variable {pos : Pos} {c : Expr} {tc : TT} {fc : SB} {a b : List Stmt}
theorem dx_if (hc : DT X so c tc fc) (ha : DXs X so C fld W a t gx) (hb : DXs X so C fld W b u hx) : DX X so C fld W (.If c a b pos) (tIfS tc t u) (xIf fc gx hx) := ⟨ps_if hc.pt ha.pss hb.pss, rx_if hc.rd ha.rd hb.rd⟩
theorem dx_while (hp : PassesOwn (model X.prog X.w) X.A X.env X.xe) (hc : DT X so c tc fc) (hb : DXs X so C fld W a t gx) : DX X so C fld W (.While c a [] pos) (tWhile tc t) (xWhile fc gx) := ⟨ps_while hp hc.pt hb.pss, rx_while hc.rd hb.rd⟩
theorem dx_raise {x : Str} {fI : Addr} {fdI : FuncData} {e : Expr} {te : TE} {fe : SE} {p1 p2 pos2 : Pos} (hc : X.calm = true) (er : ErrF X.prog X.K X.mg x fld C fI fdI) (hr : Rm 2 X.A) (tk : Takes X W) (he : DE X so e te fe) (hg : Gl X x := by rfl)
    (hdb : (x == ("__debug__" : Str)) = false := by decide) (hs : starEach [e] X.env = (false, eval e X.env) :: starEach [] X.env := by rfl) (hpl : (backTo p2 (starEach [] X.env)).any (·.1) = false := by rfl) :
    DX X so C fld W (.Raise (some (.Call (.Name x p1) [e] [] p2)) none pos2) (fun _ σ H => tMkO C (spIni C fld) [] (tCons te tNil) σ H fun cls d H' => W cls d σ H') (xRaise fe) :=
  ⟨ps_raise hc tk (pmk_oex er.T er.iC er.tI (er.ok X.w X.base) hr.room er.b .nil (passes_call tk fun _ _ _ _ z => z.elim) hg er.g (pa_cons he.pe pa_nil hs) hdb hs hpl), rx_raise he.rd⟩
end
end DL
set_option maxRecDepth 100000
set_option maxHeartbeats 4000000
namespace Lw
open PySem PySem.Spec PyProof.Rows L2 DL
def topS (i : Nat) : Stmt := PySem.Challenge.pw_camefrom_k01_lexemes.main.body.getD i (.Pass ⟨0, 0, 0, 0⟩)
abbrev s__law_source : Stmt := topS 15
abbrev N__law_source : List Str := ["script", "mixed", "cell"]
theorem sc__law_source : FnScope N__law_source ["script"] (defScope s__law_source) := ⟨rfl, rfl, rfl, by decide +kernel, rfl, by decide +kernel, by decide +kernel⟩
abbrev s__law_pick : Stmt := topS 16
abbrev N__law_pick : List Str := ["source", "many", "left", "mixed"]
theorem sc__law_pick : FnScope N__law_pick ["source", "many"] (defScope s__law_pick) := ⟨rfl, rfl, rfl, by decide +kernel, rfl, by decide +kernel, by decide +kernel⟩
abbrev s__law_of : Stmt := topS 17
abbrev N__law_of : List Str := ["source", "some"]
theorem sc__law_of : FnScope N__law_of ["source", "some"] (defScope s__law_of) := ⟨rfl, rfl, rfl, by decide +kernel, rfl, by decide +kernel, by decide +kernel⟩
abbrev s_run_behind : Stmt := topS 10
abbrev N_run_behind : List Str := ["text", "place", "signs"]
theorem sc_run_behind : FnScope N_run_behind ["text", "place", "signs"] (defScope s_run_behind) := ⟨rfl, rfl, rfl, by decide +kernel, rfl, by decide +kernel, by decide +kernel⟩
abbrev s_lexeme_from : Stmt := topS 11
abbrev N_lexeme_from : List Str := ["text", "place", "end"]
theorem sc_lexeme_from : FnScope N_lexeme_from ["text", "place"] (defScope s_lexeme_from) := ⟨rfl, rfl, rfl, by decide +kernel, rfl, by decide +kernel, by decide +kernel⟩
abbrev s_lexemes : Stmt := topS 12
abbrev N_lexemes : List Str := ["text", "found", "here"]
theorem sc_lexemes : FnScope N_lexemes ["text"] (defScope s_lexemes) := ⟨rfl, rfl, rfl, by decide +kernel, rfl, by decide +kernel, by decide +kernel⟩
abbrev s__law_piece : Stmt := topS 18
abbrev N__law_piece : List Str := ["source", "some"]
theorem sc__law_piece : FnScope N__law_piece ["source"] (defScope s__law_piece) := ⟨rfl, rfl, rfl, by decide +kernel, rfl, by decide +kernel, by decide +kernel⟩
abbrev s_is_name : Stmt := topS 13
abbrev N_is_name : List Str := ["value", "sign"]
theorem sc_is_name : FnScope N_is_name ["value"] (defScope s_is_name) := ⟨rfl, rfl, rfl, by decide +kernel, rfl, by decide +kernel, by decide +kernel⟩
abbrev s__law_kept : Stmt := topS 22
abbrev N__law_kept : List Str := ["found"]
theorem sc__law_kept : FnScope N__law_kept [] (defScope s__law_kept) := ⟨rfl, rfl, rfl, by decide +kernel, rfl, by decide +kernel, by decide +kernel⟩
abbrev s__law_names_right : Stmt := topS 23
abbrev N__law_names_right : List Str := ["source", "some", "odd"]
theorem sc__law_names_right : FnScope N__law_names_right ["source"] (defScope s__law_names_right) := ⟨rfl, rfl, rfl, by decide +kernel, rfl, by decide +kernel, by decide +kernel⟩
abbrev s__law_told : Stmt := topS 21
abbrev N__law_told : List Str := ["text", "error"]
theorem sc__law_told : FnScope N__law_told ["text"] (defScope s__law_told) := ⟨rfl, rfl, rfl, by decide +kernel, rfl, by decide +kernel, by decide +kernel⟩
abbrev s__law_odd : Stmt := topS 19
abbrev N__law_odd : List Str := ["source", "some"]
theorem sc__law_odd : FnScope N__law_odd ["source"] (defScope s__law_odd) := ⟨rfl, rfl, rfl, by decide +kernel, rfl, by decide +kernel, by decide +kernel⟩
abbrev s__law_read : Stmt := topS 20
abbrev N__law_read : List Str := ["text", "found", "word", "at", "letters", "k", "sign"]
theorem sc__law_read : FnScope N__law_read ["text"] (defScope s__law_read) := ⟨rfl, rfl, rfl, by decide +kernel, rfl, by decide +kernel, by decide +kernel⟩
abbrev s_law : Stmt := topS 24
abbrev N_law : List Str := ["script", "source", "turn", "text", "k", "one", "other"]
theorem sc_law : FnScope N_law ["script"] (defScope s_law) := ⟨rfl, rfl, rfl, by decide +kernel, rfl, by decide +kernel, by decide +kernel⟩
def c_KEPT : List Str := [("again" : Str), ("alike" : Str), ("as" : Str), ("at" : Str), ("back" : Str), ("beside" : Str), ("blocks" : Str), ("crossed" : Str), ("crosses" : Str), ("domain" : Str), ("else" : Str), ("feed" : Str), ("first" : Str), ("fits" : Str), ("from" : Str), ("goes" : Str), ("grow" : Str), ("halt" : Str), ("hears" : Str), ("if" : Str), ("kept" : Str), ("last" : Str), ("left" : Str), ("lot" : Str), ("many" : Str), ("mirrored" : Str), ("none" : Str), ("of" : Str), ("once" : Str), ("parts" : Str), ("piece" : Str), ("pipe" : Str), ("program" : Str), ("promise" : Str), ("reads" : Str), ("rim" : Str), ("right" : Str), ("row" : Str), ("sequence" : Str), ("sheet" : Str), ("silent" : Str), ("stores" : Str), ("table" : Str), ("then" : Str), ("turned" : Str), ("walker" : Str), ("where" : Str), ("within" : Str), ("without" : Str), ("writes" : Str), ("yes" : Str)]
structure TD where
  a_KEPT : Addr
  bC : Addr
  bI : Addr
  bfd : FuncData
  f__law_source : Addr
  d__law_source : FuncData
  f__law_pick : Addr
  d__law_pick : FuncData
  f__law_of : Addr
  d__law_of : FuncData
  f_run_behind : Addr
  d_run_behind : FuncData
  f_lexeme_from : Addr
  d_lexeme_from : FuncData
  f_lexemes : Addr
  d_lexemes : FuncData
  f__law_piece : Addr
  d__law_piece : FuncData
  f_is_name : Addr
  d_is_name : FuncData
  f__law_kept : Addr
  d__law_kept : FuncData
  f__law_names_right : Addr
  d__law_names_right : FuncData
  f__law_told : Addr
  d__law_told : FuncData
  f__law_odd : Addr
  d__law_odd : FuncData
  f__law_read : Addr
  d__law_read : FuncData
  f_law : Addr
  d_law : FuncData
structure Tx (P : Program) (K : PySem.W.Frag) (mg : Str → Option Value) (t : TD) : Prop where
  F__law_source : Fun K "_law_source" "_law_source" s__law_source t.f__law_source t.d__law_source
  m__law_source : mg "_law_source" = some (.ref t.f__law_source)
  b__law_source : Binds K t.d__law_source ["script"] []
  F__law_pick : Fun K "_law_pick" "_law_pick" s__law_pick t.f__law_pick t.d__law_pick
  m__law_pick : mg "_law_pick" = some (.ref t.f__law_pick)
  b__law_pick : Binds K t.d__law_pick ["source", "many"] []
  F__law_of : Fun K "_law_of" "_law_of" s__law_of t.f__law_of t.d__law_of
  m__law_of : mg "_law_of" = some (.ref t.f__law_of)
  b__law_of : Binds K t.d__law_of ["source", "some"] []
  F_run_behind : Fun K "run_behind" "run_behind" s_run_behind t.f_run_behind t.d_run_behind
  m_run_behind : mg "run_behind" = some (.ref t.f_run_behind)
  b_run_behind : Binds K t.d_run_behind ["text", "place", "signs"] []
  F_lexeme_from : Fun K "lexeme_from" "lexeme_from" s_lexeme_from t.f_lexeme_from t.d_lexeme_from
  m_lexeme_from : mg "lexeme_from" = some (.ref t.f_lexeme_from)
  b_lexeme_from : Binds K t.d_lexeme_from ["text", "place"] []
  F_lexemes : Fun K "lexemes" "lexemes" s_lexemes t.f_lexemes t.d_lexemes
  m_lexemes : mg "lexemes" = some (.ref t.f_lexemes)
  b_lexemes : Binds K t.d_lexemes ["text"] []
  F__law_piece : Fun K "_law_piece" "_law_piece" s__law_piece t.f__law_piece t.d__law_piece
  m__law_piece : mg "_law_piece" = some (.ref t.f__law_piece)
  b__law_piece : Binds K t.d__law_piece ["source"] []
  F_is_name : Fun K "is_name" "is_name" s_is_name t.f_is_name t.d_is_name
  m_is_name : mg "is_name" = some (.ref t.f_is_name)
  b_is_name : Binds K t.d_is_name ["value"] []
  F__law_kept : Fun K "_law_kept" "_law_kept" s__law_kept t.f__law_kept t.d__law_kept
  m__law_kept : mg "_law_kept" = some (.ref t.f__law_kept)
  b__law_kept : Binds K t.d__law_kept [] []
  F__law_names_right : Fun K "_law_names_right" "_law_names_right" s__law_names_right t.f__law_names_right t.d__law_names_right
  m__law_names_right : mg "_law_names_right" = some (.ref t.f__law_names_right)
  b__law_names_right : Binds K t.d__law_names_right ["source"] []
  F__law_told : Fun K "_law_told" "_law_told" s__law_told t.f__law_told t.d__law_told
  m__law_told : mg "_law_told" = some (.ref t.f__law_told)
  b__law_told : Binds K t.d__law_told ["text"] []
  F__law_odd : Fun K "_law_odd" "_law_odd" s__law_odd t.f__law_odd t.d__law_odd
  m__law_odd : mg "_law_odd" = some (.ref t.f__law_odd)
  b__law_odd : Binds K t.d__law_odd ["source"] []
  F__law_read : Fun K "_law_read" "_law_read" s__law_read t.f__law_read t.d__law_read
  m__law_read : mg "_law_read" = some (.ref t.f__law_read)
  b__law_read : Binds K t.d__law_read ["text"] []
  F_law : Fun K "law" "law" s_law t.f_law t.d_law
  m_law : mg "law" = some (.ref t.f_law)
  b_law : Binds K t.d_law ["script"] []
  z_abs : mg "abs" = none
  z_all : mg "all" = none
  z_enumerate : mg "enumerate" = none
  z_int : mg "int" = none
  z_isinstance : mg "isinstance" = none
  z_len : mg "len" = none
  z_max : mg "max" = none
  z_range : mg "range" = none
  z_repr : mg "repr" = none
  z_str : mg "str" = none
  c_BLANKS : ∃ tk, mg "BLANKS" = some (.str " \n" tk)
  c_FIGURES : ∃ tk, mg "FIGURES" = some (.str "0123456789" tk)
  c_MOST_LETTERS : ∃ tk, mg "MOST_LETTERS" = some (.int 12 tk)
  c_SIGNS : ∃ tk, mg "SIGNS" = some (.str ",:;-" tk)
  c_SMALL : ∃ tk, mg "SMALL" = some (.str "abcdefghijklmnopqrstuvwxyz" tk)
  g_KEPT : mg "KEPT" = some (.ref t.a_KEPT)
  w_KEPT : strTup K t.a_KEPT = some c_KEPT
  err : ErrF P K mg "BadText" "place" t.bC t.bI t.bfd
section
variable {P : Program} {w : World} {K : PySem.W.Frag} {mg : Str → Option Value} {base : Heap} {t : TD}
/-- the source is made anew -/
def spSource (K : PySem.W.Frag) : Sp := fun vs H Q _ => ∃ (a : Addr) (ns : List Int), vs = [.ref a] ∧ SqL K H a (ns.map V.int) ∧ ns.length ≤ 1000 ∧
  ∀ H' p c S, Same H H' → SrcOk (some (p, c)) S H' → Q (.ref p) H'
theorem ok_source {f : Addr} {fd : FuncData} {k : Nat} (F : Fun K "_law_source" "_law_source" s__law_source f fd) (mi : mg "int" = none) (ma : mg "abs" = none) : FnOk P w K mg base CX0 (k + 1) f fd ["script"] (spSource K) := by
  refine F.ok sc__law_source (fun vs H Q E h => ?_) (fun cdv A outer s H vs Q E hr h => ?_)
  · obtain ⟨a, ns, rfl, _⟩ := h
    rfl
  · obtain ⟨a, ns, rfl, hS, hlen, q⟩ := h
    refine ⟨_, pss_cons (ps_set (i := 1) sc__law_source.nd rfl (.inl rfl) pe_int)
      (pss_cons (ps_for PassesOwn.never rfl (pi_list (pv 0)) (pg_name (i := 2) sc__law_source.nd rfl (.inl rfl))
        (pss_one (ps_set (i := 1) sc__law_source.nd rfl (.inl rfl) (pe_op op_modN (pe_callTy call_int1 (by rfl) mi (by decide +kernel) (pa_cons (pe_op op_add (pe_op op_add (pe_op op_mul (pv 1) pe_int) (pe_op op_mul (pv 2) pe_int)) pe_int) pa_nil)) pe_int))))
      (pss_one (ps_ret (pe_disp (pps_cons pe_str (pe_revL (pe_lc (own := [("cell", 2)]) (g := gName 2) (by rfl) sc__law_source.nd (pi_list (pv 0)) (blkOk_by (own := [("cell", 2)]) (N := ["script", "mixed", "cell"]) (sc := defScope s__law_source) (by decide +kernel)) (fun _ _ _ _ _ => pg_name (i := 2) sc__law_source.nd rfl (Or.inl rfl)) (fun _ _ _ _ _ => pts_nil)
          (fun _ _ _ _ _ => pe_callB call_abs (by rfl) ma (by decide +kernel) (pa_cons (pv 2) pa_nil))))
        (pps_cons pe_str pe_int (pps_cons pe_str (pv 1) (pps_cons pe_str pe_int pps_nil)))) (by rfl) (by rfl) (fun z => by cases z) (by decide))))), ?_⟩
    -- mixed = 11, the loop
    refine ⟨.ref a, rfl, a, rfl, ⟨_, hS⟩, fun i m σ H3 => ∃ (z : Int) (y2 : Option V), σ = [some (.ref a), some (.int z), y2] ∧ i + m = ns.length ∧ H3 = H, ⟨ns.length, 11, none, rfl, by omega, rfl⟩, fun i m σ H3 hW => ?_⟩
    obtain ⟨z, y2, rfl, em, rfl⟩ := hW
    by_cases hi : i < ns.length
    · have g : (ns.map V.int)[i]? = some (.int ns[i]) := by
        rw [List.getElem?_map, List.getElem?_eq_getElem hi]
        rfl
      refine .inr ⟨⟨_, _, hS, g⟩, fun σ' H' => ∃ (z : Int) (y2 : Option V), σ' = [some (.ref a), some (.int z), y2] ∧ H' = H3, fun σ' H' hN => ?_, fun v H' hy => ?_⟩
      · obtain ⟨z', y', e1, e2⟩ := hN
        exact ⟨m - 1, by omega, z', y', e1, by omega, e2⟩
      · obtain ⟨rfl, fv⟩ := hy
        have ev : v = .int ns[i] := Option.some.inj ((fv _ hS).symm.trans g)
        subst ev
        refine ⟨.int z, rfl, z, 69069, rfl, rfl, .inr ⟨by decide, by decide⟩, ?_⟩
        refine ⟨.int ns[i], rfl, ns[i], 31, rfl, rfl, .inr ⟨by decide, by decide⟩, ?_⟩
        refine ⟨_, _, rfl, rfl, _, _, rfl, rfl, .inl ⟨_, rfl, ?_⟩⟩
        refine ⟨_, _, rfl, rfl, (show (2147483629 : Int) ≠ 0 by decide), _, _, rfl, rfl⟩
    · refine .inl ⟨⟨_, hS, by rw [List.length_map]; omega⟩, ?_⟩
      -- the dict
      intro p hp
      let absI : Int → Int := fun n => if n < 0 then -n else n
      have sm : Same H3 (upd H3 p (.dK [])) := fun b o e => by rw [upd_ne (ne_of_none e hp)]; exact e
      have hS2 : SqL K (upd H3 p (.dK [])) a (ns.map V.int) := sm.seq hS
      refine ⟨.ref a, rfl, a, rfl, ⟨_, hS2⟩, fun D hD => ?_⟩
      have pD : p ≠ D := fun e => by rw [← e, upd_same] at hD; cases hD
      have hS3 : ∀ l, SqL K (upd (upd H3 p (.dK [])) D (.lst l)) a (ns.map V.int) := fun l => Same.seq (fun b o e => by rw [upd_ne (ne_of_none e hD)]; exact e) hS2
      refine lc_list (xs := ns.map V.int) (fun i H' => H' = upd (upd H3 p (.dK [])) D (.lst ((ns.take i).map fun n => V.int (absI n)))) rfl (fun i H' _ e => by rw [e]; exact hS3 _) (fun i x H' hx e => ?_) (fun H' e => ?_)
      · subst e
        have hi : i < ns.length := by have := (List.getElem?_eq_some_iff.mp hx).1; simpa using this
        have ex : x = .int ns[i] := by
          rw [List.getElem?_map, List.getElem?_eq_getElem hi] at hx
          exact (Option.some.inj hx).symm
        subst ex
        refine ⟨rfl, ?_⟩
        unfold tYes
        simp only [if_true]
        refine ⟨_, rfl, ns[i], rfl, _, upd_same, ?_, ?_⟩
        · rw [List.length_map, List.length_take]
          exact small1000 (by omega)
        · rw [upd_upd, List.take_add_one, List.getElem?_eq_getElem hi, List.map_append]
          rfl
      · subst e
        rw [List.length_map, List.take_length]
        refine ⟨D, _, rfl, .inl (.inl upd_same), fun c hc => ?_⟩
        have cp : p ≠ c := fun e => by
          rw [← e, upd_ne pD, upd_same] at hc; cases hc
        have Dc : D ≠ c := fun e => by rw [← e, upd_same] at hc; cases hc
        refine ⟨_, rfl, ?_⟩
        refine ⟨by rw [upd_ne cp, upd_ne pD]; exact upd_same, [(.inr "cells", .ref c), (.inr "left", .int 1), (.inr "mixed", .int z), (.inr "turn", .int 0)], rfl, (by show 4 ≤ 15; omega), ?_⟩
        refine q _ p c ⟨(ns.map absI).reverse, 1, z, 0⟩ (fun b o e => ?_) ⟨?_, ?_⟩
        · have bp : b ≠ p := ne_of_none e hp
          have bD : b ≠ D := ne_of_none (sm b o e) hD
          have bc : b ≠ c := ne_of_none (show (upd (upd H3 p (.dK [])) D _) b = some o by rw [upd_ne bD, upd_ne bp]; exact e) hc
          rw [upd_ne bp, upd_ne bc, upd_ne bD, upd_ne bp]
          exact e
        · rw [upd_same]
          rfl
        · rw [upd_ne (Ne.symm cp), upd_same]
          simp
theorem d__law_source (T : Tx P K mg t) : FnG P w K mg base 1 t.f__law_source t.d__law_source ["script"] (spSource K) := FnG.ofOk (ok_source (k := 0) T.F__law_source T.z_int T.z_abs)
theorem mkSrc : MakesSrc K (fun σ H Q => (tCons (tVar 0) tNil) σ H fun vs H1 => spSource K vs H1 Q E0) := fun σ H Q a ns e hS hl q => ⟨.ref a, e, a, ns, rfl, hS, by omega, q⟩

/-! ### a draw -/
def refill (l : Int) : List Int → Int × List Int
  | [] => (l, [])
  | c :: r => if l < 2 then refill c r else (l, c :: r)
def max1 (many : Int) : Int := if many > 1 then many else 1
/-- the draw: a number, the source behind it -/
def pickS (S : Src) (many : Int) : Int × Src :=
  let p := if many > 1 then refill S.left S.cells.reverse else (S.left, S.cells.reverse)
  if many < 2 ∨ p.1 > 1 then (p.1.fmod (max1 many), ⟨p.2.reverse, p.1.fdiv (max1 many), S.mixed, S.turn⟩)
  else
    let mixed := (S.mixed + (S.turn + 1) * 104729).fmod 998244353
    let mixed := (mixed * mixed + (S.turn + 1) * 17).fmod 2147483647
    ((mixed.fdiv 16).fmod many, ⟨p.2.reverse, p.1, mixed, S.turn + 1⟩)
def F_pick : FD := fun bs S => match bs with
  | [.src, .imm (.int many)] => if -1000000 ≤ many ∧ many ≤ 1000000 then some (.imm (.int (pickS S many).1), (pickS S many).2) else none
  | _ => none
theorem fmod_range {a b : Int} (h : 0 < b) : 0 ≤ a.fmod b ∧ a.fmod b < b := ⟨Int.fmod_nonneg_of_pos _ h, Int.fmod_lt_of_pos _ h⟩
theorem pickS_range {S : Src} {many : Int} (h : 1 ≤ many) : 0 ≤ (pickS S many).1 ∧ (pickS S many).1 < many := by
  unfold pickS
  simp only []
  have h0 : 0 < many := by omega
  have e : max1 many = many := by unfold max1; split <;> omega
  rw [e]
  generalize (if many > 1 then refill S.left S.cells.reverse else (S.left, S.cells.reverse)) = p
  by_cases c : many < 2 ∨ p.1 > 1
  · rw [if_pos c]
    exact fmod_range h0
  · rw [if_neg c]
    exact fmod_range h0
theorem upd_swap4 {H : Hp} {a c : Addr} {o1 o2 o3 o4 : HO} (h : c ≠ a) : upd (upd (upd (upd H c o1) a o2) c o3) a o4 = upd (upd H c o3) a o4 := by
  funext b
  by_cases e1 : b = a
  · rw [e1, upd_same, upd_same]
  · rw [upd_ne e1, upd_ne e1]
    by_cases e2 : b = c
    · rw [e2, upd_same, upd_same]
    · rw [upd_ne e2, upd_ne e2, upd_ne e1, upd_ne e2]
theorem F_pick_some {bs : List Bd} {S : Src} {r : Bd × Src} (h : F_pick bs S = some r) : ∃ many, bs = [.src, .imm (.int many)] ∧ (-1000000 ≤ many ∧ many ≤ 1000000) ∧ r = (.imm (.int (pickS S many).1), (pickS S many).2) := by
  unfold F_pick at h
  split at h
  · rename_i many
    split at h
    · rename_i hm
      exact ⟨many, rfl, hm, (Option.some.inj h).symm⟩
    · cases h
  · cases h
/-- the heap with the source's state -/
def HS (H : Hp) (a c : Addr) (T : Src) : Hp := upd (upd H c (.lst (T.cells.map V.int))) a (.dK (srcKvs T c))
theorem HS_self {H : Hp} {a c : Addr} {S : Src} (h : SrcOk (some (a, c)) S H) : HS H a c S = H := by
  funext b
  unfold HS
  by_cases e1 : b = a
  · rw [e1, upd_same, h.1]
  · rw [upd_ne e1]
    by_cases e2 : b = c
    · rw [e2, upd_same, h.2]
    · rw [upd_ne e2]
theorem HS_put {H : Hp} {a c : Addr} {T T' : Src} (h : T'.cells = T.cells) : upd (HS H a c T) a (.dK (srcKvs T' c)) = HS H a c T' := by
  unfold HS
  rw [upd_upd, h]
theorem HS_mt {so : SO} {H : Hp} {A : Addr → Prop} {S T : Src} {a c : Addr} {σ : Sl} {ρ : En} (M : Mt K so H A S σ ρ H A) (hso : so = some (a, c)) (i : Int) : Mt K so H A T [some (.int i)] [some (.imm (.int i))] (HS H a c T) A := by
  subst hso
  have hs := M.src
  have ac : a ≠ c := fun e => by
    have h1 := hs.1
    rw [e, hs.2] at h1; cases h1
  have off : ∀ b, ¬ Has (some (a, c)) b → HS H a c T b = H b := fun b n => by
    have n1 : b ≠ a := fun e => n (.inl e)
    have n2 : b ≠ c := fun e => n (.inr e)
    unfold HS
    rw [upd_ne n1, upd_ne n2]
  have M0 : Mt K (some (a, c)) H A S [] [] H A := M.re id rfl (fun i b e => by simp at e) fun i j b b' _ e => by simp at e
  have M1 : Mt K (some (a, c)) H A T [] [] (HS H a c T) A := M0.up (fun b x e n => by rw [off b n]; exact e) ⟨upd_same, by unfold HS; rw [upd_ne (Ne.symm ac)]; exact upd_same⟩ (fun _ h => h) (fun _ h => .inl h) (fun b h => by
    obtain ⟨xs, e⟩ := M.fz b h
    exact ⟨xs, by rw [off b (M.ns b h)]; exact e⟩) M.ns
  exact M1.flat (v := .int i) (d := .int i) fun H A => .int i
theorem get_left {T : Src} {c : Addr} : valV (srcKvs T c) (.inr "left") = some (.int T.left) := rfl
theorem get_cells {T : Src} {c : Addr} : valV (srcKvs T c) (.inr "cells") = some (.ref c) := rfl
theorem get_mixed {T : Src} {c : Addr} : valV (srcKvs T c) (.inr "mixed") = some (.int T.mixed) := rfl
theorem get_turn {T : Src} {c : Addr} : valV (srcKvs T c) (.inr "turn") = some (.int T.turn) := rfl
theorem put_left {T : Src} {c : Addr} {x : Int} : putK (srcKvs T c) (.inr "left") (.int x) = srcKvs ⟨T.cells, x, T.mixed, T.turn⟩ c := rfl
theorem put_mixed {T : Src} {c : Addr} {x : Int} : putK (srcKvs T c) (.inr "mixed") (.int x) = srcKvs ⟨T.cells, T.left, x, T.turn⟩ c := rfl
theorem put_turn {T : Src} {c : Addr} {x : Int} : putK (srcKvs T c) (.inr "turn") (.int x) = srcKvs ⟨T.cells, T.left, T.mixed, x⟩ c := rfl
theorem HS_dict {H : Hp} {a c : Addr} {T : Src} : HS H a c T a = some (.dK (srcKvs T c)) := upd_same
theorem HS_get {H : Hp} {a c : Addr} {T : Src} {k : Str} {v : V} (h : valV (srcKvs T c) (.inr k) = some v) : DGet (HS H a c T) a (.str k) (some v) := by
  rw [← h]
  exact DGet.k (k := .inr k) HS_dict
theorem HS_set {H : Hp} {a c : Addr} {T T' : Src} {k : Str} {v : V} (h : putK (srcKvs T c) (.inr k) v = srcKvs T' c) (hc : T'.cells = T.cells) : DPut (HS H a c T) a (.str k) v (HS H a c T') := by
  have := DPut.k (k := .inr k) (v := v) (HS_dict (H := H) (a := a) (c := c) (T := T)) (by show 4 < sizeLine; rw [sizeLine_eq]; decide)
  rw [h, HS_put hc] at this
  exact this
theorem ok_pick {f : Addr} {fd : FuncData} {k : Nat} (F : Fun K "_law_pick" "_law_pick" s__law_pick f fd) (ml : mg "len" = none) (mi : mg "int" = none) (mm : mg "max" = none) : FnD P w K mg base (k + 1) f fd ["source", "many"] F_pick := by
  intro so
  refine FnG.body F sc__law_pick (fun vs H Q E h => ?_) fun cdv A outer s H vs Q hr h => ?_
  · obtain ⟨bs, S, A', M, h⟩ := h
    cases e : F_pick bs S with
    | none => rw [e] at h; exact h.elim
    | some r =>
      obtain ⟨many, rfl, _⟩ := F_pick_some e
      simpa using M.len
  · obtain ⟨bs, S, A', M, h⟩ := h
    have hu := hu_of hr.room
    refine ⟨_, pss_cons (ps_while PassesOwn.never (PW.pt (pw_and (pt_cmpR op_gt (pv 1) pe_int (nomark _)) (pw_and (pt_cmpR op_lt (pe_dget hu (pv 0) pe_str (fun _ _ => rfl)) pe_int (nomark _))
          (pw_and1 (pt_cmpR op_gt (pe_callB call_len_seq (by rfl) ml PySem.boot_len (pa_cons (pe_dget hu (pv 0) pe_str (fun _ _ => rfl)) pa_nil)) pe_int (nomark _))))))
        (pss_one (ps_dput hu (pv 0) pe_str (pe_bm0 PySem.F.plainAttrs_list PySem.F.slot_list_pop PySem.F.type_list_pop mt_pop (pe_dget hu (pv 0) pe_str (fun _ _ => rfl))) rfl)))
      (pss_cons (ps_set (i := 2) sc__law_pick.nd rfl (.inl rfl) (pe_dget hu (pv 0) pe_str (fun _ _ => rfl)))
      (pss_cons (ps_if (PW.pt (pw_or (pt_cmpR op_lt (pv 1) pe_int (nomark _)) (pw_or1 (pt_cmpR op_gt (pv 2) pe_int (nomark _)))))
          (pss_cons (ps_dput hu (pv 0) pe_str (pe_op op_fdivN (pv 2) (pe_callB (call_max2 rfl) (by rfl) mm (by decide +kernel) (pa_cons pe_int (pa_cons (pv 1) pa_nil)))) rfl)
          (pss_one (ps_ret (pe_op op_modN (pe_callTy call_int1 (by rfl) mi (by decide +kernel) (pa_cons (pv 2) pa_nil)) (pe_callB (call_max2 rfl) (by rfl) mm (by decide +kernel) (pa_cons pe_int (pa_cons (pv 1) pa_nil)))))))
          pss_nil)
      (pss_cons (ps_dput hu (pv 0) pe_str (pe_op op_add (pe_dget hu (pv 0) pe_str (fun _ _ => rfl)) pe_int) rfl)
      (pss_cons (ps_set (i := 3) sc__law_pick.nd rfl (.inl rfl) (pe_op op_modN (pe_callTy call_int1 (by rfl) mi (by decide +kernel) (pa_cons (pe_op op_add (pe_dget hu (pv 0) pe_str (fun _ _ => rfl)) (pe_op op_mul (pe_dget hu (pv 0) pe_str (fun _ _ => rfl)) pe_int)) pa_nil)) pe_int))
      (pss_cons (ps_set (i := 3) sc__law_pick.nd rfl (.inl rfl) (pe_op op_modN (pe_callTy call_int1 (by rfl) mi (by decide +kernel) (pa_cons (pe_op op_add (pe_op op_mul (pv 3) (pv 3)) (pe_op op_mul (pe_dget hu (pv 0) pe_str (fun _ _ => rfl)) pe_int)) pa_nil)) pe_int))
      (pss_cons (ps_dput hu (pv 0) pe_str (pv 3) rfl)
      (pss_one (ps_ret (pe_op op_modN (pe_callTy call_int1 (by rfl) mi (by decide +kernel) (pa_cons (pe_op op_fdivN (pv 3) pe_int) pa_nil)) (pv 1)))))))))), ?_⟩
    cases e : F_pick bs S with
    | none => rw [e] at h; exact h.elim
    | some r =>
      obtain ⟨many, rfl, hm, rfl⟩ := F_pick_some e
      rw [e] at h
      simp only at h
      have hl : vs.length = 2 := by simpa using M.len
      obtain ⟨x0, x1, rfl⟩ : ∃ x0 x1, vs = [x0, x1] := by
        match vs, hl with
        | [x0, x1], _ => exact ⟨x0, x1, rfl⟩
      obtain ⟨v0, e0, a, c, rfl, hso⟩ := M.bd 0 .src rfl
      obtain ⟨v1, e1, o1⟩ := M.bd 1 (.imm (.int many)) rfl
      cases e0
      cases e1
      cases o1
      have hs := M.src
      rw [hso] at hs
      have ac : c ≠ a := fun e => by
        have h1 := hs.1
        rw [← e, hs.2] at h1; cases h1
      have hc : ∀ T, HS H a c T c = some (.lst (T.cells.map V.int)) := fun T => by unfold HS; rw [upd_ne ac]; exact upd_same
      · have fin : ∀ H', H' = HS H a c (pickS S many).2 → Q (.int (pickS S many).1) H' := fun H' e => by subst e; exact h _ _ A' (HS_mt M hso _)
        -- the while
        refine ⟨fun m σ' H' => ∃ (l : Int) (r : List Int), σ' = [some (.ref a), some (.int many), none, none] ∧ H' = HS H a c ⟨r.reverse, l, S.mixed, S.turn⟩ ∧ m = r.length ∧
          (if many > 1 then refill l r = refill S.left S.cells.reverse else (l, r) = (S.left, S.cells.reverse)), ⟨S.cells.reverse.length, S.left, S.cells.reverse, rfl, ?_, rfl, ?_⟩, ?_⟩
        · rw [List.reverse_reverse]
          exact (HS_self hs).symm
        · split <;> rfl
        · rintro m σ' H' ⟨l, r, rfl, rfl, rfl, inv⟩
          have hp : ∀ hend : (l, r) = (if many > 1 then refill S.left S.cells.reverse else (S.left, S.cells.reverse)), pickS S many = (if many < 2 ∨ l > 1 then (l.fmod (max1 many), ⟨r.reverse, l.fdiv (max1 many), S.mixed, S.turn⟩)
              else ((((((S.mixed + (S.turn + 1) * 104729).fmod 998244353 * (S.mixed + (S.turn + 1) * 104729).fmod 998244353 + (S.turn + 1) * 17).fmod 2147483647).fdiv 16).fmod many),
                ⟨r.reverse, l, ((S.mixed + (S.turn + 1) * 104729).fmod 998244353 * (S.mixed + (S.turn + 1) * 104729).fmod 998244353 + (S.turn + 1) * 17).fmod 2147483647, S.turn + 1⟩)) := fun hend => by
            unfold pickS
            simp only []
            rw [← hend]
          have next : ∀ z r', l < 2 → r = z :: r' → many > 1 → refill z r' = refill S.left S.cells.reverse := fun z r' h2 e h1 => by
            rw [if_pos h1, e] at inv
            simp only [refill] at inv
            rw [if_pos h2] at inv
            exact inv
          have stop : (¬ (many > 1 ∧ l < 2 ∧ r ≠ [])) → (l, r) = (if many > 1 then refill S.left S.cells.reverse else (S.left, S.cells.reverse)) := fun n => by
            by_cases h1 : many > 1
            · rw [if_pos h1] at inv ⊢
              rw [← inv]
              cases r with
              | nil => rfl
              | cons z r' =>
                have h2 : ¬ l < 2 := fun h2 => n ⟨h1, h2, fun z => nomatch z⟩
                simp only [refill]
                rw [if_neg h2]
            · rw [if_neg h1] at inv ⊢
              exact inv
          refine ⟨.int many, rfl, many, 1, rfl, rfl, _, rfl, ite2 (fun c1 => ?_) (fun c1 => ?_)⟩
          · have c1 : 1 < many := of_decide_eq_true c1
            refine ⟨.ref a, rfl, a, .int l, rfl, HS_get rfl, l, 2, rfl, rfl, _, rfl, ite2 (fun c2 => ?_) (fun c2 => ?_)⟩
            · have c2 : l < 2 := of_decide_eq_true c2
              refine ⟨.ref a, rfl, a, .ref c, rfl, HS_get rfl, c, _, rfl, .inl (.inl (.inl (hc _))), _, 0, rfl, rfl, _, rfl, ?_⟩
              cases r with
              | nil =>
                have c3 : ([] : List Int) = [] := rfl
                refine ite2 (fun z => (by simp at z)) (fun _ => ?_)
                have hend := stop (fun z => z.2.2 rfl)
                have hpk := hp hend
                rw [hpk] at fin
                have hM : (if many > 1 then many else 1) ≠ 0 ∧ (if many > 1 then many else 1).natAbs < 1073741824 := by split <;> omega
                refine ⟨.ref a, rfl, a, .int l, rfl, HS_get rfl, ?_⟩
                by_cases d : many < 2 ∨ l > 1
                · rw [if_pos d] at fin
                  refine ⟨.int many, rfl, many, 2, rfl, rfl, _, rfl, ite2 (fun d1 => iteT ?_) (fun d1 => ⟨.int l, rfl, l, 1, rfl, rfl, _, rfl, ite2 (fun d2 => ?_) (fun d2 => ?_)⟩)⟩
                  · refine ⟨.int l, rfl, .int many, rfl, 1, many, rfl, l, _, rfl, rfl, hM, .ref a, rfl, a, _, rfl, HS_set put_left rfl, ?_⟩
                    exact ⟨.int l, rfl, .inl ⟨l, rfl, .int many, rfl, 1, many, rfl, l, _, rfl, rfl, hM.1, fin _ rfl⟩⟩
                  · refine ⟨.int l, rfl, .int many, rfl, 1, many, rfl, l, _, rfl, rfl, hM, .ref a, rfl, a, _, rfl, HS_set put_left rfl, ?_⟩
                    exact ⟨.int l, rfl, .inl ⟨l, rfl, .int many, rfl, 1, many, rfl, l, _, rfl, rfl, hM.1, fin _ rfl⟩⟩
                  · exact absurd d (fun z => z.elim (fun z => d1 (decide_eq_true z)) fun z => d2 (decide_eq_true z))
                · rw [if_neg d] at fin
                  refine ⟨.int many, rfl, many, 2, rfl, rfl, _, rfl, ite2 (fun d1 => (d (.inl (of_decide_eq_true d1))).elim) (fun d1 => ⟨.int l, rfl, l, 1, rfl, rfl, _, rfl, ite2 (fun d2 => (d (.inr (of_decide_eq_true d2))).elim) (fun d2 => ?_)⟩)⟩
                  refine ⟨.ref a, rfl, a, .int S.turn, rfl, HS_get rfl, S.turn, 1, rfl, rfl, .ref a, rfl, a, _, rfl, HS_set put_turn rfl, ?_⟩
                  refine ⟨.ref a, rfl, a, .int S.mixed, rfl, HS_get rfl, .ref a, rfl, a, .int (S.turn + 1), rfl, HS_get rfl, S.turn + 1, 104729, rfl, rfl, .inr ⟨by decide, by decide⟩, S.mixed, _, rfl, rfl, .inl ⟨_, rfl, _, 998244353, rfl, rfl, (show (998244353 : Int) ≠ 0 by decide), ?_⟩⟩
                  have r1 := fmod_range (a := S.mixed + (S.turn + 1) * 104729) (b := 998244353) (by decide)
                  refine ⟨.int _, rfl, .int _, rfl, _, _, rfl, rfl, .inl ⟨by omega, by omega⟩, .ref a, rfl, a, .int (S.turn + 1), rfl, HS_get rfl, S.turn + 1, 17, rfl, rfl, .inr ⟨by decide, by decide⟩, _, _, rfl, rfl, .inl ⟨_, rfl, _, 2147483647, rfl, rfl, (show (2147483647 : Int) ≠ 0 by decide), ?_⟩⟩
                  refine ⟨.int _, rfl, .ref a, rfl, a, _, rfl, HS_set put_mixed rfl, ?_⟩
                  exact ⟨.int _, rfl, _, 16, rfl, rfl, ⟨by decide, by decide⟩, .inl ⟨_, rfl, .int many, rfl, _, many, rfl, rfl, (show many ≠ 0 by omega), fin _ rfl⟩⟩
              | cons z r' =>
                refine ite2 (fun _ => ?_) (fun q => absurd (decide_eq_true (by simp)) q)
                refine ⟨fun σ' H' => σ' = [some (.ref a), some (.int many), none, none] ∧ H' = HS H a c ⟨r'.reverse, z, S.mixed, S.turn⟩, fun σ' H' ⟨e1, e2⟩ => ⟨r'.length, by simp, z, r', e1, e2, rfl, ?_⟩, ?_⟩
                · rw [if_pos c1]
                  exact next z r' c2 rfl c1
                · refine ⟨.ref a, rfl, a, .ref c, rfl, HS_get rfl, .inl ⟨rfl, _, .inl (.inl (hc _))⟩, c, _, .int z, rfl, rfl, hc _, by simp, .ref a, rfl, a, _, rfl, DPut.k (k := .inr "left") (kvs := srcKvs ⟨(z :: r').reverse, l, S.mixed, S.turn⟩ c) (by rw [upd_ne (Ne.symm ac)]; exact HS_dict) (by show 4 < sizeLine; rw [sizeLine_eq]; decide), rfl, ?_⟩
                  rw [put_left]
                  unfold HS
                  rw [upd_swap4 ac]
                  simp [srcKvs]
            · have hend := stop (fun z => c2 (decide_eq_true z.2.1))
              have hpk := hp hend
              rw [hpk] at fin
              have hM : (if many > 1 then many else 1) ≠ 0 ∧ (if many > 1 then many else 1).natAbs < 1073741824 := by split <;> omega
              refine iteF ?_
              refine ⟨.ref a, rfl, a, .int l, rfl, HS_get rfl, ?_⟩
              by_cases d : many < 2 ∨ l > 1
              · rw [if_pos d] at fin
                refine ⟨.int many, rfl, many, 2, rfl, rfl, _, rfl, ite2 (fun d1 => iteT ?_) (fun d1 => ⟨.int l, rfl, l, 1, rfl, rfl, _, rfl, ite2 (fun d2 => ?_) (fun d2 => ?_)⟩)⟩
                · refine ⟨.int l, rfl, .int many, rfl, 1, many, rfl, l, _, rfl, rfl, hM, .ref a, rfl, a, _, rfl, HS_set put_left rfl, ?_⟩
                  exact ⟨.int l, rfl, .inl ⟨l, rfl, .int many, rfl, 1, many, rfl, l, _, rfl, rfl, hM.1, fin _ rfl⟩⟩
                · refine ⟨.int l, rfl, .int many, rfl, 1, many, rfl, l, _, rfl, rfl, hM, .ref a, rfl, a, _, rfl, HS_set put_left rfl, ?_⟩
                  exact ⟨.int l, rfl, .inl ⟨l, rfl, .int many, rfl, 1, many, rfl, l, _, rfl, rfl, hM.1, fin _ rfl⟩⟩
                · exact absurd d (fun z => z.elim (fun z => d1 (decide_eq_true z)) fun z => d2 (decide_eq_true z))
              · rw [if_neg d] at fin
                refine ⟨.int many, rfl, many, 2, rfl, rfl, _, rfl, ite2 (fun d1 => (d (.inl (of_decide_eq_true d1))).elim) (fun d1 => ⟨.int l, rfl, l, 1, rfl, rfl, _, rfl, ite2 (fun d2 => (d (.inr (of_decide_eq_true d2))).elim) (fun d2 => ?_)⟩)⟩
                refine ⟨.ref a, rfl, a, .int S.turn, rfl, HS_get rfl, S.turn, 1, rfl, rfl, .ref a, rfl, a, _, rfl, HS_set put_turn rfl, ?_⟩
                refine ⟨.ref a, rfl, a, .int S.mixed, rfl, HS_get rfl, .ref a, rfl, a, .int (S.turn + 1), rfl, HS_get rfl, S.turn + 1, 104729, rfl, rfl, .inr ⟨by decide, by decide⟩, S.mixed, _, rfl, rfl, .inl ⟨_, rfl, _, 998244353, rfl, rfl, (show (998244353 : Int) ≠ 0 by decide), ?_⟩⟩
                have r1 := fmod_range (a := S.mixed + (S.turn + 1) * 104729) (b := 998244353) (by decide)
                refine ⟨.int _, rfl, .int _, rfl, _, _, rfl, rfl, .inl ⟨by omega, by omega⟩, .ref a, rfl, a, .int (S.turn + 1), rfl, HS_get rfl, S.turn + 1, 17, rfl, rfl, .inr ⟨by decide, by decide⟩, _, _, rfl, rfl, .inl ⟨_, rfl, _, 2147483647, rfl, rfl, (show (2147483647 : Int) ≠ 0 by decide), ?_⟩⟩
                refine ⟨.int _, rfl, .ref a, rfl, a, _, rfl, HS_set put_mixed rfl, ?_⟩
                exact ⟨.int _, rfl, _, 16, rfl, rfl, ⟨by decide, by decide⟩, .inl ⟨_, rfl, .int many, rfl, _, many, rfl, rfl, (show many ≠ 0 by omega), fin _ rfl⟩⟩
          · have hend := stop (fun z => c1 (decide_eq_true z.1))
            have hpk := hp hend
            rw [hpk] at fin
            have hM : (if many > 1 then many else 1) ≠ 0 ∧ (if many > 1 then many else 1).natAbs < 1073741824 := by split <;> omega
            refine iteF ?_
            refine ⟨.ref a, rfl, a, .int l, rfl, HS_get rfl, ?_⟩
            by_cases d : many < 2 ∨ l > 1
            · rw [if_pos d] at fin
              refine ⟨.int many, rfl, many, 2, rfl, rfl, _, rfl, ite2 (fun d1 => iteT ?_) (fun d1 => ⟨.int l, rfl, l, 1, rfl, rfl, _, rfl, ite2 (fun d2 => ?_) (fun d2 => ?_)⟩)⟩
              · refine ⟨.int l, rfl, .int many, rfl, 1, many, rfl, l, _, rfl, rfl, hM, .ref a, rfl, a, _, rfl, HS_set put_left rfl, ?_⟩
                exact ⟨.int l, rfl, .inl ⟨l, rfl, .int many, rfl, 1, many, rfl, l, _, rfl, rfl, hM.1, fin _ rfl⟩⟩
              · refine ⟨.int l, rfl, .int many, rfl, 1, many, rfl, l, _, rfl, rfl, hM, .ref a, rfl, a, _, rfl, HS_set put_left rfl, ?_⟩
                exact ⟨.int l, rfl, .inl ⟨l, rfl, .int many, rfl, 1, many, rfl, l, _, rfl, rfl, hM.1, fin _ rfl⟩⟩
              · exact absurd d (fun z => z.elim (fun z => d1 (decide_eq_true z)) fun z => d2 (decide_eq_true z))
            · rw [if_neg d] at fin
              refine ⟨.int many, rfl, many, 2, rfl, rfl, _, rfl, ite2 (fun d1 => (d (.inl (of_decide_eq_true d1))).elim) (fun d1 => ⟨.int l, rfl, l, 1, rfl, rfl, _, rfl, ite2 (fun d2 => (d (.inr (of_decide_eq_true d2))).elim) (fun d2 => ?_)⟩)⟩
              refine ⟨.ref a, rfl, a, .int S.turn, rfl, HS_get rfl, S.turn, 1, rfl, rfl, .ref a, rfl, a, _, rfl, HS_set put_turn rfl, ?_⟩
              refine ⟨.ref a, rfl, a, .int S.mixed, rfl, HS_get rfl, .ref a, rfl, a, .int (S.turn + 1), rfl, HS_get rfl, S.turn + 1, 104729, rfl, rfl, .inr ⟨by decide, by decide⟩, S.mixed, _, rfl, rfl, .inl ⟨_, rfl, _, 998244353, rfl, rfl, (show (998244353 : Int) ≠ 0 by decide), ?_⟩⟩
              have r1 := fmod_range (a := S.mixed + (S.turn + 1) * 104729) (b := 998244353) (by decide)
              refine ⟨.int _, rfl, .int _, rfl, _, _, rfl, rfl, .inl ⟨by omega, by omega⟩, .ref a, rfl, a, .int (S.turn + 1), rfl, HS_get rfl, S.turn + 1, 17, rfl, rfl, .inr ⟨by decide, by decide⟩, _, _, rfl, rfl, .inl ⟨_, rfl, _, 2147483647, rfl, rfl, (show (2147483647 : Int) ≠ 0 by decide), ?_⟩⟩
              refine ⟨.int _, rfl, .ref a, rfl, a, _, rfl, HS_set put_mixed rfl, ?_⟩
              exact ⟨.int _, rfl, _, 16, rfl, rfl, ⟨by decide, by decide⟩, .inl ⟨_, rfl, .int many, rfl, _, many, rfl, rfl, (show many ≠ 0 by omega), fin _ rfl⟩⟩
abbrev F__law_pick : FD := F_pick
theorem d__law_pick (T : Tx P K mg t) : FnD P w K mg base 1 t.f__law_pick t.d__law_pick ["source", "many"] F__law_pick := ok_pick (k := 0) T.F__law_pick T.z_len T.z_int T.z_max
def isStrD : PyData → Bool
  | .str x => PyData.strOk x
  | _ => false
theorem canLay_strs : ∀ {ds : List PyData}, ds.all isStrD = true → PyData.canLayAll0 ds = true
  | [], _ => rfl
  | d :: r, h => by
    simp only [List.all_cons, Bool.and_eq_true] at h
    cases d with
    | str x => simp only [PyData.canLayAll0, PyData.canLay0, Bool.and_eq_true]; exact ⟨h.1, canLay_strs h.2⟩
    | _ => cases h.1
theorem depth_strs : ∀ {ds : List PyData}, ds.all isStrD = true → PyData.depthAll ds = 0
  | [], _ => rfl
  | d :: r, h => by
    simp only [List.all_cons, Bool.and_eq_true] at h
    cases d with
    | str x => simp only [PyData.depthAll, PyData.depth, depth_strs h.2, Nat.max_self]
    | _ => cases h.1
theorem shaped_strs {ds : List PyData} (h : ds.all isStrD = true) : SeqAt.shaped (.list ds) = true := by
  simp [SeqAt.shaped, PyData.canLay0, canLay_strs h, PyData.depth, depth_strs h]

def g__law_of : SS := (gRet (fOp ixB (fVar 1) (fCall F__law_pick (aCons (fVar 0) (aCons (fAr (o1 lenB) (aCons (fVar 1) aNil)) aNil)))))
def F__law_of : FD := runB 2 2 g__law_of
theorem d__law_of (T : Tx P K mg t) : FnD P w K mg base 2 t.f__law_of t.d__law_of ["source", "some"] F__law_of :=
    fn_d T.F__law_of sc__law_of fun so cdv A outer s H hr => ⟨_, (dss_one (ds_ret (de_ix (de_var 1) (de_call (d__law_pick T) (hr.mono (by decide)) T.m__law_pick T.F__law_pick.kp T.b__law_pick (da_cons (de_var 0) (da_cons (de_callB call_lenA cs_len T.z_len PySem.boot_len (da_cons (de_var 1) da_nil)) da_nil))))))⟩

abbrev l_run_behind_1 : SS := (gAsg (sName 1) (fOp iaddB (fVar 1) (fC (.int 1))))
def g_run_behind : SS := (gSeq (gWhile (bAnd (fTest (fOp ltB (fVar 1) (fAr (o1 lenB) (aCons (fVar 0) aNil)))) (fTest (fOp (inB false) (fOp ixB (fVar 0) (fVar 1)) (fVar 2))))
  l_run_behind_1)
  (gRet (fMov 1)))
def F_run_behind : FD := runB 3 3 g_run_behind
theorem d_run_behind (T : Tx P K mg t) : FnD P w K mg base 1 t.f_run_behind t.d_run_behind ["text", "place", "signs"] F_run_behind :=
    fn_d T.F_run_behind sc_run_behind fun so cdv A outer s H hr => ⟨_, (dss_cons (ds_while PassesOwn.never (DW.dt (dw_and (dt_lt (de_var 1) (de_callB call_lenA cs_len T.z_len PySem.boot_len (da_cons (de_var 0) da_nil))) (dw_and1 (dt_in hr (de_ix (de_var 0) (de_var 1)) (de_var 2))))) (dss_one (ds_augI 1 sc_run_behind.nd de_int)))
        (dss_one (ds_ret (de_mov 1))))⟩

def g_lexeme_from : SS := (gSeq (gAsg (sName 1) (fCall F_run_behind (aCons (fVar 0) (aCons (fVar 1) (aCons (fC (.str " \n")) aNil)))))
  (gSeq (gIf (fTest (fOp (eqB false) (fVar 1) (fAr (o1 lenB) (aCons (fVar 0) aNil))))
  (gRet (fAr tupB (aCons (fC (.str "end")) (aCons (fC (.str "")) (aCons (fFrz 1) aNil)))))
  gNext)
  (gSeq (gIf (fTest (fOp (inB false) (fOp ixB (fVar 0) (fVar 1)) (fC (.str ",:;-"))))
  (gRet (fAr tupB (aCons (fC (.str "sign")) (aCons (fOp ixB (fVar 0) (fVar 1)) (aCons (fFrz 1) aNil)))))
  gNext)
  (gSeq (gAsg (sName 2) (fCall F_run_behind (aCons (fVar 0) (aCons (fVar 1) (aCons (fOp addB (fC (.str "abcdefghijklmnopqrstuvwxyz")) (fC (.str "0123456789"))) aNil)))))
  (gRet (fIf (fTest (fOp gtB (fVar 2) (fVar 1))) (fAr tupB (aCons (fC (.str "word")) (aCons (fSl (fVar 0) (oSome (fVar 1)) (oSome (fVar 2))) (aCons (fFrz 1) aNil)))) (fAr tupB (aCons (fC (.str "wrong")) (aCons (fC (.str "")) (aCons (fFrz 1) aNil))))))))))
def F_lexeme_from : FD := runB 2 3 g_lexeme_from
theorem d_lexeme_from (T : Tx P K mg t) : FnD P w K mg base 2 t.f_lexeme_from t.d_lexeme_from ["text", "place"] F_lexeme_from :=
    fn_d T.F_lexeme_from sc_lexeme_from fun so cdv A outer s H hr => ⟨_, (dss_cons (ds_set 1 sc_lexeme_from.nd (de_call (d_run_behind T) (hr.mono (by decide)) T.m_run_behind T.F_run_behind.kp T.b_run_behind (da_cons (de_var 0) (da_cons (de_var 1) (da_cons (de_gstr T.c_BLANKS.choose_spec) da_nil)))))
        (dss_cons (ds_if (dt_eq hr (de_var 1) (de_callB call_lenA cs_len T.z_len PySem.boot_len (da_cons (de_var 0) da_nil))) (dss_one (ds_ret (de_tup (da_cons de_str (da_cons de_str (da_cons (de_frz 1) da_nil)))))) dss_nil)
        (dss_cons (ds_if (dt_in hr (de_ix (de_var 0) (de_var 1)) (de_gstr T.c_SIGNS.choose_spec)) (dss_one (ds_ret (de_tup (da_cons de_str (da_cons (de_ix (de_var 0) (de_var 1)) (da_cons (de_frz 1) da_nil)))))) dss_nil)
        (dss_cons (ds_set 2 sc_lexeme_from.nd (de_call (d_run_behind T) (hr.mono (by decide)) T.m_run_behind T.F_run_behind.kp T.b_run_behind (da_cons (de_var 0) (da_cons (de_var 1) (da_cons (de_add (de_gstr T.c_SMALL.choose_spec) (de_gstr T.c_FIGURES.choose_spec)) da_nil)))))
        (dss_one (ds_ret (de_if (h1 := tC .non) (dt_gt (de_var 2) (de_var 1)) (de_tup (da_cons de_str (da_cons (de_sl (de_var 0) (do_some (de_var 1)) (do_some (de_var 2))) (da_cons (de_frz 1) da_nil)))) (de_tup (da_cons de_str (da_cons de_str (da_cons (de_frz 1) da_nil)))))))))))⟩

abbrev l_lexemes_1 : SS := (gSeq (gIf (fTest (fOp (eqB false) (fOp ixB (fVar 2) (fC (.int 0))) (fC (.str "wrong"))))
  gNever
  gNext)
  (gSeq (gAppend 1 (fFrz 2))
  (gAsg (sName 2) (fCall F_lexeme_from (aCons (fVar 0) (aCons (fOp addB (fOp ixB (fVar 2) (fC (.int 2))) (fAr (o1 lenB) (aCons (fOp ixB (fVar 2) (fC (.int 1))) aNil))) aNil))))))
def g_lexemes : SS := (gSeq (gPar (sCons (sName 1) (sCons (sName 2) sNil)) (aCons (fAr lstB aNil) (aCons (fCall F_lexeme_from (aCons (fVar 0) (aCons (fC (.int 0)) aNil))) aNil)))
  (gSeq (gWhile (fTest (fOp (eqB true) (fOp ixB (fVar 2) (fC (.int 0))) (fC (.str "end"))))
  l_lexemes_1)
  (gRet (fMov 1))))
def F_lexemes : FD := runB 1 3 g_lexemes
theorem d_lexemes (T : Tx P K mg t) : FnD P w K mg base 3 t.f_lexemes t.d_lexemes ["text"] F_lexemes :=
    fn_d T.F_lexemes sc_lexemes fun so cdv A outer s H hr => ⟨_, (dss_cons (ds_par2 1 2 rfl sc_lexemes.nd (da_cons (de_lst da_nil) (da_cons (de_call (d_lexeme_from T) (hr.mono (by decide)) T.m_lexeme_from T.F_lexeme_from.kp T.b_lexeme_from (da_cons (de_var 0) (da_cons de_int da_nil))) da_nil)))
        (dss_cons (ds_while PassesOwn.never (dt_ne hr (de_ix (de_var 2) de_int) de_str) (dss_cons (ds_if (dt_eq hr (de_ix (de_var 2) de_int) de_str) (dss_one ds_never) dss_nil)
        (dss_cons (ds_app 1 (de_frz 2))
        (dss_one (ds_set 2 sc_lexemes.nd (de_call (d_lexeme_from T) (hr.mono (by decide)) T.m_lexeme_from T.F_lexeme_from.kp T.b_lexeme_from (da_cons (de_var 0) (da_cons (de_add (de_ix (de_var 2) de_int) (de_callB call_lenA cs_len T.z_len PySem.boot_len (da_cons (de_ix (de_var 2) de_int) da_nil))) da_nil))))))))
        (dss_one (ds_ret (de_mov 1)))))⟩

def g__law_piece : SS := (gSeq (gAsg (sName 1) (fAr lstB (aCons (fC (.str "a")) (aCons (fC (.str "m1")) (aCons (fC (.str "sheet")) (aCons (fC (.str "halt")) (aCons (fC (.str "12")) (aCons (fC (.str "0")) (aCons (fC (.str "007")) (aCons (fOp smulB (fC (.str "x")) (fC (.int 30))) (aCons (fOp smulB (fC (.str "9")) (fC (.int 9))) (aCons (fC (.str ",")) (aCons (fC (.str ":")) (aCons (fC (.str ";")) (aCons (fC (.str "-")) (aCons (fC (.str " ")) (aCons (fC (.str "\n")) (aCons (fC (.str " \n ")) aNil))))))))))))))))))
  (gRet (fCall F__law_of (aCons (fVar 0) (aCons (fOp addB (fVar 1) (fAr lstB (aCons (fC (.str "a2b")) (aCons (fC (.str "left")) (aCons (fC (.str " ")) (aCons (fC (.str ";")) (aCons (fC (.str "-")) aNil))))))) aNil)))))
def F__law_piece : FD := runB 1 2 g__law_piece
theorem d__law_piece (T : Tx P K mg t) : FnD P w K mg base 3 t.f__law_piece t.d__law_piece ["source"] F__law_piece :=
    fn_d T.F__law_piece sc__law_piece fun so cdv A outer s H hr => ⟨_, (dss_cons (ds_set 1 sc__law_piece.nd (de_lst (da_cons de_str (da_cons de_str (da_cons de_str (da_cons de_str (da_cons de_str (da_cons de_str (da_cons de_str (da_cons (de_mulS de_str de_int) (da_cons (de_mulS de_str de_int) (da_cons de_str (da_cons de_str (da_cons de_str (da_cons de_str (da_cons de_str (da_cons de_str (da_cons de_str da_nil))))))))))))))))))
        (dss_one (ds_ret (de_call (d__law_of T) (hr.mono (by decide)) T.m__law_of T.F__law_of.kp T.b__law_of (da_cons (de_var 0) (da_cons (de_add (de_var 1) (de_lst (da_cons de_str (da_cons de_str (da_cons de_str (da_cons de_str (da_cons de_str da_nil))))))) da_nil))))))⟩

def g_is_name : SS := (gSeq (gIf (bOr (bNot (fTest (fUn (isiB "str") (fVar 0)))) (bOr (bNot (fTest (fChain ltB leB (fC (.int 0)) (fAr (o1 lenB) (aCons (fVar 0) aNil)) (fC (.int 12))))) (bOr (fTest (fOp (inB true) (fOp ixB (fVar 0) (fC (.int 0))) (fC (.str "abcdefghijklmnopqrstuvwxyz")))) (fTest (fOp (inB false) (fVar 0) (fW (.tuple (c_KEPT.map PyData.str))))))))
  (gRet (fC (.bool false)))
  gNext)
  (gRet (fAr (o1 allB) (aCons (fLc [1] (sName 1) (fiSeq (fVar 0)) bYes (fOp (inB false) (fVar 1) (fOp addB (fC (.str "abcdefghijklmnopqrstuvwxyz")) (fC (.str "0123456789"))))) aNil))))
def F_is_name : FD := runB 1 2 g_is_name
theorem d_is_name (T : Tx P K mg t) : FnD P w K mg base 1 t.f_is_name t.d_is_name ["value"] F_is_name :=
    fn_d T.F_is_name sc_is_name fun so cdv A outer s H hr => ⟨_, (dss_cons (ds_if (DW.dt (dw_or (dt_not (dt_val (de_isi T.z_isinstance T.z_str (by decide +kernel) (de_var 0)))) (dw_or (dt_not (dt_chain op_lt ops_lt op_le ops_le de_int (de_callB call_lenA cs_len T.z_len PySem.boot_len (da_cons (de_var 0) da_nil)) (de_gint T.c_MOST_LETTERS.choose_spec))) (dw_or (dt_nin hr (de_ix (de_var 0) de_int) (de_gstr T.c_SMALL.choose_spec)) (dw_or1 (dt_in hr (de_var 0) (de_gw T.g_KEPT (dp_strs T.w_KEPT (by decide +kernel))))))))) (dss_one (ds_ret de_bl)) dss_nil)
        (dss_one (ds_ret (de_callB (cr_all rfl) cs_all T.z_all (by decide +kernel) (da_cons (de_lc (own := [("sign", 1)]) N_is_name (defScope s_is_name)  rfl sc_is_name.nd (di_seq (de_var 0)) (by decide +kernel) (fun _ _ _ _ _ => (by refine DG.cast (dg_name 1 sc_is_name.nd) ?_; first | rfl | (dsimp only [Cx.blk, Cx.nox, cxOf] <;> rfl))) (by decide) (fun _ _ _ _ _ => dts_nil) (fun _ _ _ _ _ => (by refine DE.cast (de_in hr (de_var 1) (de_add (de_gstr T.c_SMALL.choose_spec) (de_gstr T.c_FIGURES.choose_spec))) ?_; first | rfl | (dsimp only [Cx.blk, Cx.nox, cxOf] <;> rfl)))) da_nil)))))⟩

def g__law_kept : SS := (gSeq (gAsg (sName 0) (fC (.str "again alike as at back beside blocks crossed crosses domain else feed first fits from goes grow halt hears")))
  (gSeq (gAsg (sName 0) (fOp addB (fVar 0) (fC (.str " if kept last left lot many mirrored none of once parts piece pipe program promise reads rim right"))))
  (gSeq (gAsg (sName 0) (fOp addB (fVar 0) (fC (.str " row sequence sheet silent stores table then turned walker where within without writes yes"))))
  (gRet (fMeth splitB (fVar 0) (fC (.str " ")))))))
def F__law_kept : FD := runB 0 1 g__law_kept
theorem d__law_kept (T : Tx P K mg t) : FnD P w K mg base 1 t.f__law_kept t.d__law_kept [] F__law_kept :=
    fn_d T.F__law_kept sc__law_kept fun so cdv A outer s H hr => ⟨_, (dss_cons (ds_set 0 sc__law_kept.nd de_str)
        (dss_cons (ds_set 0 sc__law_kept.nd (de_add (de_var 0) de_str))
        (dss_cons (ds_set 0 sc__law_kept.nd (de_add (de_var 0) de_str))
        (dss_one (ds_ret (de_split (de_var 0) de_str))))))⟩

def g__law_names_right : SS := (gSeq (gAsg (sName 1) (fAr lstB (aCons (fC (.str "a")) (aCons (fC (.str "z9")) (aCons (fOp smulB (fC (.str "m")) (fC (.int 12))) (aCons (fC (.str "h0")) (aCons (fC (.str "rows")) (aCons (fC (.str "halts")) (aCons (fC (.str "yes1")) (aCons (fOp addB (fC (.str "a")) (fOp smulB (fC (.str "0")) (fC (.int 11)))) (aCons (fC (.str "rimless")) (aCons (fC (.str "lefts")) aNil))))))))))))
  (gSeq (gAsg (sName 2) (fAr lstB (aCons (fC (.str "")) (aCons (fC (.str "1a")) (aCons (fOp smulB (fC (.str "m")) (fC (.int 13))) (aCons (fC (.str "A")) (aCons (fC (.str "a b")) (aCons (fC (.str "a-")) (aCons (fC (.str "a~")) (aCons (fC (.str "a ")) (aCons (fC (.str " a")) (aCons (fC (.str "9")) (aCons (fC (.str "a_")) (aCons (fC (.str "L")) (aCons (fC .none) (aCons (fC (.int 1)) (aCons (fC (.bool true)) (aCons (fAr tupB (aCons (fC (.str "a")) aNil)) (aCons (fAr lstB (aCons (fC (.str "a")) aNil)) aNil)))))))))))))))))))
  (gSeq (gIf (bOr (fTest (fOp (isB true) (fCall F_is_name (aCons (fCall F__law_of (aCons (fVar 0) (aCons (fVar 1) aNil))) aNil)) (fC (.bool true)))) (fTest (fOp (isB true) (fCall F_is_name (aCons (fCall F__law_of (aCons (fVar 0) (aCons (fCall F__law_kept aNil) aNil))) aNil)) (fC (.bool false)))))
  (gRet (fC (.bool false)))
  gNext)
  (gRet (fOp (isB false) (fCall F_is_name (aCons (fCall F__law_of (aCons (fVar 0) (aCons (fFrz 2) aNil))) aNil)) (fC (.bool false)))))))
def F__law_names_right : FD := runB 1 3 g__law_names_right
theorem d__law_names_right (T : Tx P K mg t) : FnD P w K mg base 3 t.f__law_names_right t.d__law_names_right ["source"] F__law_names_right :=
    fn_d T.F__law_names_right sc__law_names_right fun so cdv A outer s H hr => ⟨_, (dss_cons (ds_set 1 sc__law_names_right.nd (de_lst (da_cons de_str (da_cons de_str (da_cons (de_mulS de_str de_int) (da_cons de_str (da_cons de_str (da_cons de_str (da_cons de_str (da_cons (de_add de_str (de_mulS de_str de_int)) (da_cons de_str (da_cons de_str da_nil))))))))))))
        (dss_cons (ds_set 2 sc__law_names_right.nd (de_lst (da_cons de_str (da_cons de_str (da_cons (de_mulS de_str de_int) (da_cons de_str (da_cons de_str (da_cons de_str (da_cons de_str (da_cons de_str (da_cons de_str (da_cons de_str (da_cons de_str (da_cons de_str (da_cons de_non (da_cons de_int (da_cons de_bl (da_cons (de_tup (da_cons de_str da_nil)) (da_cons (de_lst (da_cons de_str da_nil)) da_nil)))))))))))))))))))
        (dss_cons (ds_if (DW.dt (dw_or (dt_isn (de_call (d_is_name T) (hr.mono (by decide)) T.m_is_name T.F_is_name.kp T.b_is_name (da_cons (de_call (d__law_of T) (hr.mono (by decide)) T.m__law_of T.F__law_of.kp T.b__law_of (da_cons (de_var 0) (da_cons (de_var 1) da_nil))) da_nil)) de_bl) (dw_or1 (dt_isn (de_call (d_is_name T) (hr.mono (by decide)) T.m_is_name T.F_is_name.kp T.b_is_name (da_cons (de_call (d__law_of T) (hr.mono (by decide)) T.m__law_of T.F__law_of.kp T.b__law_of (da_cons (de_var 0) (da_cons (de_call0 (d__law_kept T) (hr.mono (by decide)) T.m__law_kept T.F__law_kept.kp T.b__law_kept) da_nil))) da_nil)) de_bl)))) (dss_one (ds_ret de_bl)) dss_nil)
        (dss_one (ds_ret (de_is (de_call (d_is_name T) (hr.mono (by decide)) T.m_is_name T.F_is_name.kp T.b_is_name (da_cons (de_call (d__law_of T) (hr.mono (by decide)) T.m__law_of T.F__law_of.kp T.b__law_of (da_cons (de_var 0) (da_cons (de_frz 2) da_nil))) da_nil)) de_bl))))))⟩

def G_lexemes : SX := (xSeq (xLift (gPar (sCons (sName 1) (sCons (sName 2) sNil)) (aCons (fAr lstB aNil) (aCons (fCall F_lexeme_from (aCons (fVar 0) (aCons (fC (.int 0)) aNil))) aNil))))
  (xSeq (xWhile (fTest (fOp (eqB true) (fOp ixB (fVar 2) (fC (.int 0))) (fC (.str "end"))))
  (xSeq (xIf (fTest (fOp (eqB false) (fOp ixB (fVar 2) (fC (.int 0))) (fC (.str "wrong")))) (xRaise (fOp ixB (fVar 2) (fC (.int 2)))) (xLift gNext))
  (xSeq (xLift (gAppend 1 (fFrz 2)))
  (xLift (gAsg (sName 2) (fCall F_lexeme_from (aCons (fVar 0) (aCons (fOp addB (fOp ixB (fVar 2) (fC (.int 2))) (fAr (o1 lenB) (aCons (fOp ixB (fVar 2) (fC (.int 1))) aNil))) aNil))))))))
  (xLift (gRet (fMov 1)))))
def X_lexemes : FDX := runX 1 3 G_lexemes
theorem x_lexemes (T : Tx P K mg t) (so : SO) : FnGX P w K mg base 3 t.f_lexemes t.d_lexemes ["text"] (spX K so t.bC "place" X_lexemes) :=
    fn_x so T.F_lexemes sc_lexemes fun cdv A outer s H E hr =>
      have tk := takes_of (X := cxOf (L2.CX P w) P w K mg base N_lexemes "lexemes" (defScope s_lexemes) t.f_lexemes cdv A outer s H E) (E := E) rfl rfl rfl rfl
      have hp := passes_of (X := cxOf (L2.CX P w) P w K mg base N_lexemes "lexemes" (defScope s_lexemes) t.f_lexemes cdv A outer s H E) rfl
      have d := (dxs_cons (fld := "place") (C := t.bC) (W := fun cls d _ H => E cls d H) (dx_lift (ds_par2 1 2 rfl sc_lexemes.nd (da_cons (de_lst da_nil) (da_cons (de_call (d_lexeme_from T) (hr.mono (by decide)) T.m_lexeme_from T.F_lexeme_from.kp T.b_lexeme_from (da_cons (de_var 0) (da_cons de_int da_nil))) da_nil))))
        (dxs_cons (dx_while hp (dt_ne hr (de_ix (de_var 2) de_int) de_str) (dxs_cons (dx_if (dt_eq hr (de_ix (de_var 2) de_int) de_str) (dxs_one (dx_raise rfl T.err (hr.mono (by decide)) tk (de_ix (de_var 2) de_int))) (dxs_lift dss_nil))
        (dxs_cons (dx_lift (ds_app 1 (de_frz 2)))
        (dxs_one (dx_lift (ds_set 2 sc_lexemes.nd (de_call (d_lexeme_from T) (hr.mono (by decide)) T.m_lexeme_from T.F_lexeme_from.kp T.b_lexeme_from (da_cons (de_var 0) (da_cons (de_add (de_ix (de_var 2) de_int) (de_callB call_lenA cs_len T.z_len PySem.boot_len (da_cons (de_ix (de_var 2) de_int) da_nil))) da_nil)))))))))
        (dxs_one (dx_lift (ds_ret (de_mov 1))))) : DXs (cxOf (L2.CX P w) P w K mg base N_lexemes "lexemes" (defScope s_lexemes) t.f_lexemes cdv A outer s H E) so t.bC "place" (fun cls d _ H => E cls d H) (defBody s_lexemes) _ G_lexemes)
      ⟨_, d.pss, d.rd⟩
def g__law_told : SS := gTryR 1 X_lexemes (aCons (fVar 0) aNil)
def F__law_told : FD := runB 1 2 g__law_told
theorem d__law_told (T : Tx P K mg t) : FnD P w K mg base 4 t.f__law_told t.d__law_told ["text"] F__law_told :=
    fn_d (P := P) (w := w) (base := base) (k := 3) T.F__law_told sc__law_told fun so cdv A outer s H hr => ⟨_, (dss_one (ds_tryRet (i := 1) (fx := "lexemes") (cx := "BadText") (n := "error") rfl rfl sc__law_told.nd rfl rfl ⟨rfl, by decide, .inl T.err.g⟩ T.err.xf T.err.no T.err.te (x_lexemes T so) (hr.mono (by decide)) rfl T.m_lexemes T.F_lexemes.kp T.b_lexemes
      (mono_var (i := 0) mono_nil) (da_cons (so := so) (X := cxOf CX0 P w K mg base N__law_told "_law_told" (defScope s__law_told) t.f__law_told cdv A outer s H E0) (de_var (pos := ⟨0, 0, 0, 0⟩) 0) da_nil).rd (fun W pn xe => pa_cons (pv 0) pa_nil)))⟩

def g__law_odd : SS := (gSeq (gAsg (sName 1) (fAr lstB (aCons (fC (.str "(")) (aCons (fC (.str ")")) (aCons (fC (.str ".")) (aCons (fC (.str "_")) (aCons (fC (.str "A")) (aCons (fC (.str "Z")) (aCons (fC (.str "!")) (aCons (fC (.str "+")) (aCons (fC (.str "/")) (aCons (fC (.str "'")) (aCons (fC (.str "~")) (aCons (fC (.str "^")) (aCons (fC (.str "@")) (aCons (fC (.str "#")) (aCons (fC (.str "$")) (aCons (fC (.str "*")) (aCons (fC (.str "=")) (aCons (fC (.str "<")) (aCons (fC (.str ">")) aNil)))))))))))))))))))))
  (gRet (fCall F__law_of (aCons (fVar 0) (aCons (fOp addB (fVar 1) (fAr lstB (aCons (fC (.str "?")) (aCons (fC (.str "[")) (aCons (fC (.str "]")) (aCons (fC (.str "{")) (aCons (fC (.str "}")) (aCons (fC (.str "|")) (aCons (fC (.str "L")) (aCons (fC (.str "R")) aNil)))))))))) aNil)))))
def F__law_odd : FD := runB 1 2 g__law_odd
theorem d__law_odd (T : Tx P K mg t) : FnD P w K mg base 3 t.f__law_odd t.d__law_odd ["source"] F__law_odd :=
    fn_d T.F__law_odd sc__law_odd fun so cdv A outer s H hr => ⟨_, (dss_cons (ds_set 1 sc__law_odd.nd (de_lst (da_cons de_str (da_cons de_str (da_cons de_str (da_cons de_str (da_cons de_str (da_cons de_str (da_cons de_str (da_cons de_str (da_cons de_str (da_cons de_str (da_cons de_str (da_cons de_str (da_cons de_str (da_cons de_str (da_cons de_str (da_cons de_str (da_cons de_str (da_cons de_str (da_cons de_str da_nil)))))))))))))))))))))
        (dss_one (ds_ret (de_call (d__law_of T) (hr.mono (by decide)) T.m__law_of T.F__law_of.kp T.b__law_of (da_cons (de_var 0) (da_cons (de_add (de_var 1) (de_lst (da_cons de_str (da_cons de_str (da_cons de_str (da_cons de_str (da_cons de_str (da_cons de_str (da_cons de_str (da_cons de_str da_nil)))))))))) da_nil))))))⟩

abbrev l__law_read_1 : SS := (gSeq (gIf (fTest (fOp (inB false) (fVar 6) (fVar 4)))
  (gSeq (gAsg (sTup 2 (sCons (sName 3) (sCons (sName 2) sNil))) (fIf (fTest (fOp (eqB false) (fVar 2) (fC (.str "")))) (fAr tupB (aCons (fFrz 5) (aCons (fFrz 6) aNil))) (fAr tupB (aCons (fFrz 3) (aCons (fOp addB (fVar 2) (fVar 6)) aNil)))))
  gCnt)
  gNext)
  (gSeq (gIf (fTest (fOp (eqB true) (fVar 2) (fC (.str ""))))
  (gSeq (gAppend 1 (fAr tupB (aCons (fC (.str "word")) (aCons (fFrz 2) (aCons (fFrz 3) aNil)))))
  (gAsg (sName 2) (fC (.str ""))))
  gNext)
  (gIf (fTest (fOp (inB false) (fVar 6) (fAr tupB (aCons (fC (.str ",")) (aCons (fC (.str ":")) (aCons (fC (.str ";")) (aCons (fC (.str "-")) aNil)))))))
  (gAppend 1 (fAr tupB (aCons (fC (.str "sign")) (aCons (fFrz 6) (aCons (fFrz 5) aNil)))))
  (gIf (fTest (fOp (inB true) (fVar 6) (fAr tupB (aCons (fC (.str " ")) (aCons (fC (.str "\n")) aNil)))))
  (gRet (fMov 5))
  gNext))))
def g__law_read : SS := (gSeq (gPar (sCons (sName 1) (sCons (sName 2) (sCons (sName 3) sNil))) (aCons (fAr lstB aNil) (aCons (fC (.str "")) (aCons (fC (.int 0)) aNil))))
  (gSeq (gAsg (sName 4) (fC (.str "abcdefghijklmnopqrstuvwxyz0123456789")))
  (gSeq (gFor (sTup 2 (sCons (sName 5) (sCons (sName 6) sNil))) (fiAr enumAI (aCons (fOp addB (fVar 0) (fC (.str " "))) aNil))
  l__law_read_1)
  (gRet (fMov 1)))))
def F__law_read : FD := runB 1 7 g__law_read
theorem d__law_read (T : Tx P K mg t) : FnD P w K mg base 1 t.f__law_read t.d__law_read ["text"] F__law_read :=
    fn_d T.F__law_read sc__law_read fun so cdv A outer s H hr => ⟨_, (dss_cons (ds_par3 1 2 3 rfl sc__law_read.nd (da_cons (de_lst da_nil) (da_cons de_str (da_cons de_int da_nil))))
        (dss_cons (ds_set 4 sc__law_read.nd de_str)
        (dss_cons (ds_for PassesOwn.never rfl (di_enumA T.z_enumerate (da_cons (de_add (de_var 0) de_str) da_nil)) (dg_tup rfl (dgs_cons (dg_name 5 sc__law_read.nd) (dgs_cons (dg_name 6 sc__law_read.nd) dgs_nil))) (dss_cons (ds_if (dt_in hr (de_var 6) (de_var 4)) (dss_cons (ds_asg (de_if (h1 := tC .non) (dt_eq hr (de_var 2) de_str) (de_tup (da_cons (de_frz 5) (da_cons (de_frz 6) da_nil))) (de_tup (da_cons (de_frz 3) (da_cons (de_add (de_var 2) (de_var 6)) da_nil)))) (dg_tup rfl (dgs_cons (dg_name 3 sc__law_read.nd) (dgs_cons (dg_name 2 sc__law_read.nd) dgs_nil))))
        (dss_one ds_continue)) dss_nil)
        (dss_cons (ds_if (dt_ne hr (de_var 2) de_str) (dss_cons (ds_app 1 (de_tup (da_cons de_str (da_cons (de_frz 2) (da_cons (de_frz 3) da_nil)))))
        (dss_one (ds_set 2 sc__law_read.nd de_str))) dss_nil)
        (dss_one (ds_if (dt_in hr (de_var 6) (de_tup (da_cons de_str (da_cons de_str (da_cons de_str (da_cons de_str da_nil)))))) (dss_one (ds_app 1 (de_tup (da_cons de_str (da_cons (de_frz 6) (da_cons (de_frz 5) da_nil)))))) (dss_one (ds_if (dt_nin hr (de_var 6) (de_tup (da_cons de_str (da_cons de_str da_nil)))) (dss_one (ds_ret (de_mov 5))) dss_nil)))))))
        (dss_one (ds_ret (de_mov 1))))))⟩

abbrev l_law_1 : SS := (gSeq (gAsg (sName 3) (fMeth joinB (fC (.str "")) (fLc [4] (sName 4) (fiAr rng1I (aCons (fCall F__law_pick (aCons (fVar 1) (aCons (fC (.int 18)) aNil))) aNil)) bYes (fCall F__law_piece (aCons (fVar 1) aNil)))))
  (gSeq (gIf (fTest (fOp (eqB false) (fCall F__law_pick (aCons (fVar 1) (aCons (fC (.int 2)) aNil))) (fC (.int 0))))
  (gSeq (gAsg (sName 4) (fCall F__law_pick (aCons (fVar 1) (aCons (fOp addB (fAr (o1 lenB) (aCons (fVar 3) aNil)) (fC (.int 1))) aNil))))
  (gAsg (sName 3) (fOp addB (fOp addB (fSl (fVar 3) oNone (oSome (fVar 4))) (fCall F__law_odd (aCons (fVar 1) aNil))) (fSl (fVar 3) (oSome (fVar 4)) oNone))))
  gNext)
  (gIf (bOr (fTest (fOp (eqB true) (fAr (o1 reprB) (aCons (fCall F__law_told (aCons (fVar 3) aNil)) aNil)) (fAr (o1 reprB) (aCons (fCall F__law_read (aCons (fVar 3) aNil)) aNil)))) (bNot (fTest (fCall F__law_names_right (aCons (fVar 1) aNil)))))
  (gRet (fC (.bool false)))
  gNext)))
def g_law : SS := (gSeq (gFor (sName 2) (fiAr rng1I (aCons (fC (.int 4)) aNil))
  l_law_1)
  (gSeq (gPar (sCons (sName 5) (sCons (sName 6) sNil)) (aCons (fC (.str "a1")) (aCons (fCall F__law_of (aCons (fVar 1) (aCons (fAr lstB (aCons (fC (.str "b")) (aCons (fC (.str "2")) (aCons (fC (.str "of")) aNil)))) aNil))) aNil)))
  (gSeq (gIf (fTest (fOp (eqB true) (fAr (o1 reprB) (aCons (fCall F_lexemes (aCons (fOp addB (fOp addB (fVar 5) (fC (.str "\n"))) (fVar 6)) aNil)) aNil)) (fAr (o1 reprB) (aCons (fAr lstB (aCons (fAr tupB (aCons (fC (.str "word")) (aCons (fFrz 5) (aCons (fC (.int 0)) aNil)))) (aCons (fAr tupB (aCons (fC (.str "word")) (aCons (fFrz 6) (aCons (fC (.int 3)) aNil)))) aNil))) aNil))))
  (gRet (fC (.bool false)))
  gNext)
  (gSeq (gIf (fTest (fOp (eqB true) (fAr (o1 reprB) (aCons (fCall F_lexemes (aCons (fOp addB (fOp addB (fVar 5) (fC (.str "-"))) (fVar 6)) aNil)) aNil)) (fAr (o1 reprB) (aCons (fAr lstB (aCons (fAr tupB (aCons (fC (.str "word")) (aCons (fFrz 5) (aCons (fC (.int 0)) aNil)))) (aCons (fAr tupB (aCons (fC (.str "sign")) (aCons (fC (.str "-")) (aCons (fC (.int 2)) aNil)))) (aCons (fAr tupB (aCons (fC (.str "word")) (aCons (fFrz 6) (aCons (fC (.int 3)) aNil)))) aNil)))) aNil))))
  (gRet (fC (.bool false)))
  gNext)
  (gSeq (gIf (fTest (fOp (eqB true) (fAr (o1 reprB) (aCons (fCall F_lexemes (aCons (fOp addB (fVar 5) (fVar 6)) aNil)) aNil)) (fAr (o1 reprB) (aCons (fAr lstB (aCons (fAr tupB (aCons (fC (.str "word")) (aCons (fOp addB (fVar 5) (fVar 6)) (aCons (fC (.int 0)) aNil)))) aNil)) aNil))))
  (gRet (fC (.bool false)))
  gNext)
  (gRet (fOp (eqB false) (fAr (o1 reprB) (aCons (fLc [3] (sName 3) (fiSeq (fAr tupB (aCons (fC (.str "")) (aCons (fC (.str " \n")) (aCons (fC (.str "a;(")) (aCons (fC (.str "(a")) aNil)))))) bYes (fCall F__law_told (aCons (fVar 3) aNil))) aNil)) (fAr (o1 reprB) (aCons (fAr lstB (aCons (fAr lstB aNil) (aCons (fAr lstB aNil) (aCons (fC (.int 2)) (aCons (fC (.int 0)) aNil))))) aNil)))))))))
theorem d_law (T : Tx P K mg t) (plain : ∀ S : Src, ∃ ρ S', g_law (none :: some .src :: List.replicate 5 none) S = .ok (.rt (.imm (.bool true))) ρ S') : FnG P w K mg base 5 t.f_law t.d_law ["script"] (spLaw K) :=
    law_d T.F_law sc_law rfl (fun cdv A outer s H hr => ⟨_, _, _, rfl, ps_set (i := 1) sc_law.nd rfl (by first | exact .inl rfl | exact .inr rfl) (pe_callG (d__law_source T) (hr.mono (by decide)) (by rfl) T.m__law_source T.F__law_source.kp T.b__law_source (pa_cons (pv 0) pa_nil)), mkSrc, fun so => ⟨_, (dss_cons (ds_for PassesOwn.never rfl (di_rng1 T.z_range (da_cons de_int da_nil)) (dg_name 2 sc_law.nd) (dss_cons (ds_set 3 sc_law.nd (de_join de_str (de_lc (own := [("k", 4)]) N_law (defScope s_law)  rfl sc_law.nd (di_rng1 T.z_range (da_cons (de_call (d__law_pick T) (hr.mono (by decide)) T.m__law_pick T.F__law_pick.kp T.b__law_pick (da_cons (de_var 1) (da_cons de_int da_nil))) da_nil)) (by decide +kernel) (fun _ _ _ _ _ => (by refine DG.cast (dg_name 4 sc_law.nd) ?_; first | rfl | (dsimp only [Cx.blk, Cx.nox, cxOf] <;> rfl))) (by decide) (fun _ _ _ _ _ => dts_nil) (fun _ _ _ _ _ => (by refine DE.cast (de_call (d__law_piece T) (hr.mono (by decide)) T.m__law_piece T.F__law_piece.kp T.b__law_piece (da_cons (de_var 1) da_nil)) ?_; first | rfl | (dsimp only [Cx.blk, Cx.nox, cxOf] <;> rfl))))))
        (dss_cons (ds_if (dt_eq hr (de_call (d__law_pick T) (hr.mono (by decide)) T.m__law_pick T.F__law_pick.kp T.b__law_pick (da_cons (de_var 1) (da_cons de_int da_nil))) de_int) (dss_cons (ds_set 4 sc_law.nd (de_call (d__law_pick T) (hr.mono (by decide)) T.m__law_pick T.F__law_pick.kp T.b__law_pick (da_cons (de_var 1) (da_cons (de_add (de_callB call_lenA cs_len T.z_len PySem.boot_len (da_cons (de_var 3) da_nil)) de_int) da_nil))))
        (dss_one (ds_set 3 sc_law.nd (de_add (de_add (de_sl (de_var 3) do_none (do_some (de_var 4))) (de_call (d__law_odd T) (hr.mono (by decide)) T.m__law_odd T.F__law_odd.kp T.b__law_odd (da_cons (de_var 1) da_nil))) (de_sl (de_var 3) (do_some (de_var 4)) do_none))))) dss_nil)
        (dss_one (ds_if (DW.dt (dw_or (dt_ne hr (de_callB (call_reprA hr) cs_repr T.z_repr (by decide +kernel) (da_cons (de_call (d__law_told T) (hr.mono (by decide)) T.m__law_told T.F__law_told.kp T.b__law_told (da_cons (de_var 3) da_nil)) da_nil)) (de_callB (call_reprA hr) cs_repr T.z_repr (by decide +kernel) (da_cons (de_call (d__law_read T) (hr.mono (by decide)) T.m__law_read T.F__law_read.kp T.b__law_read (da_cons (de_var 3) da_nil)) da_nil))) (dw_or1 (dt_not (dt_val (de_call (d__law_names_right T) (hr.mono (by decide)) T.m__law_names_right T.F__law_names_right.kp T.b__law_names_right (da_cons (de_var 1) da_nil))))))) (dss_one (ds_ret de_bl)) dss_nil)))))
        (dss_cons (ds_par2 5 6 rfl sc_law.nd (da_cons de_str (da_cons (de_call (d__law_of T) (hr.mono (by decide)) T.m__law_of T.F__law_of.kp T.b__law_of (da_cons (de_var 1) (da_cons (de_lst (da_cons de_str (da_cons de_str (da_cons de_str da_nil)))) da_nil))) da_nil)))
        (dss_cons (ds_if (dt_ne hr (de_callB (call_reprA hr) cs_repr T.z_repr (by decide +kernel) (da_cons (de_call (d_lexemes T) (hr.mono (by decide)) T.m_lexemes T.F_lexemes.kp T.b_lexemes (da_cons (de_add (de_add (de_var 5) de_str) (de_var 6)) da_nil)) da_nil)) (de_callB (call_reprA hr) cs_repr T.z_repr (by decide +kernel) (da_cons (de_lst (da_cons (de_tup (da_cons de_str (da_cons (de_frz 5) (da_cons de_int da_nil)))) (da_cons (de_tup (da_cons de_str (da_cons (de_frz 6) (da_cons de_int da_nil)))) da_nil))) da_nil))) (dss_one (ds_ret de_bl)) dss_nil)
        (dss_cons (ds_if (dt_ne hr (de_callB (call_reprA hr) cs_repr T.z_repr (by decide +kernel) (da_cons (de_call (d_lexemes T) (hr.mono (by decide)) T.m_lexemes T.F_lexemes.kp T.b_lexemes (da_cons (de_add (de_add (de_var 5) de_str) (de_var 6)) da_nil)) da_nil)) (de_callB (call_reprA hr) cs_repr T.z_repr (by decide +kernel) (da_cons (de_lst (da_cons (de_tup (da_cons de_str (da_cons (de_frz 5) (da_cons de_int da_nil)))) (da_cons (de_tup (da_cons de_str (da_cons de_str (da_cons de_int da_nil)))) (da_cons (de_tup (da_cons de_str (da_cons (de_frz 6) (da_cons de_int da_nil)))) da_nil)))) da_nil))) (dss_one (ds_ret de_bl)) dss_nil)
        (dss_cons (ds_if (dt_ne hr (de_callB (call_reprA hr) cs_repr T.z_repr (by decide +kernel) (da_cons (de_call (d_lexemes T) (hr.mono (by decide)) T.m_lexemes T.F_lexemes.kp T.b_lexemes (da_cons (de_add (de_var 5) (de_var 6)) da_nil)) da_nil)) (de_callB (call_reprA hr) cs_repr T.z_repr (by decide +kernel) (da_cons (de_lst (da_cons (de_tup (da_cons de_str (da_cons (de_add (de_var 5) (de_var 6)) (da_cons de_int da_nil)))) da_nil)) da_nil))) (dss_one (ds_ret de_bl)) dss_nil)
        (dss_one (ds_ret (de_eq hr (de_callB (call_reprA hr) cs_repr T.z_repr (by decide +kernel) (da_cons (de_lc (own := [("text", 3)]) N_law (defScope s_law)  rfl sc_law.nd (di_seq (de_tup (da_cons de_str (da_cons de_str (da_cons de_str (da_cons de_str da_nil)))))) (by decide +kernel) (fun _ _ _ _ _ => (by refine DG.cast (dg_name 3 sc_law.nd) ?_; first | rfl | (dsimp only [Cx.blk, Cx.nox, cxOf] <;> rfl))) (by decide) (fun _ _ _ _ _ => dts_nil) (fun _ _ _ _ _ => (by refine DE.cast (de_call (d__law_told T) (hr.mono (by decide)) T.m__law_told T.F__law_told.kp T.b__law_told (da_cons (de_var 3) da_nil)) ?_; first | rfl | (dsimp only [Cx.blk, Cx.nox, cxOf] <;> rfl)))) da_nil)) (de_callB (call_reprA hr) cs_repr T.z_repr (by decide +kernel) (da_cons (de_lst (da_cons (de_lst da_nil) (da_cons (de_lst da_nil) (da_cons de_int (da_cons de_int da_nil))))) da_nil))))))))))⟩⟩) plain


end
end Lw
set_option maxRecDepth 100000
set_option maxHeartbeats 1000000
namespace DL
open PySem PySem.Spec PyProof.Rows L2 PySem.W NdefX LamX
theorem exm_slf {K : Frag} {S : Addr} (h1 : subIn K (.ref S) (.type "BaseException") = some true) (h2 : isClsIn K S = true) (h3 : typeIn K (.ref S) = some (.type "type")) (h4 : subIn K (.ref S) (.ref S) = some true) :
    exmOne K (.ref S) (.ref S) = some true := by
  have e1 : (subIn K (.ref S) (.type "BaseException") == some true) = true := by rw [h1] <;> rfl
  have e2 : ((clsIn K S).isSome && typeIn K (.ref S) == some (.type "type")) = true := by
    have h2' : (clsIn K S).isSome = true := h2
    rw [h2', h3] <;> rfl
  show (if (subIn K (.ref S) (.type "BaseException") == some true) = true then (if ((clsIn K S).isSome && typeIn K (.ref S) == some (.type "type")) = true then subIn K (.ref S) (.ref S) else none) else none) = some true
  rw [if_pos e1, if_pos e2]
  exact h4
theorem strTup_of {K : Frag} {a : Addr} {od : Option Addr} {its : Array Value} {n : Nat} {sl : Array (Option Value)} {ys : List Str} (h : K.lookup a = some ⟨.type "tuple", od, .seq its n, sl⟩) (v : strsV its.toList = some ys) : strTup K a = some ys := by
  unfold strTup
  rw [h]
  show (if Value.type "tuple" = Value.type "tuple" then strsV its.toList else none) = _
  rw [if_pos rfl, v]
theorem nxt_of {K : Frag} {C B : Addr} {nm qq nmB qB : Str} {Nn NB : Addr} {bs bsB bm bmB : List Value} {hd hdB : Bool} {sn snB : List Str} {sub subB : List Value} {ab abB : Bool} {col colB : Option Bool} {dd ddB : Option Addr} {m0 m1 m2 m3 m5 n0 n1 n2 n3 n5 : Option Value} {nw nwB : String}
    (eL : K.lookup C = some (excClassObj nm qq C Nn bs bm hd sn sub ab col dd m0 m1 m2 m3 m5 nw)) (eLB : K.lookup B = some (excClassObj nmB qB B NB bsB bmB hdB snB subB abB colB ddB n0 n1 n2 n3 n5 nwB)) (eBm : bm = .ref B :: bmB)
    {r : Option (Option Value)} (eBi : findIn K (.ref B) "__init__" = r) : ks_superIn K C C "__init__" = r := by
  subst eBm
  have e1 : findIn K (.ref B) "__init__" = alongIn K "__init__" (.ref B :: bmB) := by
    show (match K.lookup B with
      | some ⟨_, _, .cls cd, _⟩ => alongIn K "__init__" cd.mro
      | _ => none) = _
    rw [eLB]
  have e2 : ∃ cd, clsIn K C = some cd ∧ cd.mro = .ref C :: .ref B :: bmB := by unfold clsIn; rw [eL]; exact ⟨_, rfl, rfl⟩
  obtain ⟨cd, h1, h2⟩ := e2
  unfold ks_superIn
  rw [h1]
  show alongIn K "__init__" ((cd.mro.dropWhile (· != .ref C)).drop 1) = r
  rw [h2, ESX.drop_own, ← e1, eBi]
def clsBody : Stmt → List Stmt
  | .ClassDef (body := b) .. => b
  | _ => []
def iniSt (c : Stmt) : Stmt := (clsBody c).getD 0 (.Pass ⟨0, 0, 0, 0⟩)
section
variable {P : Program} {K : Frag} {h : Heap} {mg : Str → Option Value} {C B cc cda fI : Addr} {c : Stmt} {x q : Str} {pI : IniP}
/-- the facts of an error class with the field place, gathered -/
theorem err_mk (X : K.In h) (G : h.Ns mainGlobals mg) {nm qq : Str} {Nn : Addr} {bs : List Value} {sn : List Str} {sub : List Value} {ab : Bool} {col : Option Bool} {dd : Option Addr} {m0 m1 m2 m3 m5 : Option Value}
    {ocI dcI pmI ctI : Value} {odI anI : Option Addr} {slI : Array (Option Value)} {ccl cl : Value} {cdd cld : Option Addr} {vs : Array Value} {ccs csl : Array (Option Value)} {fl : Str} {tf : Tok} {bm : List Value}
    (eC : nsIn K mainGlobals x = some (some (.ref C)))
    (eL : K.lookup C = some (excClassObj nm qq C Nn bs bm true sn sub ab col dd m0 m1 m2 m3 m5 "ValueError.__new__")) (eV : PySem.HandSPX.refsVE bm = true)
    (eSa : findIn K (.ref C) "__setattr__" = some (some (.builtin "object.__setattr__"))) (eGa : findIn K (.ref C) "__getattribute__" = some (some (.builtin "BaseException.__getattribute__"))) (eGg : findIn K (.ref C) "__getattr__" = some none) (eNo : findIn K (.ref C) "place" = some none)
    (eI : findIn K (.ref C) "__init__" = some (some (.ref fI))) (eT : typeIn K (.ref fI) = some (.type "function"))
    (eF : K.lookup fI = some ⟨ocI, odI, .func (fnX "__init__" q (defArgs (iniSt c)) (defBody (iniSt c)) (defScope (iniSt c)) [(("__class__" : Str), cc)] .none .none dcI pmI anI (.ref cda) ctI), slI⟩) (eCd : codeIn K (.ref cda) q = true)
    (eK : K.lookup cda = some ⟨ccl, cdd, .fields vs, ccs⟩) (eVs : vs[2]? = some (.str fl tf)) (eFl : ((P.main.file : Str) == fl) = true) (eTop : (P.main.scope.names.lookup ("super" : Str)).isSome = false)
    (eCell : K.lookup cc = some ⟨cl, cld, .cell (some (.ref C)), csl⟩) (eMro : mroIn K C (.ref C) = some true) (eOpq : nsIn K cStatics "thirdparty.any" = some none) (eNx : ks_superIn K C C "__init__" = some (some (.builtin "ValueError.__init__"))) (eSv : subIn K (.ref C) (.type "ValueError") = some true)
    (eSup : nsIn K mainGlobals "super" = some none) (eKp : keepIn K (.ref C) = true) (eBe : subIn K (.ref C) (.type "BaseException") = some true) (eTy : typeIn K (.ref C) = some (.type "type")) (eHd : hasDictIn K C = true) (eCl : isClsIn K C = true) (eSs : subIn K (.ref C) (.ref C) = some true)
    (hA : defArgs (iniSt c) = iniA "place" pI) (hB : defBody (iniSt c) = iniB "place" pI) (S : NScope ["self", "place", "__class__"] ["self", "place"] ["__class__"] (defScope (iniSt c))) (hs : (defScope (iniSt c)).names.lookup ("self" : Str) = some .local) (hp : (defScope (iniSt c)).names.lookup ("place" : Str) = some .local)
    (hsu : (defScope (iniSt c)).names.lookup ("super" : Str) = some .globalImplicit) (hcl : (defScope (iniSt c)).names.lookup ("__class__" : Str) = some .free)
    {pl : Sem Bool} (hm : ∀ L, eval (.Call (.Attribute (.Call (.Name "super" pI.s0) [] [] pI.s1) "__init__" pI.s2) [.Name "place" pI.s3] [] pI.s4) (envX q (defScope (iniSt c)) L fI (.ref cda) [(("__class__" : Str), cc)]) = (do
      let ov ← attributeBase (.Call (.Name "super" pI.s0) [] [] pI.s1) "__init__" (envX q (defScope (iniSt c)) L fI (.ref cda) [(("__class__" : Str), cc)]) (eval (.Call (.Name "super" pI.s0) [] [] pI.s1) (envX q (defScope (iniSt c)) L fI (.ref cda) [(("__class__" : Str), cc)]))
      standAt pI.s2.atName
      let (fn, first) ← holding [ov] (getMethod ov "__init__" pl)
      callWith pI.s4 fn first (backTo pI.s4 (starEach [.Name "place" pI.s3] (envX q (defScope (iniSt c)) L fI (.ref cda) [(("__class__" : Str), cc)]))) [])) :
    ErrF P K mg x "place" C fI (fnX "__init__" q (defArgs (iniSt c)) (defBody (iniSt c)) (defScope (iniSt c)) [(("__class__" : Str), cc)] .none .none dcI pmI anI (.ref cda) ctI) := by
  have T : OexC K C := ⟨⟨nm, qq, Nn, bs, bm, sn, sub, ab, col, dd, m0, m1, m2, m3, m5, eL, eV⟩, eSa, eBe, eTy, eKp⟩
  have U : SuF P K mg ["self", "place", "__class__"] ⟨"__init__", q, defArgs (iniSt c), defBody (iniSt c), defScope (iniSt c), [(("__class__" : Str), cc)], cda⟩ fI C C cc "self" :=
    { fn := ⟨_, _, _, _, _, _, _, _, _, eF⟩, cd := eCd, file := ⟨_, _, _, _, _, _, eK, eVs, eFl⟩, clo := rfl, cell := ⟨_, _, _, eCell⟩, clsD := Option.isSome_iff_exists.mp eCl, sub := eMro, first := ⟨_, by show ((defArgs (iniSt c)).posonlyargs ++ (defArgs (iniSt c)).args).head? = _; rw [hA]; rfl, rfl⟩,
      n0 := rfl, kself := hs, ksup := hsu, kcls := hcl, kind := S.kind, sup := mg_none_of X G eSup, top := eTop, opq := eOpq, nxt := eNx, subV := eSv }
  refine ⟨mg_of X G eC, T, ⟨eGa, eGg, eBe, eHd⟩, eNo, eI, eT, exm_slf eBe eCl eTy eSs, Binds.all fun us hl => ?_, fun w base => place_ok T U hA hB S hp eNo hm ⟨_, _, _, _, _, _, _, _, _, rfl, eF⟩⟩
  rw [hA]
  match us, hl with
  | [_, _], _ => rfl
end
end DL
set_option maxRecDepth 100000
set_option maxHeartbeats 1000000
namespace DL
open PySem PySem.Spec PyProof.Rows L2
/-! ### the ends of readings that may raise, step by step -/
section
variable {P : FlX → En → Src → Prop} {ρ : En} {S : Src} {c : SB} {g1 g2 : SX} {g : SS} {fe : SE}
def NxX (P : FlX → En → Src → Prop) (Q : En → Src → Prop) (fl : FlX) (ρ : En) (S : Src) : Prop := match fl with
  | .fl .nx => Q ρ S
  | fl => P fl ρ S
theorem p_xseq (h : (g1 ρ S).Post (NxX P fun ρ S => (g2 ρ S).Post P)) : (xSeq g1 g2 ρ S).Post P := by
  unfold xSeq
  rw [R.post_bind]
  refine h.imp fun fl ρ S h => ?_
  cases fl with
  | ex d => exact h
  | fl f => cases f <;> exact h
theorem p_xlift (h : (g ρ S).Post fun f ρ S => P (.fl f) ρ S) : (xLift g ρ S).Post P := by
  unfold xLift
  rw [R.post_bind]
  exact h.imp fun fl ρ S h => h
theorem p_xif (h : (c ρ S).Post (Bh (fun ρ S => (g1 ρ S).Post P) fun ρ S => (g2 ρ S).Post P)) : (xIf c g1 g2 ρ S).Post P := by
  unfold xIf
  rw [R.post_bind]
  refine h.imp fun k ρ S h => ?_
  cases k <;> exact h
theorem p_xraise {d : PyData} (h : (fe ρ S).Post fun b ρ S => ∃ d, b = .imm d ∧ P (.ex d) ρ S) : (xRaise fe ρ S).Post P := by
  unfold xRaise
  rw [R.post_bind]
  refine h.imp fun b ρ S h => ?_
  obtain ⟨d, rfl, h⟩ := h
  exact h
theorem p_xwhile {gx : SX} (Y : Nat → En → Src → Prop) {k : Nat} (hk : k < FU) (h0 : Y k ρ S)
    (hs : ∀ k ρ S, Y k ρ S → (c ρ S).Post (Bh (fun ρ S => (gx ρ S).Post fun fl ρ S => match fl with
      | .fl .nx => ∃ j, j < k ∧ Y j ρ S
      | .fl .ct => ∃ j, j < k ∧ Y j ρ S
      | .fl .bk => P (.fl .nx) ρ S
      | fl => P fl ρ S) fun ρ S => P (.fl .nx) ρ S)) : (xWhile c gx ρ S).Post P := by
  have go : ∀ (n k : Nat) (ρ : En) (S : Src), k < n → Y k ρ S → (whX c gx n ρ S).Post P := fun n => by
    induction n with
    | zero => intro k ρ S h; omega
    | succ n ih =>
      intro k ρ S hk hy
      unfold whX
      rw [R.post_bind]
      refine (hs k ρ S hy).imp fun b ρ S h => ?_
      cases b with
      | false => exact h
      | true =>
        show (((gx ρ S).bind _ : R FlX)).Post P
        rw [R.post_bind]
        refine R.Post.imp (show (gx ρ S).Post _ from h) fun fl ρ S h => ?_
        cases fl with
        | ex d => exact h
        | fl f =>
          cases f with
          | nx => obtain ⟨j, hj, y⟩ := h; exact ih j ρ S (by omega) y
          | ct => obtain ⟨j, hj, y⟩ := h; exact ih j ρ S (by omega) y
          | bk => exact h
          | rt b => exact h
  exact go FU k ρ S hk h0
/-- a def that may raise, by its reading -/
theorem runX_of {m n : Nat} {bs : List Bd} {gx : SX} {b : Bd ⊕ PyData → Src → Prop} (hl : bs.length = m) (ho : (bs.all fun b => !b.own && !b.isBor) = true) (h : (gx (bs.map some ++ List.replicate (n - m) none) S).Post fun fl ρ' S' => match fl with
    | .fl (.rt r) => b (.inl r) S'
    | .fl .nx => b (.inl (.imm .none)) S'
    | .ex d => b (.inr d) S'
    | _ => False) : ∃ r S', runX m n gx bs S = some (r, S') ∧ b r S' := by
  obtain ⟨fl, ρ', S', e, h⟩ := h.get
  unfold runX
  rw [if_pos (by rw [hl, ho]; simp), e]
  cases fl with
  | ex d => exact ⟨_, _, rfl, h⟩
  | fl f =>
    cases f with
    | rt r => exact ⟨_, _, rfl, h⟩
    | nx => exact ⟨_, _, rfl, h⟩
    | bk => exact h.elim
    | ct => exact h.elim
end
end DL
set_option maxRecDepth 100000
set_option maxHeartbeats 1000000
namespace Lw
open PySem PySem.Spec PyProof.Rows L2 DL
/-! ### runs of signs -/
def rb {α : Type} [DecidableEq α] (cs set : List α) (p : Nat) : Nat := p + ((cs.drop p).takeWhile fun c => decide (c ∈ set)).length
theorem rb_stop {α : Type} [DecidableEq α] {cs set : List α} {p : Nat} (h : ∀ c, cs[p]? = some c → c ∉ set) : rb cs set p = p := by
  unfold rb
  cases e : cs[p]? with
  | none => rw [List.drop_eq_nil_of_le (by simpa using e)]; rfl
  | some c =>
    have hp : p < cs.length := (List.getElem?_eq_some_iff.mp e).1
    rw [List.drop_eq_getElem_cons hp, List.takeWhile_cons_of_neg]
    · rfl
    · have : cs[p] = c := (List.getElem?_eq_some_iff.mp e).2
      rw [this]
      simpa using h c e
theorem rb_go {α : Type} [DecidableEq α] {cs set : List α} {p : Nat} {c : α} (e : cs[p]? = some c) (h : c ∈ set) : rb cs set p = rb cs set (p + 1) := by
  unfold rb
  have hp : p < cs.length := (List.getElem?_eq_some_iff.mp e).1
  have e2 : cs[p] = c := (List.getElem?_eq_some_iff.mp e).2
  rw [List.drop_eq_getElem_cons hp, List.takeWhile_cons_of_pos (by rw [e2]; simpa using h), List.length_cons]
  omega
theorem rb_le {α : Type} [DecidableEq α] {cs set : List α} {p : Nat} (h : p ≤ cs.length) : rb cs set p ≤ cs.length := by
  unfold rb
  have := (List.takeWhile_sublist (fun c => decide (c ∈ set)) (l := cs.drop p)).length_le
  rw [List.length_drop] at this
  omega
theorem len_ok {t : Str} (h : t.length ≤ 1000000) : o1 lenB [.imm (.str t)] = some (.imm (.int (t.length : Nat))) := by
  show (if t.length ≤ 1000000 then some (Bd.imm (.int t.length)) else none) = _
  rw [if_pos h]
theorem ix_s {t : Str} {p : Nat} {c : _} (h : t.length ≤ 1000000) (e : t.cps.toList[p]? = some c) : ixB (.imm (.str t)) (.imm (.int (p : Nat))) = some (.imm (.str ⟨#[c]⟩)) := by
  show (if t.length ≤ 1000000 then (atI t.cps.toList (p : Nat)).map fun c => Bd.imm (.str ⟨#[c]⟩) else none) = _
  rw [if_pos h, atI_nat e]
  rfl
theorem in_s {s : Str} {c : _} : inB false (.imm (.str ⟨#[c]⟩)) (.imm (.str s)) = some (.imm (.bool (decide (c ∈ s.cps.toList)))) := rfl
theorem len_cps {t : Str} : t.cps.toList.length = t.length := by simp [Str.length]
theorem rb_ok {t s : Str} {p : Nat} (ht : t.length ≤ 100000) (hp : p ≤ t.length) {S : Src} : ∃ b S', F_run_behind [.imm (.str t), .imm (.int (p : Nat)), .imm (.str s)] S = some (b, S') ∧ b = .imm (.int (rb t.cps.toList s.cps.toList p : Nat)) := by
  have bl := len_ok (t := t) (by omega)
  refine run_of rfl rfl ?_
  unfold g_run_behind
  (repeat (first | with_reducible refine p_seq ?_ | with_reducible refine nx_nx ?_ | with_reducible refine nx_rt ?_ | with_reducible refine p_if ?_ | with_reducible refine p_asg ?_ | with_reducible refine p_par ?_ | with_reducible refine p_parN ?_ | with_reducible refine p_ret ?_ | with_reducible refine p_retN ?_ | with_reducible refine p_next ?_ | with_reducible refine p_brk ?_ | with_reducible refine p_cnt ?_ | with_reducible refine p_drop ?_ | with_reducible refine p_appE ?_ | with_reducible refine p_lenE ?_ | with_reducible refine p_setI ?_ | with_reducible refine p_dput ?_ | with_reducible refine p_for ?_ | with_reducible refine p_varE ?_ | with_reducible refine p_frzE ?_ | with_reducible refine p_movE ?_ | with_reducible refine p_c ?_ | with_reducible refine p_op ?_ | with_reducible refine p_un ?_ | with_reducible refine p_ar ?_ | with_reducible refine p_me ?_ | with_reducible refine p_ife ?_ | with_reducible refine p_nil ?_ | with_reducible refine p_cons ?_ | with_reducible refine p_call ?_ | with_reducible refine p_lc ?_ | with_reducible refine p_sl ?_ | with_reducible refine p_on ?_ | with_reducible refine p_os ?_ | with_reducible refine p_fis ?_ | with_reducible refine p_rng1 ?_ | with_reducible refine p_rng2 ?_ | with_reducible refine p_fia ?_ | with_reducible refine p_din ?_ | with_reducible refine p_newT ?_ | with_reducible refine p_newK ?_ | with_reducible refine p_test ?_ | with_reducible refine p_band ?_ | with_reducible refine p_bor ?_ | with_reducible refine p_bnot ?_ | with_reducible refine p_yes ?_ | with_reducible refine p_or ?_ | with_reducible refine p_and ?_ | with_reducible refine p_not ?_ | with_reducible refine bh_t ?_ | with_reducible refine bh_f ?_ | with_reducible refine bh_nt ?_ | with_reducible refine bh_nf ?_ | ((with_reducible refine bh_r ?_); refine Exists.intro _ (And.intro rfl ?_)) | ((with_reducible refine ex_id ?_); first | refine Exists.intro _ (And.intro rfl ?_) | refine Exists.intro _ (Exists.intro _ (And.intro rfl ?_))) | ((with_reducible refine and_id ?_); refine And.intro rfl ?_)))
  refine p_while (fun _ => True) (fun k ρ => ∃ q : Nat, ρ = [some (.imm (.str t)), some (.imm (.int (q : Nat))), some (.imm (.str s))] ∧ q ≤ t.length ∧ k = t.length - q ∧ rb t.cps.toList s.cps.toList q = rb t.cps.toList s.cps.toList p) (k := t.length - p) (by unfold FU; omega) ⟨p, rfl, hp, rfl, rfl⟩ ?_
  rintro k ρ S ⟨q, rfl, hq, rfl, hr⟩
  (repeat (first | with_reducible refine ⟨_, bl, ?_⟩ | with_reducible refine p_seq ?_ | with_reducible refine nx_nx ?_ | with_reducible refine nx_rt ?_ | with_reducible refine p_if ?_ | with_reducible refine p_asg ?_ | with_reducible refine p_par ?_ | with_reducible refine p_parN ?_ | with_reducible refine p_ret ?_ | with_reducible refine p_retN ?_ | with_reducible refine p_next ?_ | with_reducible refine p_brk ?_ | with_reducible refine p_cnt ?_ | with_reducible refine p_drop ?_ | with_reducible refine p_appE ?_ | with_reducible refine p_lenE ?_ | with_reducible refine p_setI ?_ | with_reducible refine p_dput ?_ | with_reducible refine p_for ?_ | with_reducible refine p_varE ?_ | with_reducible refine p_frzE ?_ | with_reducible refine p_movE ?_ | with_reducible refine p_c ?_ | with_reducible refine p_op ?_ | with_reducible refine p_un ?_ | with_reducible refine p_ar ?_ | with_reducible refine p_me ?_ | with_reducible refine p_ife ?_ | with_reducible refine p_nil ?_ | with_reducible refine p_cons ?_ | with_reducible refine p_call ?_ | with_reducible refine p_lc ?_ | with_reducible refine p_sl ?_ | with_reducible refine p_on ?_ | with_reducible refine p_os ?_ | with_reducible refine p_fis ?_ | with_reducible refine p_rng1 ?_ | with_reducible refine p_rng2 ?_ | with_reducible refine p_fia ?_ | with_reducible refine p_din ?_ | with_reducible refine p_newT ?_ | with_reducible refine p_newK ?_ | with_reducible refine p_test ?_ | with_reducible refine p_band ?_ | with_reducible refine p_bor ?_ | with_reducible refine p_bnot ?_ | with_reducible refine p_yes ?_ | with_reducible refine p_or ?_ | with_reducible refine p_and ?_ | with_reducible refine p_not ?_ | with_reducible refine bh_t ?_ | with_reducible refine bh_f ?_ | with_reducible refine bh_nt ?_ | with_reducible refine bh_nf ?_ | ((with_reducible refine bh_r ?_); refine Exists.intro _ (And.intro rfl ?_)) | ((with_reducible refine ex_id ?_); first | refine Exists.intro _ (And.intro rfl ?_) | refine Exists.intro _ (Exists.intro _ (And.intro rfl ?_))) | ((with_reducible refine and_id ?_); refine And.intro rfl ?_)))
  refine bh_d (fun y => ?_) fun y => ?_
  · have hq1 : q < t.cps.toList.length := by rw [len_cps]; omega
    have e := List.getElem?_eq_getElem hq1
    have bx := ix_s (t := t) (by omega) e
    (repeat (first | with_reducible refine ⟨_, bx, ?_⟩ | with_reducible refine ⟨_, in_s, ?_⟩ | with_reducible refine p_seq ?_ | with_reducible refine nx_nx ?_ | with_reducible refine nx_rt ?_ | with_reducible refine p_if ?_ | with_reducible refine p_asg ?_ | with_reducible refine p_par ?_ | with_reducible refine p_parN ?_ | with_reducible refine p_ret ?_ | with_reducible refine p_retN ?_ | with_reducible refine p_next ?_ | with_reducible refine p_brk ?_ | with_reducible refine p_cnt ?_ | with_reducible refine p_drop ?_ | with_reducible refine p_appE ?_ | with_reducible refine p_lenE ?_ | with_reducible refine p_setI ?_ | with_reducible refine p_dput ?_ | with_reducible refine p_for ?_ | with_reducible refine p_varE ?_ | with_reducible refine p_frzE ?_ | with_reducible refine p_movE ?_ | with_reducible refine p_c ?_ | with_reducible refine p_op ?_ | with_reducible refine p_un ?_ | with_reducible refine p_ar ?_ | with_reducible refine p_me ?_ | with_reducible refine p_ife ?_ | with_reducible refine p_nil ?_ | with_reducible refine p_cons ?_ | with_reducible refine p_call ?_ | with_reducible refine p_lc ?_ | with_reducible refine p_sl ?_ | with_reducible refine p_on ?_ | with_reducible refine p_os ?_ | with_reducible refine p_fis ?_ | with_reducible refine p_rng1 ?_ | with_reducible refine p_rng2 ?_ | with_reducible refine p_fia ?_ | with_reducible refine p_din ?_ | with_reducible refine p_newT ?_ | with_reducible refine p_newK ?_ | with_reducible refine p_test ?_ | with_reducible refine p_band ?_ | with_reducible refine p_bor ?_ | with_reducible refine p_bnot ?_ | with_reducible refine p_yes ?_ | with_reducible refine p_or ?_ | with_reducible refine p_and ?_ | with_reducible refine p_not ?_ | with_reducible refine bh_t ?_ | with_reducible refine bh_f ?_ | with_reducible refine bh_nt ?_ | with_reducible refine bh_nf ?_ | ((with_reducible refine bh_r ?_); refine Exists.intro _ (And.intro rfl ?_)) | ((with_reducible refine ex_id ?_); first | refine Exists.intro _ (And.intro rfl ?_) | refine Exists.intro _ (Exists.intro _ (And.intro rfl ?_))) | ((with_reducible refine and_id ?_); refine And.intro rfl ?_)))
    by_cases m : t.cps.toList[q] ∈ s.cps.toList
    · rw [if_pos (decide_eq_true m)]
      (repeat (first | with_reducible refine p_seq ?_ | with_reducible refine nx_nx ?_ | with_reducible refine nx_rt ?_ | with_reducible refine p_if ?_ | with_reducible refine p_asg ?_ | with_reducible refine p_par ?_ | with_reducible refine p_parN ?_ | with_reducible refine p_ret ?_ | with_reducible refine p_retN ?_ | with_reducible refine p_next ?_ | with_reducible refine p_brk ?_ | with_reducible refine p_cnt ?_ | with_reducible refine p_drop ?_ | with_reducible refine p_appE ?_ | with_reducible refine p_lenE ?_ | with_reducible refine p_setI ?_ | with_reducible refine p_dput ?_ | with_reducible refine p_for ?_ | with_reducible refine p_varE ?_ | with_reducible refine p_frzE ?_ | with_reducible refine p_movE ?_ | with_reducible refine p_c ?_ | with_reducible refine p_op ?_ | with_reducible refine p_un ?_ | with_reducible refine p_ar ?_ | with_reducible refine p_me ?_ | with_reducible refine p_ife ?_ | with_reducible refine p_nil ?_ | with_reducible refine p_cons ?_ | with_reducible refine p_call ?_ | with_reducible refine p_lc ?_ | with_reducible refine p_sl ?_ | with_reducible refine p_on ?_ | with_reducible refine p_os ?_ | with_reducible refine p_fis ?_ | with_reducible refine p_rng1 ?_ | with_reducible refine p_rng2 ?_ | with_reducible refine p_fia ?_ | with_reducible refine p_din ?_ | with_reducible refine p_newT ?_ | with_reducible refine p_newK ?_ | with_reducible refine p_test ?_ | with_reducible refine p_band ?_ | with_reducible refine p_bor ?_ | with_reducible refine p_bnot ?_ | with_reducible refine p_yes ?_ | with_reducible refine p_or ?_ | with_reducible refine p_and ?_ | with_reducible refine p_not ?_ | with_reducible refine bh_t ?_ | with_reducible refine bh_f ?_ | with_reducible refine bh_nt ?_ | with_reducible refine bh_nf ?_ | ((with_reducible refine bh_r ?_); refine Exists.intro _ (And.intro rfl ?_)) | ((with_reducible refine ex_id ?_); first | refine Exists.intro _ (And.intro rfl ?_) | refine Exists.intro _ (Exists.intro _ (And.intro rfl ?_))) | ((with_reducible refine and_id ?_); refine And.intro rfl ?_)))
      exact ⟨t.length - (q + 1), by omega, q + 1, rfl, by omega, rfl, by rw [← hr, rb_go e m]⟩
    · rw [if_neg (by rw [decide_eq_false m]; exact Bool.false_ne_true)]
      (repeat (first | with_reducible refine p_seq ?_ | with_reducible refine nx_nx ?_ | with_reducible refine nx_rt ?_ | with_reducible refine p_if ?_ | with_reducible refine p_asg ?_ | with_reducible refine p_par ?_ | with_reducible refine p_parN ?_ | with_reducible refine p_ret ?_ | with_reducible refine p_retN ?_ | with_reducible refine p_next ?_ | with_reducible refine p_brk ?_ | with_reducible refine p_cnt ?_ | with_reducible refine p_drop ?_ | with_reducible refine p_appE ?_ | with_reducible refine p_lenE ?_ | with_reducible refine p_setI ?_ | with_reducible refine p_dput ?_ | with_reducible refine p_for ?_ | with_reducible refine p_varE ?_ | with_reducible refine p_frzE ?_ | with_reducible refine p_movE ?_ | with_reducible refine p_c ?_ | with_reducible refine p_op ?_ | with_reducible refine p_un ?_ | with_reducible refine p_ar ?_ | with_reducible refine p_me ?_ | with_reducible refine p_ife ?_ | with_reducible refine p_nil ?_ | with_reducible refine p_cons ?_ | with_reducible refine p_call ?_ | with_reducible refine p_lc ?_ | with_reducible refine p_sl ?_ | with_reducible refine p_on ?_ | with_reducible refine p_os ?_ | with_reducible refine p_fis ?_ | with_reducible refine p_rng1 ?_ | with_reducible refine p_rng2 ?_ | with_reducible refine p_fia ?_ | with_reducible refine p_din ?_ | with_reducible refine p_newT ?_ | with_reducible refine p_newK ?_ | with_reducible refine p_test ?_ | with_reducible refine p_band ?_ | with_reducible refine p_bor ?_ | with_reducible refine p_bnot ?_ | with_reducible refine p_yes ?_ | with_reducible refine p_or ?_ | with_reducible refine p_and ?_ | with_reducible refine p_not ?_ | with_reducible refine bh_t ?_ | with_reducible refine bh_f ?_ | with_reducible refine bh_nt ?_ | with_reducible refine bh_nf ?_ | ((with_reducible refine bh_r ?_); refine Exists.intro _ (And.intro rfl ?_)) | ((with_reducible refine ex_id ?_); first | refine Exists.intro _ (And.intro rfl ?_) | refine Exists.intro _ (Exists.intro _ (And.intro rfl ?_))) | ((with_reducible refine and_id ?_); refine And.intro rfl ?_)))
      show Bd.imm (.int ((q : Nat) : Int)) = _
      rw [← hr, rb_stop fun c hc => by rw [e] at hc; cases hc; exact m]
  · rw [if_neg Bool.false_ne_true]
    (repeat (first | with_reducible refine p_seq ?_ | with_reducible refine nx_nx ?_ | with_reducible refine nx_rt ?_ | with_reducible refine p_if ?_ | with_reducible refine p_asg ?_ | with_reducible refine p_par ?_ | with_reducible refine p_parN ?_ | with_reducible refine p_ret ?_ | with_reducible refine p_retN ?_ | with_reducible refine p_next ?_ | with_reducible refine p_brk ?_ | with_reducible refine p_cnt ?_ | with_reducible refine p_drop ?_ | with_reducible refine p_appE ?_ | with_reducible refine p_lenE ?_ | with_reducible refine p_setI ?_ | with_reducible refine p_dput ?_ | with_reducible refine p_for ?_ | with_reducible refine p_varE ?_ | with_reducible refine p_frzE ?_ | with_reducible refine p_movE ?_ | with_reducible refine p_c ?_ | with_reducible refine p_op ?_ | with_reducible refine p_un ?_ | with_reducible refine p_ar ?_ | with_reducible refine p_me ?_ | with_reducible refine p_ife ?_ | with_reducible refine p_nil ?_ | with_reducible refine p_cons ?_ | with_reducible refine p_call ?_ | with_reducible refine p_lc ?_ | with_reducible refine p_sl ?_ | with_reducible refine p_on ?_ | with_reducible refine p_os ?_ | with_reducible refine p_fis ?_ | with_reducible refine p_rng1 ?_ | with_reducible refine p_rng2 ?_ | with_reducible refine p_fia ?_ | with_reducible refine p_din ?_ | with_reducible refine p_newT ?_ | with_reducible refine p_newK ?_ | with_reducible refine p_test ?_ | with_reducible refine p_band ?_ | with_reducible refine p_bor ?_ | with_reducible refine p_bnot ?_ | with_reducible refine p_yes ?_ | with_reducible refine p_or ?_ | with_reducible refine p_and ?_ | with_reducible refine p_not ?_ | with_reducible refine bh_t ?_ | with_reducible refine bh_f ?_ | with_reducible refine bh_nt ?_ | with_reducible refine bh_nf ?_ | ((with_reducible refine bh_r ?_); refine Exists.intro _ (And.intro rfl ?_)) | ((with_reducible refine ex_id ?_); first | refine Exists.intro _ (And.intro rfl ?_) | refine Exists.intro _ (Exists.intro _ (And.intro rfl ?_))) | ((with_reducible refine and_id ?_); refine And.intro rfl ?_)))
    show Bd.imm (.int ((q : Nat) : Int)) = _
    rw [← hr, rb_stop fun c hc => by
      have := (List.getElem?_eq_some_iff.mp hc).1
      rw [len_cps] at this
      omega]
end Lw
set_option maxRecDepth 100000
set_option maxHeartbeats 1000000
namespace Lw
open PySem PySem.Spec PyProof.Rows L2 DL
/-! ### one lexeme -/
def LET : Str := ("abcdefghijklmnopqrstuvwxyz" : Str) ++ ("0123456789" : Str)
abbrev BLK : Str := " \n"
abbrev SGN : Str := ",:;-"
theorem let_add : addB (.imm (.str "abcdefghijklmnopqrstuvwxyz")) (.imm (.str "0123456789")) = some (.imm (.str LET)) := by
  kernel_rfl
def one (c : Nat) : Str := ⟨#[c]⟩
/-- the lexeme from a place on: its sort, itself, its place -/
def lexF (t : Str) (p : Nat) : Str × Str × Nat :=
  match t.cps.toList[rb t.cps.toList BLK.cps.toList p]? with
  | none => ("end", "", rb t.cps.toList BLK.cps.toList p)
  | some c => if c ∈ SGN.cps.toList then ("sign", one c, rb t.cps.toList BLK.cps.toList p)
    else if rb t.cps.toList LET.cps.toList (rb t.cps.toList BLK.cps.toList p) > rb t.cps.toList BLK.cps.toList p then ("word", cutS t (some (rb t.cps.toList BLK.cps.toList p : Nat)) (some (rb t.cps.toList LET.cps.toList (rb t.cps.toList BLK.cps.toList p) : Nat)), rb t.cps.toList BLK.cps.toList p)
    else ("wrong", "", rb t.cps.toList BLK.cps.toList p)
def lexD (x : Str × Str × Nat) : PyData := .tuple [.str x.1, .str x.2.1, .int (x.2.2 : Nat)]
theorem sl_s {t : Str} {a b : Nat} (h : t.length ≤ 1000000) : slB (.imm (.str t)) (some (a : Int)) (some (b : Int)) = some (.imm (.str (cutS t (some (a : Int)) (some (b : Int))))) := by
  show (if t.length ≤ 1000000 then _ else _) = _
  rw [if_pos h]
theorem cp_eq {F : FD} {cs bs : List Bd} {S : Src} {Q : Bd → Src → Prop} {d : PyData} (e1 : argsB bs = some cs) (hb : bs.any Bd.lent = false) (h : ∃ r S', F cs S = some (r, S') ∧ r = .imm d) (q : ∀ S', Q (.imm d) S') : CallP F bs S Q := by
  obtain ⟨r, S', e2, rfl⟩ := h
  exact callP e1 e2 (by rw [hb]; rfl) (q S')
theorem bh_e {N M : En → Src → Prop} {p : Prop} [Decidable p] {ρ : En} {S : Src} (h : p → N ρ S) (h' : ¬ p → M ρ S) : Bh N M (if false = true then !decide p else decide p) ρ S := bh_d h h'
theorem lexeme_ok {t : Str} {p : Nat} (ht : t.length ≤ 100000) (hp : p ≤ t.length) {S : Src} : ∃ b S', F_lexeme_from [.imm (.str t), .imm (.int (p : Nat))] S = some (b, S') ∧ b = .imm (lexD (lexF t p)) := by
  have bl := len_ok (t := t) (by omega)
  have hq := rb_le (cs := t.cps.toList) (set := BLK.cps.toList) (p := p) (by rw [len_cps]; exact hp)
  rw [len_cps] at hq
  refine run_of rfl rfl ?_
  unfold g_lexeme_from
  (repeat (first | with_reducible refine p_seq ?_ | with_reducible refine nx_nx ?_ | with_reducible refine nx_rt ?_ | with_reducible refine p_if ?_ | with_reducible refine p_asg ?_ | with_reducible refine p_par ?_ | with_reducible refine p_parN ?_ | with_reducible refine p_ret ?_ | with_reducible refine p_retN ?_ | with_reducible refine p_next ?_ | with_reducible refine p_brk ?_ | with_reducible refine p_cnt ?_ | with_reducible refine p_drop ?_ | with_reducible refine p_appE ?_ | with_reducible refine p_lenE ?_ | with_reducible refine p_setI ?_ | with_reducible refine p_dput ?_ | with_reducible refine p_for ?_ | with_reducible refine p_varE ?_ | with_reducible refine p_frzE ?_ | with_reducible refine p_movE ?_ | with_reducible refine p_c ?_ | with_reducible refine p_op ?_ | with_reducible refine p_un ?_ | with_reducible refine p_ar ?_ | with_reducible refine p_me ?_ | with_reducible refine p_ife ?_ | with_reducible refine p_nil ?_ | with_reducible refine p_cons ?_ | with_reducible refine p_call ?_ | with_reducible refine p_lc ?_ | with_reducible refine p_sl ?_ | with_reducible refine p_on ?_ | with_reducible refine p_os ?_ | with_reducible refine p_fis ?_ | with_reducible refine p_rng1 ?_ | with_reducible refine p_rng2 ?_ | with_reducible refine p_fia ?_ | with_reducible refine p_din ?_ | with_reducible refine p_newT ?_ | with_reducible refine p_newK ?_ | with_reducible refine p_test ?_ | with_reducible refine p_band ?_ | with_reducible refine p_bor ?_ | with_reducible refine p_bnot ?_ | with_reducible refine p_yes ?_ | with_reducible refine p_or ?_ | with_reducible refine p_and ?_ | with_reducible refine p_not ?_ | with_reducible refine bh_t ?_ | with_reducible refine bh_f ?_ | with_reducible refine bh_nt ?_ | with_reducible refine bh_nf ?_ | ((with_reducible refine bh_r ?_); refine Exists.intro _ (And.intro rfl ?_)) | ((with_reducible refine ex_id ?_); first | refine Exists.intro _ (And.intro rfl ?_) | refine Exists.intro _ (Exists.intro _ (And.intro rfl ?_))) | ((with_reducible refine and_id ?_); refine And.intro rfl ?_)))
  refine cp_eq rfl rfl (rb_ok ht hp) fun S1 => ?_
  (repeat (first | with_reducible refine ⟨_, bl, ?_⟩ | with_reducible refine p_seq ?_ | with_reducible refine nx_nx ?_ | with_reducible refine nx_rt ?_ | with_reducible refine p_if ?_ | with_reducible refine p_asg ?_ | with_reducible refine p_par ?_ | with_reducible refine p_parN ?_ | with_reducible refine p_ret ?_ | with_reducible refine p_retN ?_ | with_reducible refine p_next ?_ | with_reducible refine p_brk ?_ | with_reducible refine p_cnt ?_ | with_reducible refine p_drop ?_ | with_reducible refine p_appE ?_ | with_reducible refine p_lenE ?_ | with_reducible refine p_setI ?_ | with_reducible refine p_dput ?_ | with_reducible refine p_for ?_ | with_reducible refine p_varE ?_ | with_reducible refine p_frzE ?_ | with_reducible refine p_movE ?_ | with_reducible refine p_c ?_ | with_reducible refine p_op ?_ | with_reducible refine p_un ?_ | with_reducible refine p_ar ?_ | with_reducible refine p_me ?_ | with_reducible refine p_ife ?_ | with_reducible refine p_nil ?_ | with_reducible refine p_cons ?_ | with_reducible refine p_call ?_ | with_reducible refine p_lc ?_ | with_reducible refine p_sl ?_ | with_reducible refine p_on ?_ | with_reducible refine p_os ?_ | with_reducible refine p_fis ?_ | with_reducible refine p_rng1 ?_ | with_reducible refine p_rng2 ?_ | with_reducible refine p_fia ?_ | with_reducible refine p_din ?_ | with_reducible refine p_newT ?_ | with_reducible refine p_newK ?_ | with_reducible refine p_test ?_ | with_reducible refine p_band ?_ | with_reducible refine p_bor ?_ | with_reducible refine p_bnot ?_ | with_reducible refine p_yes ?_ | with_reducible refine p_or ?_ | with_reducible refine p_and ?_ | with_reducible refine p_not ?_ | with_reducible refine bh_t ?_ | with_reducible refine bh_f ?_ | with_reducible refine bh_nt ?_ | with_reducible refine bh_nf ?_ | ((with_reducible refine bh_r ?_); refine Exists.intro _ (And.intro rfl ?_)) | ((with_reducible refine ex_id ?_); first | refine Exists.intro _ (And.intro rfl ?_) | refine Exists.intro _ (Exists.intro _ (And.intro rfl ?_))) | ((with_reducible refine and_id ?_); refine And.intro rfl ?_)))
  unfold lexF
  refine bh_e (fun y => ?_) fun y => ?_
  · rw [List.getElem?_eq_none (by rw [len_cps]; have : (rb t.cps.toList BLK.cps.toList p : Int) = (t.length : Int) := y; omega)]
    (repeat (first | with_reducible refine p_seq ?_ | with_reducible refine nx_nx ?_ | with_reducible refine nx_rt ?_ | with_reducible refine p_if ?_ | with_reducible refine p_asg ?_ | with_reducible refine p_par ?_ | with_reducible refine p_parN ?_ | with_reducible refine p_ret ?_ | with_reducible refine p_retN ?_ | with_reducible refine p_next ?_ | with_reducible refine p_brk ?_ | with_reducible refine p_cnt ?_ | with_reducible refine p_drop ?_ | with_reducible refine p_appE ?_ | with_reducible refine p_lenE ?_ | with_reducible refine p_setI ?_ | with_reducible refine p_dput ?_ | with_reducible refine p_for ?_ | with_reducible refine p_varE ?_ | with_reducible refine p_frzE ?_ | with_reducible refine p_movE ?_ | with_reducible refine p_c ?_ | with_reducible refine p_op ?_ | with_reducible refine p_un ?_ | with_reducible refine p_ar ?_ | with_reducible refine p_me ?_ | with_reducible refine p_ife ?_ | with_reducible refine p_nil ?_ | with_reducible refine p_cons ?_ | with_reducible refine p_call ?_ | with_reducible refine p_lc ?_ | with_reducible refine p_sl ?_ | with_reducible refine p_on ?_ | with_reducible refine p_os ?_ | with_reducible refine p_fis ?_ | with_reducible refine p_rng1 ?_ | with_reducible refine p_rng2 ?_ | with_reducible refine p_fia ?_ | with_reducible refine p_din ?_ | with_reducible refine p_newT ?_ | with_reducible refine p_newK ?_ | with_reducible refine p_test ?_ | with_reducible refine p_band ?_ | with_reducible refine p_bor ?_ | with_reducible refine p_bnot ?_ | with_reducible refine p_yes ?_ | with_reducible refine p_or ?_ | with_reducible refine p_and ?_ | with_reducible refine p_not ?_ | with_reducible refine bh_t ?_ | with_reducible refine bh_f ?_ | with_reducible refine bh_nt ?_ | with_reducible refine bh_nf ?_ | ((with_reducible refine bh_r ?_); refine Exists.intro _ (And.intro rfl ?_)) | ((with_reducible refine ex_id ?_); first | refine Exists.intro _ (And.intro rfl ?_) | refine Exists.intro _ (Exists.intro _ (And.intro rfl ?_))) | ((with_reducible refine and_id ?_); refine And.intro rfl ?_)))
    rfl
  · have hlt : rb t.cps.toList BLK.cps.toList p < t.cps.toList.length := by
      rw [len_cps]
      have : ¬ ((rb t.cps.toList BLK.cps.toList p : Int) = (t.length : Int)) := y
      omega
    have e := List.getElem?_eq_getElem hlt
    have bx := ix_s (t := t) (by omega) e
    rw [e]
    (repeat (first | with_reducible refine ⟨_, bx, ?_⟩ | with_reducible refine ⟨_, in_s, ?_⟩ | with_reducible refine p_seq ?_ | with_reducible refine nx_nx ?_ | with_reducible refine nx_rt ?_ | with_reducible refine p_if ?_ | with_reducible refine p_asg ?_ | with_reducible refine p_par ?_ | with_reducible refine p_parN ?_ | with_reducible refine p_ret ?_ | with_reducible refine p_retN ?_ | with_reducible refine p_next ?_ | with_reducible refine p_brk ?_ | with_reducible refine p_cnt ?_ | with_reducible refine p_drop ?_ | with_reducible refine p_appE ?_ | with_reducible refine p_lenE ?_ | with_reducible refine p_setI ?_ | with_reducible refine p_dput ?_ | with_reducible refine p_for ?_ | with_reducible refine p_varE ?_ | with_reducible refine p_frzE ?_ | with_reducible refine p_movE ?_ | with_reducible refine p_c ?_ | with_reducible refine p_op ?_ | with_reducible refine p_un ?_ | with_reducible refine p_ar ?_ | with_reducible refine p_me ?_ | with_reducible refine p_ife ?_ | with_reducible refine p_nil ?_ | with_reducible refine p_cons ?_ | with_reducible refine p_call ?_ | with_reducible refine p_lc ?_ | with_reducible refine p_sl ?_ | with_reducible refine p_on ?_ | with_reducible refine p_os ?_ | with_reducible refine p_fis ?_ | with_reducible refine p_rng1 ?_ | with_reducible refine p_rng2 ?_ | with_reducible refine p_fia ?_ | with_reducible refine p_din ?_ | with_reducible refine p_newT ?_ | with_reducible refine p_newK ?_ | with_reducible refine p_test ?_ | with_reducible refine p_band ?_ | with_reducible refine p_bor ?_ | with_reducible refine p_bnot ?_ | with_reducible refine p_yes ?_ | with_reducible refine p_or ?_ | with_reducible refine p_and ?_ | with_reducible refine p_not ?_ | with_reducible refine bh_t ?_ | with_reducible refine bh_f ?_ | with_reducible refine bh_nt ?_ | with_reducible refine bh_nf ?_ | ((with_reducible refine bh_r ?_); refine Exists.intro _ (And.intro rfl ?_)) | ((with_reducible refine ex_id ?_); first | refine Exists.intro _ (And.intro rfl ?_) | refine Exists.intro _ (Exists.intro _ (And.intro rfl ?_))) | ((with_reducible refine and_id ?_); refine And.intro rfl ?_)))
    refine bh_d (fun m => ?_) fun m => ?_
    · (repeat (first | with_reducible refine ⟨_, bx, ?_⟩ | with_reducible refine p_seq ?_ | with_reducible refine nx_nx ?_ | with_reducible refine nx_rt ?_ | with_reducible refine p_if ?_ | with_reducible refine p_asg ?_ | with_reducible refine p_par ?_ | with_reducible refine p_parN ?_ | with_reducible refine p_ret ?_ | with_reducible refine p_retN ?_ | with_reducible refine p_next ?_ | with_reducible refine p_brk ?_ | with_reducible refine p_cnt ?_ | with_reducible refine p_drop ?_ | with_reducible refine p_appE ?_ | with_reducible refine p_lenE ?_ | with_reducible refine p_setI ?_ | with_reducible refine p_dput ?_ | with_reducible refine p_for ?_ | with_reducible refine p_varE ?_ | with_reducible refine p_frzE ?_ | with_reducible refine p_movE ?_ | with_reducible refine p_c ?_ | with_reducible refine p_op ?_ | with_reducible refine p_un ?_ | with_reducible refine p_ar ?_ | with_reducible refine p_me ?_ | with_reducible refine p_ife ?_ | with_reducible refine p_nil ?_ | with_reducible refine p_cons ?_ | with_reducible refine p_call ?_ | with_reducible refine p_lc ?_ | with_reducible refine p_sl ?_ | with_reducible refine p_on ?_ | with_reducible refine p_os ?_ | with_reducible refine p_fis ?_ | with_reducible refine p_rng1 ?_ | with_reducible refine p_rng2 ?_ | with_reducible refine p_fia ?_ | with_reducible refine p_din ?_ | with_reducible refine p_newT ?_ | with_reducible refine p_newK ?_ | with_reducible refine p_test ?_ | with_reducible refine p_band ?_ | with_reducible refine p_bor ?_ | with_reducible refine p_bnot ?_ | with_reducible refine p_yes ?_ | with_reducible refine p_or ?_ | with_reducible refine p_and ?_ | with_reducible refine p_not ?_ | with_reducible refine bh_t ?_ | with_reducible refine bh_f ?_ | with_reducible refine bh_nt ?_ | with_reducible refine bh_nf ?_ | ((with_reducible refine bh_r ?_); refine Exists.intro _ (And.intro rfl ?_)) | ((with_reducible refine ex_id ?_); first | refine Exists.intro _ (And.intro rfl ?_) | refine Exists.intro _ (Exists.intro _ (And.intro rfl ?_))) | ((with_reducible refine and_id ?_); refine And.intro rfl ?_)))
      dsimp only
      rw [if_pos m]
      rfl
    · (repeat (first | with_reducible refine ⟨_, let_add, ?_⟩ | with_reducible refine p_seq ?_ | with_reducible refine nx_nx ?_ | with_reducible refine nx_rt ?_ | with_reducible refine p_if ?_ | with_reducible refine p_asg ?_ | with_reducible refine p_par ?_ | with_reducible refine p_parN ?_ | with_reducible refine p_ret ?_ | with_reducible refine p_retN ?_ | with_reducible refine p_next ?_ | with_reducible refine p_brk ?_ | with_reducible refine p_cnt ?_ | with_reducible refine p_drop ?_ | with_reducible refine p_appE ?_ | with_reducible refine p_lenE ?_ | with_reducible refine p_setI ?_ | with_reducible refine p_dput ?_ | with_reducible refine p_for ?_ | with_reducible refine p_varE ?_ | with_reducible refine p_frzE ?_ | with_reducible refine p_movE ?_ | with_reducible refine p_c ?_ | with_reducible refine p_op ?_ | with_reducible refine p_un ?_ | with_reducible refine p_ar ?_ | with_reducible refine p_me ?_ | with_reducible refine p_ife ?_ | with_reducible refine p_nil ?_ | with_reducible refine p_cons ?_ | with_reducible refine p_call ?_ | with_reducible refine p_lc ?_ | with_reducible refine p_sl ?_ | with_reducible refine p_on ?_ | with_reducible refine p_os ?_ | with_reducible refine p_fis ?_ | with_reducible refine p_rng1 ?_ | with_reducible refine p_rng2 ?_ | with_reducible refine p_fia ?_ | with_reducible refine p_din ?_ | with_reducible refine p_newT ?_ | with_reducible refine p_newK ?_ | with_reducible refine p_test ?_ | with_reducible refine p_band ?_ | with_reducible refine p_bor ?_ | with_reducible refine p_bnot ?_ | with_reducible refine p_yes ?_ | with_reducible refine p_or ?_ | with_reducible refine p_and ?_ | with_reducible refine p_not ?_ | with_reducible refine bh_t ?_ | with_reducible refine bh_f ?_ | with_reducible refine bh_nt ?_ | with_reducible refine bh_nf ?_ | ((with_reducible refine bh_r ?_); refine Exists.intro _ (And.intro rfl ?_)) | ((with_reducible refine ex_id ?_); first | refine Exists.intro _ (And.intro rfl ?_) | refine Exists.intro _ (Exists.intro _ (And.intro rfl ?_))) | ((with_reducible refine and_id ?_); refine And.intro rfl ?_)))
      refine cp_eq rfl rfl (rb_ok ht hq) fun S2 => ?_
      have bs := sl_s (t := t) (a := rb t.cps.toList BLK.cps.toList p) (b := rb t.cps.toList LET.cps.toList (rb t.cps.toList BLK.cps.toList p)) (by omega)
      (repeat (first | with_reducible refine p_seq ?_ | with_reducible refine nx_nx ?_ | with_reducible refine nx_rt ?_ | with_reducible refine p_if ?_ | with_reducible refine p_asg ?_ | with_reducible refine p_par ?_ | with_reducible refine p_parN ?_ | with_reducible refine p_ret ?_ | with_reducible refine p_retN ?_ | with_reducible refine p_next ?_ | with_reducible refine p_brk ?_ | with_reducible refine p_cnt ?_ | with_reducible refine p_drop ?_ | with_reducible refine p_appE ?_ | with_reducible refine p_lenE ?_ | with_reducible refine p_setI ?_ | with_reducible refine p_dput ?_ | with_reducible refine p_for ?_ | with_reducible refine p_varE ?_ | with_reducible refine p_frzE ?_ | with_reducible refine p_movE ?_ | with_reducible refine p_c ?_ | with_reducible refine p_op ?_ | with_reducible refine p_un ?_ | with_reducible refine p_ar ?_ | with_reducible refine p_me ?_ | with_reducible refine p_ife ?_ | with_reducible refine p_nil ?_ | with_reducible refine p_cons ?_ | with_reducible refine p_call ?_ | with_reducible refine p_lc ?_ | with_reducible refine p_sl ?_ | with_reducible refine p_on ?_ | with_reducible refine p_os ?_ | with_reducible refine p_fis ?_ | with_reducible refine p_rng1 ?_ | with_reducible refine p_rng2 ?_ | with_reducible refine p_fia ?_ | with_reducible refine p_din ?_ | with_reducible refine p_newT ?_ | with_reducible refine p_newK ?_ | with_reducible refine p_test ?_ | with_reducible refine p_band ?_ | with_reducible refine p_bor ?_ | with_reducible refine p_bnot ?_ | with_reducible refine p_yes ?_ | with_reducible refine p_or ?_ | with_reducible refine p_and ?_ | with_reducible refine p_not ?_ | with_reducible refine bh_t ?_ | with_reducible refine bh_f ?_ | with_reducible refine bh_nt ?_ | with_reducible refine bh_nf ?_ | ((with_reducible refine bh_r ?_); refine Exists.intro _ (And.intro rfl ?_)) | ((with_reducible refine ex_id ?_); first | refine Exists.intro _ (And.intro rfl ?_) | refine Exists.intro _ (Exists.intro _ (And.intro rfl ?_))) | ((with_reducible refine and_id ?_); refine And.intro rfl ?_)))
      refine bh_d (fun z => ?_) fun z => ?_
      · have z2 : ((rb t.cps.toList BLK.cps.toList p : Nat) : Int) < (rb t.cps.toList LET.cps.toList (rb t.cps.toList BLK.cps.toList p) : Nat) := z
        (repeat (first | with_reducible refine ⟨_, bs, ?_⟩ | with_reducible refine p_seq ?_ | with_reducible refine nx_nx ?_ | with_reducible refine nx_rt ?_ | with_reducible refine p_if ?_ | with_reducible refine p_asg ?_ | with_reducible refine p_par ?_ | with_reducible refine p_parN ?_ | with_reducible refine p_ret ?_ | with_reducible refine p_retN ?_ | with_reducible refine p_next ?_ | with_reducible refine p_brk ?_ | with_reducible refine p_cnt ?_ | with_reducible refine p_drop ?_ | with_reducible refine p_appE ?_ | with_reducible refine p_lenE ?_ | with_reducible refine p_setI ?_ | with_reducible refine p_dput ?_ | with_reducible refine p_for ?_ | with_reducible refine p_varE ?_ | with_reducible refine p_frzE ?_ | with_reducible refine p_movE ?_ | with_reducible refine p_c ?_ | with_reducible refine p_op ?_ | with_reducible refine p_un ?_ | with_reducible refine p_ar ?_ | with_reducible refine p_me ?_ | with_reducible refine p_ife ?_ | with_reducible refine p_nil ?_ | with_reducible refine p_cons ?_ | with_reducible refine p_call ?_ | with_reducible refine p_lc ?_ | with_reducible refine p_sl ?_ | with_reducible refine p_on ?_ | with_reducible refine p_os ?_ | with_reducible refine p_fis ?_ | with_reducible refine p_rng1 ?_ | with_reducible refine p_rng2 ?_ | with_reducible refine p_fia ?_ | with_reducible refine p_din ?_ | with_reducible refine p_newT ?_ | with_reducible refine p_newK ?_ | with_reducible refine p_test ?_ | with_reducible refine p_band ?_ | with_reducible refine p_bor ?_ | with_reducible refine p_bnot ?_ | with_reducible refine p_yes ?_ | with_reducible refine p_or ?_ | with_reducible refine p_and ?_ | with_reducible refine p_not ?_ | with_reducible refine bh_t ?_ | with_reducible refine bh_f ?_ | with_reducible refine bh_nt ?_ | with_reducible refine bh_nf ?_ | ((with_reducible refine bh_r ?_); refine Exists.intro _ (And.intro rfl ?_)) | ((with_reducible refine ex_id ?_); first | refine Exists.intro _ (And.intro rfl ?_) | refine Exists.intro _ (Exists.intro _ (And.intro rfl ?_))) | ((with_reducible refine and_id ?_); refine And.intro rfl ?_)))
        dsimp only
        rw [if_neg m, if_pos (by omega)]
        rfl
      · have z2 : ¬ ((rb t.cps.toList BLK.cps.toList p : Nat) : Int) < (rb t.cps.toList LET.cps.toList (rb t.cps.toList BLK.cps.toList p) : Nat) := z
        (repeat (first | with_reducible refine p_seq ?_ | with_reducible refine nx_nx ?_ | with_reducible refine nx_rt ?_ | with_reducible refine p_if ?_ | with_reducible refine p_asg ?_ | with_reducible refine p_par ?_ | with_reducible refine p_parN ?_ | with_reducible refine p_ret ?_ | with_reducible refine p_retN ?_ | with_reducible refine p_next ?_ | with_reducible refine p_brk ?_ | with_reducible refine p_cnt ?_ | with_reducible refine p_drop ?_ | with_reducible refine p_appE ?_ | with_reducible refine p_lenE ?_ | with_reducible refine p_setI ?_ | with_reducible refine p_dput ?_ | with_reducible refine p_for ?_ | with_reducible refine p_varE ?_ | with_reducible refine p_frzE ?_ | with_reducible refine p_movE ?_ | with_reducible refine p_c ?_ | with_reducible refine p_op ?_ | with_reducible refine p_un ?_ | with_reducible refine p_ar ?_ | with_reducible refine p_me ?_ | with_reducible refine p_ife ?_ | with_reducible refine p_nil ?_ | with_reducible refine p_cons ?_ | with_reducible refine p_call ?_ | with_reducible refine p_lc ?_ | with_reducible refine p_sl ?_ | with_reducible refine p_on ?_ | with_reducible refine p_os ?_ | with_reducible refine p_fis ?_ | with_reducible refine p_rng1 ?_ | with_reducible refine p_rng2 ?_ | with_reducible refine p_fia ?_ | with_reducible refine p_din ?_ | with_reducible refine p_newT ?_ | with_reducible refine p_newK ?_ | with_reducible refine p_test ?_ | with_reducible refine p_band ?_ | with_reducible refine p_bor ?_ | with_reducible refine p_bnot ?_ | with_reducible refine p_yes ?_ | with_reducible refine p_or ?_ | with_reducible refine p_and ?_ | with_reducible refine p_not ?_ | with_reducible refine bh_t ?_ | with_reducible refine bh_f ?_ | with_reducible refine bh_nt ?_ | with_reducible refine bh_nf ?_ | ((with_reducible refine bh_r ?_); refine Exists.intro _ (And.intro rfl ?_)) | ((with_reducible refine ex_id ?_); first | refine Exists.intro _ (And.intro rfl ?_) | refine Exists.intro _ (Exists.intro _ (And.intro rfl ?_))) | ((with_reducible refine and_id ?_); refine And.intro rfl ?_)))
        dsimp only
        rw [if_neg m, if_neg (by omega)]
        rfl
end Lw
set_option maxRecDepth 100000
set_option maxHeartbeats 1000000
namespace Lw
open PySem PySem.Spec PyProof.Rows L2 DL
/-! ### all lexemes -/
theorem rb_ge {α : Type} [DecidableEq α] {cs set : List α} {p : Nat} : p ≤ rb cs set p := by unfold rb; omega
theorem cutS_len {t : Str} {a b : Nat} (h : a ≤ b) (h2 : b ≤ t.length) : (cutS t (some (a : Int)) (some (b : Int))).length = b - a := by
  have hb : t.cps.toList.length = t.length := len_cps
  have e1 : HT.sIx t.length 0 (some (a : Int)) = a := by
    show (if (a : Int) < 0 then ((a : Int) + (t.length : Nat)).toNat else min (a : Int).toNat t.length) = a
    rw [if_neg (by omega)]
    omega
  have e2 : HT.sIx t.length t.length (some (b : Int)) = b := by
    show (if (b : Int) < 0 then ((b : Int) + (t.length : Nat)).toNat else min (b : Int).toNat t.length) = b
    rw [if_neg (by omega)]
    omega
  unfold cutS
  rw [e1, e2]
  show ((t.cps.toList.drop a).take (b - a)).toArray.size = b - a
  rw [List.size_toArray, List.length_take, List.length_drop, hb]
  omega
theorem lex_adv {t : Str} {p : Nat} (hp : p ≤ t.length) : (lexF t p).2.2 ≤ t.length ∧ ((lexF t p).1 ≠ "end" → (lexF t p).1 ≠ "wrong" → (lexF t p).2.2 + (lexF t p).2.1.length ≤ t.length ∧ p < (lexF t p).2.2 + (lexF t p).2.1.length) := by
  have h1 := rb_ge (cs := t.cps.toList) (set := BLK.cps.toList) (p := p)
  have h2 := rb_le (cs := t.cps.toList) (set := BLK.cps.toList) (p := p) (by rw [len_cps]; exact hp)
  rw [len_cps] at h2
  have h3 := rb_le (cs := t.cps.toList) (set := LET.cps.toList) (p := rb t.cps.toList BLK.cps.toList p) (by rw [len_cps]; exact h2)
  rw [len_cps] at h3
  unfold lexF
  split
  · exact ⟨h2, fun a => absurd rfl a⟩
  · rename_i c hc
    have hlt := (List.getElem?_eq_some_iff.mp hc).1
    rw [len_cps] at hlt
    split
    · exact ⟨h2, fun _ _ => ⟨show rb t.cps.toList BLK.cps.toList p + 1 ≤ t.length by omega, show p < rb t.cps.toList BLK.cps.toList p + 1 by omega⟩⟩
    · split
      · rename_i hgt
        refine ⟨h2, fun _ _ => ?_⟩
        show rb t.cps.toList BLK.cps.toList p + (cutS t _ _).length ≤ _ ∧ p < rb t.cps.toList BLK.cps.toList p + (cutS t _ _).length
        rw [cutS_len (by omega) h3]
        omega
      · exact ⟨h2, fun _ a => absurd rfl a⟩
def lexA (t : Str) : Nat → Nat → List (Str × Str × Nat) → List (Str × Str × Nat) ⊕ Nat
  | 0, _, acc => .inl acc
  | n + 1, p, acc => if (lexF t p).1 = "end" then .inl acc else if (lexF t p).1 = "wrong" then .inr (lexF t p).2.2 else lexA t n ((lexF t p).2.2 + (lexF t p).2.1.length) (acc ++ [lexF t p])
theorem lexA_fuel {t : Str} : ∀ (n m p : Nat) (acc : List (Str × Str × Nat)), p ≤ t.length → t.length - p < n → t.length - p < m → lexA t n p acc = lexA t m p acc := fun n => by
  induction n with
  | zero => intro m p acc _ h; omega
  | succ n ih =>
    intro m p acc hp h1 h2
    obtain ⟨m, rfl⟩ : ∃ k, m = k + 1 := ⟨m - 1, by omega⟩
    unfold lexA
    by_cases e1 : (lexF t p).1 = "end"
    · rw [if_pos e1, if_pos e1]
    · rw [if_neg e1, if_neg e1]
      by_cases e2 : (lexF t p).1 = "wrong"
      · rw [if_pos e2, if_pos e2]
      · rw [if_neg e2, if_neg e2]
        obtain ⟨a, b⟩ := (lex_adv hp).2 e1 e2
        exact ih m _ _ a (by omega) (by omega)
end Lw
set_option maxRecDepth 100000
set_option maxHeartbeats 1000000
namespace Lw
open PySem PySem.Spec PyProof.Rows L2 DL
theorem ixl0 {x : Str × Str × Nat} : ixB (.imm (lexD x)) (.imm (.int 0)) = some (.imm (.str x.1)) := by
  show (atI [PyData.str x.1, .str x.2.1, .int (x.2.2 : Nat)] 0).map Bd.imm = _
  rw [show atI [PyData.str x.1, .str x.2.1, .int (x.2.2 : Nat)] 0 = some (.str x.1) from atI_nat (j := 0) rfl]
  rfl
theorem ixl1 {x : Str × Str × Nat} : ixB (.imm (lexD x)) (.imm (.int 1)) = some (.imm (.str x.2.1)) := by
  show (atI [PyData.str x.1, .str x.2.1, .int (x.2.2 : Nat)] 1).map Bd.imm = _
  rw [show atI [PyData.str x.1, .str x.2.1, .int (x.2.2 : Nat)] 1 = some (.str x.2.1) from atI_nat (j := 1) rfl]
  rfl
theorem ixl2 {x : Str × Str × Nat} : ixB (.imm (lexD x)) (.imm (.int 2)) = some (.imm (.int (x.2.2 : Nat))) := by
  show (atI [PyData.str x.1, .str x.2.1, .int (x.2.2 : Nat)] 2).map Bd.imm = _
  rw [show atI [PyData.str x.1, .str x.2.1, .int (x.2.2 : Nat)] 2 = some (.int (x.2.2 : Nat)) from atI_nat (j := 2) rfl]
  rfl
def resX : List (Str × Str × Nat) ⊕ Nat → Bd ⊕ PyData
  | .inl l => .inl (.lst (l.map lexD))
  | .inr k => .inr (.int (k : Nat))
def LexY (t : Str) (k : Nat) (ρ : En) (S : Src) : Prop := ∃ (p : Nat) (acc : List (Str × Str × Nat)), ρ = [some (.imm (.str t)), some (.lst (acc.map lexD)), some (.imm (lexD (lexF t p)))] ∧ p ≤ t.length ∧ k = t.length - p ∧ lexA t (t.length - p + 1) p acc = lexA t (t.length + 1) 0 [] ∧ acc.length ≤ p
theorem nxx_nx {P : FlX → En → Src → Prop} {Q : En → Src → Prop} {ρ : En} {S : Src} (h : Q ρ S) : NxX P Q (.fl .nx) ρ S := h
theorem bh_ne {N M : En → Src → Prop} {p : Prop} [Decidable p] {ρ : En} {S : Src} (h : ¬ p → N ρ S) (h' : p → M ρ S) : Bh N M (if true = true then !decide p else decide p) ρ S := by
  show Bh N M (!decide p) ρ S
  by_cases q : p
  · rw [decide_eq_true q]; exact h' q
  · rw [decide_eq_false q]; exact h q
theorem lexX_ok {t : Str} (ht : t.length ≤ 100000) {S : Src} : ∃ r S', X_lexemes [.imm (.str t)] S = some (r, S') ∧ r = resX (lexA t (t.length + 1) 0 []) := by
  refine runX_of rfl rfl ?_
  unfold G_lexemes
  refine p_xseq (p_xlift ?_)
  (repeat (first | with_reducible refine p_seq ?_ | with_reducible refine nx_nx ?_ | with_reducible refine nx_rt ?_ | with_reducible refine p_if ?_ | with_reducible refine p_asg ?_ | with_reducible refine p_par ?_ | with_reducible refine p_parN ?_ | with_reducible refine p_ret ?_ | with_reducible refine p_retN ?_ | with_reducible refine p_next ?_ | with_reducible refine p_brk ?_ | with_reducible refine p_cnt ?_ | with_reducible refine p_drop ?_ | with_reducible refine p_appE ?_ | with_reducible refine p_lenE ?_ | with_reducible refine p_setI ?_ | with_reducible refine p_dput ?_ | with_reducible refine p_for ?_ | with_reducible refine p_varE ?_ | with_reducible refine p_frzE ?_ | with_reducible refine p_movE ?_ | with_reducible refine p_c ?_ | with_reducible refine p_op ?_ | with_reducible refine p_un ?_ | with_reducible refine p_ar ?_ | with_reducible refine p_me ?_ | with_reducible refine p_ife ?_ | with_reducible refine p_nil ?_ | with_reducible refine p_cons ?_ | with_reducible refine p_call ?_ | with_reducible refine p_lc ?_ | with_reducible refine p_sl ?_ | with_reducible refine p_on ?_ | with_reducible refine p_os ?_ | with_reducible refine p_fis ?_ | with_reducible refine p_rng1 ?_ | with_reducible refine p_rng2 ?_ | with_reducible refine p_fia ?_ | with_reducible refine p_din ?_ | with_reducible refine p_newT ?_ | with_reducible refine p_newK ?_ | with_reducible refine p_test ?_ | with_reducible refine p_band ?_ | with_reducible refine p_bor ?_ | with_reducible refine p_bnot ?_ | with_reducible refine p_yes ?_ | with_reducible refine p_or ?_ | with_reducible refine p_and ?_ | with_reducible refine p_not ?_ | with_reducible refine bh_t ?_ | with_reducible refine bh_f ?_ | with_reducible refine bh_nt ?_ | with_reducible refine bh_nf ?_ | ((with_reducible refine bh_r ?_); refine Exists.intro _ (And.intro rfl ?_)) | ((with_reducible refine ex_id ?_); first | refine Exists.intro _ (And.intro rfl ?_) | refine Exists.intro _ (Exists.intro _ (And.intro rfl ?_))) | ((with_reducible refine and_id ?_); refine And.intro rfl ?_)))
  refine cp_eq rfl rfl (lexeme_ok (p := 0) ht (Nat.zero_le _)) fun S1 => ?_
  (repeat (first | with_reducible refine p_seq ?_ | with_reducible refine nx_nx ?_ | with_reducible refine nx_rt ?_ | with_reducible refine p_if ?_ | with_reducible refine p_asg ?_ | with_reducible refine p_par ?_ | with_reducible refine p_parN ?_ | with_reducible refine p_ret ?_ | with_reducible refine p_retN ?_ | with_reducible refine p_next ?_ | with_reducible refine p_brk ?_ | with_reducible refine p_cnt ?_ | with_reducible refine p_drop ?_ | with_reducible refine p_appE ?_ | with_reducible refine p_lenE ?_ | with_reducible refine p_setI ?_ | with_reducible refine p_dput ?_ | with_reducible refine p_for ?_ | with_reducible refine p_varE ?_ | with_reducible refine p_frzE ?_ | with_reducible refine p_movE ?_ | with_reducible refine p_c ?_ | with_reducible refine p_op ?_ | with_reducible refine p_un ?_ | with_reducible refine p_ar ?_ | with_reducible refine p_me ?_ | with_reducible refine p_ife ?_ | with_reducible refine p_nil ?_ | with_reducible refine p_cons ?_ | with_reducible refine p_call ?_ | with_reducible refine p_lc ?_ | with_reducible refine p_sl ?_ | with_reducible refine p_on ?_ | with_reducible refine p_os ?_ | with_reducible refine p_fis ?_ | with_reducible refine p_rng1 ?_ | with_reducible refine p_rng2 ?_ | with_reducible refine p_fia ?_ | with_reducible refine p_din ?_ | with_reducible refine p_newT ?_ | with_reducible refine p_newK ?_ | with_reducible refine p_test ?_ | with_reducible refine p_band ?_ | with_reducible refine p_bor ?_ | with_reducible refine p_bnot ?_ | with_reducible refine p_yes ?_ | with_reducible refine p_or ?_ | with_reducible refine p_and ?_ | with_reducible refine p_not ?_ | with_reducible refine bh_t ?_ | with_reducible refine bh_f ?_ | with_reducible refine bh_nt ?_ | with_reducible refine bh_nf ?_ | ((with_reducible refine bh_r ?_); refine Exists.intro _ (And.intro rfl ?_)) | ((with_reducible refine ex_id ?_); first | refine Exists.intro _ (And.intro rfl ?_) | refine Exists.intro _ (Exists.intro _ (And.intro rfl ?_))) | ((with_reducible refine and_id ?_); refine And.intro rfl ?_)))
  refine p_xseq ?_
  refine p_xwhile (LexY t) (k := t.length) (by unfold FU; omega) ⟨0, [], rfl, Nat.zero_le _, by omega, rfl, Nat.le_refl _⟩ ?_
  rintro k ρ S ⟨p, acc, rfl, hp, rfl, hA, hl⟩
  (repeat (first | with_reducible refine ⟨_, ixl0, ?_⟩ | with_reducible refine p_seq ?_ | with_reducible refine nx_nx ?_ | with_reducible refine nx_rt ?_ | with_reducible refine p_if ?_ | with_reducible refine p_asg ?_ | with_reducible refine p_par ?_ | with_reducible refine p_parN ?_ | with_reducible refine p_ret ?_ | with_reducible refine p_retN ?_ | with_reducible refine p_next ?_ | with_reducible refine p_brk ?_ | with_reducible refine p_cnt ?_ | with_reducible refine p_drop ?_ | with_reducible refine p_appE ?_ | with_reducible refine p_lenE ?_ | with_reducible refine p_setI ?_ | with_reducible refine p_dput ?_ | with_reducible refine p_for ?_ | with_reducible refine p_varE ?_ | with_reducible refine p_frzE ?_ | with_reducible refine p_movE ?_ | with_reducible refine p_c ?_ | with_reducible refine p_op ?_ | with_reducible refine p_un ?_ | with_reducible refine p_ar ?_ | with_reducible refine p_me ?_ | with_reducible refine p_ife ?_ | with_reducible refine p_nil ?_ | with_reducible refine p_cons ?_ | with_reducible refine p_call ?_ | with_reducible refine p_lc ?_ | with_reducible refine p_sl ?_ | with_reducible refine p_on ?_ | with_reducible refine p_os ?_ | with_reducible refine p_fis ?_ | with_reducible refine p_rng1 ?_ | with_reducible refine p_rng2 ?_ | with_reducible refine p_fia ?_ | with_reducible refine p_din ?_ | with_reducible refine p_newT ?_ | with_reducible refine p_newK ?_ | with_reducible refine p_test ?_ | with_reducible refine p_band ?_ | with_reducible refine p_bor ?_ | with_reducible refine p_bnot ?_ | with_reducible refine p_yes ?_ | with_reducible refine p_or ?_ | with_reducible refine p_and ?_ | with_reducible refine p_not ?_ | with_reducible refine bh_t ?_ | with_reducible refine bh_f ?_ | with_reducible refine bh_nt ?_ | with_reducible refine bh_nf ?_ | ((with_reducible refine bh_r ?_); refine Exists.intro _ (And.intro rfl ?_)) | ((with_reducible refine ex_id ?_); first | refine Exists.intro _ (And.intro rfl ?_) | refine Exists.intro _ (Exists.intro _ (And.intro rfl ?_))) | ((with_reducible refine and_id ?_); refine And.intro rfl ?_)))
  have hA2 := hA
  rw [lexA] at hA2
  refine bh_ne (fun y => ?_) fun y => ?_
  · rw [if_neg y] at hA2
    refine p_xseq (p_xif ?_)
    (repeat (first | with_reducible refine ⟨_, ixl0, ?_⟩ | with_reducible refine p_seq ?_ | with_reducible refine nx_nx ?_ | with_reducible refine nx_rt ?_ | with_reducible refine p_if ?_ | with_reducible refine p_asg ?_ | with_reducible refine p_par ?_ | with_reducible refine p_parN ?_ | with_reducible refine p_ret ?_ | with_reducible refine p_retN ?_ | with_reducible refine p_next ?_ | with_reducible refine p_brk ?_ | with_reducible refine p_cnt ?_ | with_reducible refine p_drop ?_ | with_reducible refine p_appE ?_ | with_reducible refine p_lenE ?_ | with_reducible refine p_setI ?_ | with_reducible refine p_dput ?_ | with_reducible refine p_for ?_ | with_reducible refine p_varE ?_ | with_reducible refine p_frzE ?_ | with_reducible refine p_movE ?_ | with_reducible refine p_c ?_ | with_reducible refine p_op ?_ | with_reducible refine p_un ?_ | with_reducible refine p_ar ?_ | with_reducible refine p_me ?_ | with_reducible refine p_ife ?_ | with_reducible refine p_nil ?_ | with_reducible refine p_cons ?_ | with_reducible refine p_call ?_ | with_reducible refine p_lc ?_ | with_reducible refine p_sl ?_ | with_reducible refine p_on ?_ | with_reducible refine p_os ?_ | with_reducible refine p_fis ?_ | with_reducible refine p_rng1 ?_ | with_reducible refine p_rng2 ?_ | with_reducible refine p_fia ?_ | with_reducible refine p_din ?_ | with_reducible refine p_newT ?_ | with_reducible refine p_newK ?_ | with_reducible refine p_test ?_ | with_reducible refine p_band ?_ | with_reducible refine p_bor ?_ | with_reducible refine p_bnot ?_ | with_reducible refine p_yes ?_ | with_reducible refine p_or ?_ | with_reducible refine p_and ?_ | with_reducible refine p_not ?_ | with_reducible refine bh_t ?_ | with_reducible refine bh_f ?_ | with_reducible refine bh_nt ?_ | with_reducible refine bh_nf ?_ | ((with_reducible refine bh_r ?_); refine Exists.intro _ (And.intro rfl ?_)) | ((with_reducible refine ex_id ?_); first | refine Exists.intro _ (And.intro rfl ?_) | refine Exists.intro _ (Exists.intro _ (And.intro rfl ?_))) | ((with_reducible refine and_id ?_); refine And.intro rfl ?_)))
    refine bh_e (fun z => ?_) fun z => ?_
    · rw [if_pos z] at hA2
      refine p_xraise (d := .none) ?_
      (repeat (first | with_reducible refine ⟨_, ixl2, ?_⟩ | with_reducible refine p_seq ?_ | with_reducible refine nx_nx ?_ | with_reducible refine nx_rt ?_ | with_reducible refine p_if ?_ | with_reducible refine p_asg ?_ | with_reducible refine p_par ?_ | with_reducible refine p_parN ?_ | with_reducible refine p_ret ?_ | with_reducible refine p_retN ?_ | with_reducible refine p_next ?_ | with_reducible refine p_brk ?_ | with_reducible refine p_cnt ?_ | with_reducible refine p_drop ?_ | with_reducible refine p_appE ?_ | with_reducible refine p_lenE ?_ | with_reducible refine p_setI ?_ | with_reducible refine p_dput ?_ | with_reducible refine p_for ?_ | with_reducible refine p_varE ?_ | with_reducible refine p_frzE ?_ | with_reducible refine p_movE ?_ | with_reducible refine p_c ?_ | with_reducible refine p_op ?_ | with_reducible refine p_un ?_ | with_reducible refine p_ar ?_ | with_reducible refine p_me ?_ | with_reducible refine p_ife ?_ | with_reducible refine p_nil ?_ | with_reducible refine p_cons ?_ | with_reducible refine p_call ?_ | with_reducible refine p_lc ?_ | with_reducible refine p_sl ?_ | with_reducible refine p_on ?_ | with_reducible refine p_os ?_ | with_reducible refine p_fis ?_ | with_reducible refine p_rng1 ?_ | with_reducible refine p_rng2 ?_ | with_reducible refine p_fia ?_ | with_reducible refine p_din ?_ | with_reducible refine p_newT ?_ | with_reducible refine p_newK ?_ | with_reducible refine p_test ?_ | with_reducible refine p_band ?_ | with_reducible refine p_bor ?_ | with_reducible refine p_bnot ?_ | with_reducible refine p_yes ?_ | with_reducible refine p_or ?_ | with_reducible refine p_and ?_ | with_reducible refine p_not ?_ | with_reducible refine bh_t ?_ | with_reducible refine bh_f ?_ | with_reducible refine bh_nt ?_ | with_reducible refine bh_nf ?_ | ((with_reducible refine bh_r ?_); refine Exists.intro _ (And.intro rfl ?_)) | ((with_reducible refine ex_id ?_); first | refine Exists.intro _ (And.intro rfl ?_) | refine Exists.intro _ (Exists.intro _ (And.intro rfl ?_))) | ((with_reducible refine and_id ?_); refine And.intro rfl ?_)))
      show Sum.inr _ = resX _
      rw [← hA2]
      rfl
    · rw [if_neg z] at hA2
      obtain ⟨a1, a2⟩ := (lex_adv hp).2 y z
      have bl := len_ok (t := (lexF t p).2.1) (by omega)
      refine p_xlift ?_
      (repeat (first | with_reducible refine p_seq ?_ | with_reducible refine nx_nx ?_ | with_reducible refine nx_rt ?_ | with_reducible refine p_if ?_ | with_reducible refine p_asg ?_ | with_reducible refine p_par ?_ | with_reducible refine p_parN ?_ | with_reducible refine p_ret ?_ | with_reducible refine p_retN ?_ | with_reducible refine p_next ?_ | with_reducible refine p_brk ?_ | with_reducible refine p_cnt ?_ | with_reducible refine p_drop ?_ | with_reducible refine p_appE ?_ | with_reducible refine p_lenE ?_ | with_reducible refine p_setI ?_ | with_reducible refine p_dput ?_ | with_reducible refine p_for ?_ | with_reducible refine p_varE ?_ | with_reducible refine p_frzE ?_ | with_reducible refine p_movE ?_ | with_reducible refine p_c ?_ | with_reducible refine p_op ?_ | with_reducible refine p_un ?_ | with_reducible refine p_ar ?_ | with_reducible refine p_me ?_ | with_reducible refine p_ife ?_ | with_reducible refine p_nil ?_ | with_reducible refine p_cons ?_ | with_reducible refine p_call ?_ | with_reducible refine p_lc ?_ | with_reducible refine p_sl ?_ | with_reducible refine p_on ?_ | with_reducible refine p_os ?_ | with_reducible refine p_fis ?_ | with_reducible refine p_rng1 ?_ | with_reducible refine p_rng2 ?_ | with_reducible refine p_fia ?_ | with_reducible refine p_din ?_ | with_reducible refine p_newT ?_ | with_reducible refine p_newK ?_ | with_reducible refine p_test ?_ | with_reducible refine p_band ?_ | with_reducible refine p_bor ?_ | with_reducible refine p_bnot ?_ | with_reducible refine p_yes ?_ | with_reducible refine p_or ?_ | with_reducible refine p_and ?_ | with_reducible refine p_not ?_ | with_reducible refine bh_t ?_ | with_reducible refine bh_f ?_ | with_reducible refine bh_nt ?_ | with_reducible refine bh_nf ?_ | ((with_reducible refine bh_r ?_); refine Exists.intro _ (And.intro rfl ?_)) | ((with_reducible refine ex_id ?_); first | refine Exists.intro _ (And.intro rfl ?_) | refine Exists.intro _ (Exists.intro _ (And.intro rfl ?_))) | ((with_reducible refine and_id ?_); refine And.intro rfl ?_)))
      refine p_xseq (p_xlift ?_)
      (repeat (first | with_reducible refine p_seq ?_ | with_reducible refine nx_nx ?_ | with_reducible refine nx_rt ?_ | with_reducible refine p_if ?_ | with_reducible refine p_asg ?_ | with_reducible refine p_par ?_ | with_reducible refine p_parN ?_ | with_reducible refine p_ret ?_ | with_reducible refine p_retN ?_ | with_reducible refine p_next ?_ | with_reducible refine p_brk ?_ | with_reducible refine p_cnt ?_ | with_reducible refine p_drop ?_ | with_reducible refine p_appE ?_ | with_reducible refine p_lenE ?_ | with_reducible refine p_setI ?_ | with_reducible refine p_dput ?_ | with_reducible refine p_for ?_ | with_reducible refine p_varE ?_ | with_reducible refine p_frzE ?_ | with_reducible refine p_movE ?_ | with_reducible refine p_c ?_ | with_reducible refine p_op ?_ | with_reducible refine p_un ?_ | with_reducible refine p_ar ?_ | with_reducible refine p_me ?_ | with_reducible refine p_ife ?_ | with_reducible refine p_nil ?_ | with_reducible refine p_cons ?_ | with_reducible refine p_call ?_ | with_reducible refine p_lc ?_ | with_reducible refine p_sl ?_ | with_reducible refine p_on ?_ | with_reducible refine p_os ?_ | with_reducible refine p_fis ?_ | with_reducible refine p_rng1 ?_ | with_reducible refine p_rng2 ?_ | with_reducible refine p_fia ?_ | with_reducible refine p_din ?_ | with_reducible refine p_newT ?_ | with_reducible refine p_newK ?_ | with_reducible refine p_test ?_ | with_reducible refine p_band ?_ | with_reducible refine p_bor ?_ | with_reducible refine p_bnot ?_ | with_reducible refine p_yes ?_ | with_reducible refine p_or ?_ | with_reducible refine p_and ?_ | with_reducible refine p_not ?_ | with_reducible refine bh_t ?_ | with_reducible refine bh_f ?_ | with_reducible refine bh_nt ?_ | with_reducible refine bh_nf ?_ | ((with_reducible refine bh_r ?_); refine Exists.intro _ (And.intro rfl ?_)) | ((with_reducible refine ex_id ?_); first | refine Exists.intro _ (And.intro rfl ?_) | refine Exists.intro _ (Exists.intro _ (And.intro rfl ?_))) | ((with_reducible refine and_id ?_); refine And.intro rfl ?_)))
      refine ⟨_, _, rfl, rfl, by rw [List.length_map]; omega, rfl, ?_⟩
      refine p_xlift ?_
      (repeat (first | with_reducible refine ⟨_, ixl2, ?_⟩ | with_reducible refine ⟨_, ixl1, ?_⟩ | with_reducible refine ⟨_, bl, ?_⟩ | with_reducible refine p_seq ?_ | with_reducible refine nx_nx ?_ | with_reducible refine nx_rt ?_ | with_reducible refine p_if ?_ | with_reducible refine p_asg ?_ | with_reducible refine p_par ?_ | with_reducible refine p_parN ?_ | with_reducible refine p_ret ?_ | with_reducible refine p_retN ?_ | with_reducible refine p_next ?_ | with_reducible refine p_brk ?_ | with_reducible refine p_cnt ?_ | with_reducible refine p_drop ?_ | with_reducible refine p_appE ?_ | with_reducible refine p_lenE ?_ | with_reducible refine p_setI ?_ | with_reducible refine p_dput ?_ | with_reducible refine p_for ?_ | with_reducible refine p_varE ?_ | with_reducible refine p_frzE ?_ | with_reducible refine p_movE ?_ | with_reducible refine p_c ?_ | with_reducible refine p_op ?_ | with_reducible refine p_un ?_ | with_reducible refine p_ar ?_ | with_reducible refine p_me ?_ | with_reducible refine p_ife ?_ | with_reducible refine p_nil ?_ | with_reducible refine p_cons ?_ | with_reducible refine p_call ?_ | with_reducible refine p_lc ?_ | with_reducible refine p_sl ?_ | with_reducible refine p_on ?_ | with_reducible refine p_os ?_ | with_reducible refine p_fis ?_ | with_reducible refine p_rng1 ?_ | with_reducible refine p_rng2 ?_ | with_reducible refine p_fia ?_ | with_reducible refine p_din ?_ | with_reducible refine p_newT ?_ | with_reducible refine p_newK ?_ | with_reducible refine p_test ?_ | with_reducible refine p_band ?_ | with_reducible refine p_bor ?_ | with_reducible refine p_bnot ?_ | with_reducible refine p_yes ?_ | with_reducible refine p_or ?_ | with_reducible refine p_and ?_ | with_reducible refine p_not ?_ | with_reducible refine bh_t ?_ | with_reducible refine bh_f ?_ | with_reducible refine bh_nt ?_ | with_reducible refine bh_nf ?_ | ((with_reducible refine bh_r ?_); refine Exists.intro _ (And.intro rfl ?_)) | ((with_reducible refine ex_id ?_); first | refine Exists.intro _ (And.intro rfl ?_) | refine Exists.intro _ (Exists.intro _ (And.intro rfl ?_))) | ((with_reducible refine and_id ?_); refine And.intro rfl ?_)))
      refine cp_eq rfl rfl (lexeme_ok (p := (lexF t p).2.2 + (lexF t p).2.1.length) ht a1) fun S2 => ?_
      (repeat (first | with_reducible refine p_seq ?_ | with_reducible refine nx_nx ?_ | with_reducible refine nx_rt ?_ | with_reducible refine p_if ?_ | with_reducible refine p_asg ?_ | with_reducible refine p_par ?_ | with_reducible refine p_parN ?_ | with_reducible refine p_ret ?_ | with_reducible refine p_retN ?_ | with_reducible refine p_next ?_ | with_reducible refine p_brk ?_ | with_reducible refine p_cnt ?_ | with_reducible refine p_drop ?_ | with_reducible refine p_appE ?_ | with_reducible refine p_lenE ?_ | with_reducible refine p_setI ?_ | with_reducible refine p_dput ?_ | with_reducible refine p_for ?_ | with_reducible refine p_varE ?_ | with_reducible refine p_frzE ?_ | with_reducible refine p_movE ?_ | with_reducible refine p_c ?_ | with_reducible refine p_op ?_ | with_reducible refine p_un ?_ | with_reducible refine p_ar ?_ | with_reducible refine p_me ?_ | with_reducible refine p_ife ?_ | with_reducible refine p_nil ?_ | with_reducible refine p_cons ?_ | with_reducible refine p_call ?_ | with_reducible refine p_lc ?_ | with_reducible refine p_sl ?_ | with_reducible refine p_on ?_ | with_reducible refine p_os ?_ | with_reducible refine p_fis ?_ | with_reducible refine p_rng1 ?_ | with_reducible refine p_rng2 ?_ | with_reducible refine p_fia ?_ | with_reducible refine p_din ?_ | with_reducible refine p_newT ?_ | with_reducible refine p_newK ?_ | with_reducible refine p_test ?_ | with_reducible refine p_band ?_ | with_reducible refine p_bor ?_ | with_reducible refine p_bnot ?_ | with_reducible refine p_yes ?_ | with_reducible refine p_or ?_ | with_reducible refine p_and ?_ | with_reducible refine p_not ?_ | with_reducible refine bh_t ?_ | with_reducible refine bh_f ?_ | with_reducible refine bh_nt ?_ | with_reducible refine bh_nf ?_ | ((with_reducible refine bh_r ?_); refine Exists.intro _ (And.intro rfl ?_)) | ((with_reducible refine ex_id ?_); first | refine Exists.intro _ (And.intro rfl ?_) | refine Exists.intro _ (Exists.intro _ (And.intro rfl ?_))) | ((with_reducible refine and_id ?_); refine And.intro rfl ?_)))
      refine ⟨t.length - ((lexF t p).2.2 + (lexF t p).2.1.length), by omega, (lexF t p).2.2 + (lexF t p).2.1.length, acc ++ [lexF t p], ?_, a1, rfl, ?_, by rw [List.length_append]; simp; omega⟩
      · rw [List.map_append]; rfl
      · rw [← hA2]
        exact lexA_fuel _ _ _ _ a1 (by omega) (by omega)
  · rw [if_pos y] at hA2
    refine nxx_nx (p_xlift ?_)
    (repeat (first | with_reducible refine p_seq ?_ | with_reducible refine nx_nx ?_ | with_reducible refine nx_rt ?_ | with_reducible refine p_if ?_ | with_reducible refine p_asg ?_ | with_reducible refine p_par ?_ | with_reducible refine p_parN ?_ | with_reducible refine p_ret ?_ | with_reducible refine p_retN ?_ | with_reducible refine p_next ?_ | with_reducible refine p_brk ?_ | with_reducible refine p_cnt ?_ | with_reducible refine p_drop ?_ | with_reducible refine p_appE ?_ | with_reducible refine p_lenE ?_ | with_reducible refine p_setI ?_ | with_reducible refine p_dput ?_ | with_reducible refine p_for ?_ | with_reducible refine p_varE ?_ | with_reducible refine p_frzE ?_ | with_reducible refine p_movE ?_ | with_reducible refine p_c ?_ | with_reducible refine p_op ?_ | with_reducible refine p_un ?_ | with_reducible refine p_ar ?_ | with_reducible refine p_me ?_ | with_reducible refine p_ife ?_ | with_reducible refine p_nil ?_ | with_reducible refine p_cons ?_ | with_reducible refine p_call ?_ | with_reducible refine p_lc ?_ | with_reducible refine p_sl ?_ | with_reducible refine p_on ?_ | with_reducible refine p_os ?_ | with_reducible refine p_fis ?_ | with_reducible refine p_rng1 ?_ | with_reducible refine p_rng2 ?_ | with_reducible refine p_fia ?_ | with_reducible refine p_din ?_ | with_reducible refine p_newT ?_ | with_reducible refine p_newK ?_ | with_reducible refine p_test ?_ | with_reducible refine p_band ?_ | with_reducible refine p_bor ?_ | with_reducible refine p_bnot ?_ | with_reducible refine p_yes ?_ | with_reducible refine p_or ?_ | with_reducible refine p_and ?_ | with_reducible refine p_not ?_ | with_reducible refine bh_t ?_ | with_reducible refine bh_f ?_ | with_reducible refine bh_nt ?_ | with_reducible refine bh_nf ?_ | ((with_reducible refine bh_r ?_); refine Exists.intro _ (And.intro rfl ?_)) | ((with_reducible refine ex_id ?_); first | refine Exists.intro _ (And.intro rfl ?_) | refine Exists.intro _ (Exists.intro _ (And.intro rfl ?_))) | ((with_reducible refine and_id ?_); refine And.intro rfl ?_)))
    show Sum.inl _ = resX _
    rw [← hA2]
    rfl
end Lw
set_option maxRecDepth 100000
set_option maxHeartbeats 1000000
namespace Lw
open PySem PySem.Spec PyProof.Rows L2 DL
/-- what the law hears of a text -/
def toldB : List (Str × Str × Nat) ⊕ Nat → Bd
  | .inl l => .lst (l.map lexD)
  | .inr k => .imm (.int (k : Nat))
theorem noLs_lex : ∀ l : List (Str × Str × Nat), noLs (l.map lexD) = true
  | [] => rfl
  | x :: l => by
    have := noLs_lex l
    simp only [List.map_cons, noLs, this, Bool.and_true]
    rfl
theorem told_ok {t : Str} (ht : t.length ≤ 100000) {S : Src} : ∃ b S', F__law_told [.imm (.str t)] S = some (b, S') ∧ b = toldB (lexA t (t.length + 1) 0 []) := by
  refine run_of rfl rfl ?_
  unfold g__law_told gTryR
  rw [if_pos (show 1 < List.length (List.map some [Bd.imm (PyData.str t)] ++ List.replicate (2 - 1) none) from by simp)]
  obtain ⟨r, S', e, er⟩ := lexX_ok ht (S := S)
  (repeat (first | with_reducible refine p_seq ?_ | with_reducible refine nx_nx ?_ | with_reducible refine nx_rt ?_ | with_reducible refine p_if ?_ | with_reducible refine p_asg ?_ | with_reducible refine p_par ?_ | with_reducible refine p_parN ?_ | with_reducible refine p_ret ?_ | with_reducible refine p_retN ?_ | with_reducible refine p_next ?_ | with_reducible refine p_brk ?_ | with_reducible refine p_cnt ?_ | with_reducible refine p_drop ?_ | with_reducible refine p_appE ?_ | with_reducible refine p_lenE ?_ | with_reducible refine p_setI ?_ | with_reducible refine p_dput ?_ | with_reducible refine p_for ?_ | with_reducible refine p_varE ?_ | with_reducible refine p_frzE ?_ | with_reducible refine p_movE ?_ | with_reducible refine p_c ?_ | with_reducible refine p_op ?_ | with_reducible refine p_un ?_ | with_reducible refine p_ar ?_ | with_reducible refine p_me ?_ | with_reducible refine p_ife ?_ | with_reducible refine p_nil ?_ | with_reducible refine p_cons ?_ | with_reducible refine p_call ?_ | with_reducible refine p_lc ?_ | with_reducible refine p_sl ?_ | with_reducible refine p_on ?_ | with_reducible refine p_os ?_ | with_reducible refine p_fis ?_ | with_reducible refine p_rng1 ?_ | with_reducible refine p_rng2 ?_ | with_reducible refine p_fia ?_ | with_reducible refine p_din ?_ | with_reducible refine p_newT ?_ | with_reducible refine p_newK ?_ | with_reducible refine p_test ?_ | with_reducible refine p_band ?_ | with_reducible refine p_bor ?_ | with_reducible refine p_bnot ?_ | with_reducible refine p_yes ?_ | with_reducible refine p_or ?_ | with_reducible refine p_and ?_ | with_reducible refine p_not ?_ | with_reducible refine bh_t ?_ | with_reducible refine bh_f ?_ | with_reducible refine bh_nt ?_ | with_reducible refine bh_nf ?_ | ((with_reducible refine bh_r ?_); refine Exists.intro _ (And.intro rfl ?_)) | ((with_reducible refine ex_id ?_); first | refine Exists.intro _ (And.intro rfl ?_) | refine Exists.intro _ (Exists.intro _ (And.intro rfl ?_))) | ((with_reducible refine and_id ?_); refine And.intro rfl ?_)))
  cases ea : lexA t (t.length + 1) 0 [] with
  | inl l =>
    rw [ea] at er
    subst er
    have e2 : joinX X_lexemes [.imm (.str t)] S = some (.lst (l.map lexD), S') := by unfold joinX; rw [e]; rfl
    refine callP rfl e2 rfl ?_
    (repeat (first | with_reducible refine p_seq ?_ | with_reducible refine nx_nx ?_ | with_reducible refine nx_rt ?_ | with_reducible refine p_if ?_ | with_reducible refine p_asg ?_ | with_reducible refine p_par ?_ | with_reducible refine p_parN ?_ | with_reducible refine p_ret ?_ | with_reducible refine p_retN ?_ | with_reducible refine p_next ?_ | with_reducible refine p_brk ?_ | with_reducible refine p_cnt ?_ | with_reducible refine p_drop ?_ | with_reducible refine p_appE ?_ | with_reducible refine p_lenE ?_ | with_reducible refine p_setI ?_ | with_reducible refine p_dput ?_ | with_reducible refine p_for ?_ | with_reducible refine p_varE ?_ | with_reducible refine p_frzE ?_ | with_reducible refine p_movE ?_ | with_reducible refine p_c ?_ | with_reducible refine p_op ?_ | with_reducible refine p_un ?_ | with_reducible refine p_ar ?_ | with_reducible refine p_me ?_ | with_reducible refine p_ife ?_ | with_reducible refine p_nil ?_ | with_reducible refine p_cons ?_ | with_reducible refine p_call ?_ | with_reducible refine p_lc ?_ | with_reducible refine p_sl ?_ | with_reducible refine p_on ?_ | with_reducible refine p_os ?_ | with_reducible refine p_fis ?_ | with_reducible refine p_rng1 ?_ | with_reducible refine p_rng2 ?_ | with_reducible refine p_fia ?_ | with_reducible refine p_din ?_ | with_reducible refine p_newT ?_ | with_reducible refine p_newK ?_ | with_reducible refine p_test ?_ | with_reducible refine p_band ?_ | with_reducible refine p_bor ?_ | with_reducible refine p_bnot ?_ | with_reducible refine p_yes ?_ | with_reducible refine p_or ?_ | with_reducible refine p_and ?_ | with_reducible refine p_not ?_ | with_reducible refine bh_t ?_ | with_reducible refine bh_f ?_ | with_reducible refine bh_nt ?_ | with_reducible refine bh_nf ?_ | ((with_reducible refine bh_r ?_); refine Exists.intro _ (And.intro rfl ?_)) | ((with_reducible refine ex_id ?_); first | refine Exists.intro _ (And.intro rfl ?_) | refine Exists.intro _ (Exists.intro _ (And.intro rfl ?_))) | ((with_reducible refine and_id ?_); refine And.intro rfl ?_)))
    rfl
  | inr k =>
    rw [ea] at er
    subst er
    have e2 : joinX X_lexemes [.imm (.str t)] S = some (.imm (.int (k : Nat)), S') := by unfold joinX; rw [e]; rfl
    refine callP rfl e2 rfl ?_
    (repeat (first | with_reducible refine p_seq ?_ | with_reducible refine nx_nx ?_ | with_reducible refine nx_rt ?_ | with_reducible refine p_if ?_ | with_reducible refine p_asg ?_ | with_reducible refine p_par ?_ | with_reducible refine p_parN ?_ | with_reducible refine p_ret ?_ | with_reducible refine p_retN ?_ | with_reducible refine p_next ?_ | with_reducible refine p_brk ?_ | with_reducible refine p_cnt ?_ | with_reducible refine p_drop ?_ | with_reducible refine p_appE ?_ | with_reducible refine p_lenE ?_ | with_reducible refine p_setI ?_ | with_reducible refine p_dput ?_ | with_reducible refine p_for ?_ | with_reducible refine p_varE ?_ | with_reducible refine p_frzE ?_ | with_reducible refine p_movE ?_ | with_reducible refine p_c ?_ | with_reducible refine p_op ?_ | with_reducible refine p_un ?_ | with_reducible refine p_ar ?_ | with_reducible refine p_me ?_ | with_reducible refine p_ife ?_ | with_reducible refine p_nil ?_ | with_reducible refine p_cons ?_ | with_reducible refine p_call ?_ | with_reducible refine p_lc ?_ | with_reducible refine p_sl ?_ | with_reducible refine p_on ?_ | with_reducible refine p_os ?_ | with_reducible refine p_fis ?_ | with_reducible refine p_rng1 ?_ | with_reducible refine p_rng2 ?_ | with_reducible refine p_fia ?_ | with_reducible refine p_din ?_ | with_reducible refine p_newT ?_ | with_reducible refine p_newK ?_ | with_reducible refine p_test ?_ | with_reducible refine p_band ?_ | with_reducible refine p_bor ?_ | with_reducible refine p_bnot ?_ | with_reducible refine p_yes ?_ | with_reducible refine p_or ?_ | with_reducible refine p_and ?_ | with_reducible refine p_not ?_ | with_reducible refine bh_t ?_ | with_reducible refine bh_f ?_ | with_reducible refine bh_nt ?_ | with_reducible refine bh_nf ?_ | ((with_reducible refine bh_r ?_); refine Exists.intro _ (And.intro rfl ?_)) | ((with_reducible refine ex_id ?_); first | refine Exists.intro _ (And.intro rfl ?_) | refine Exists.intro _ (Exists.intro _ (And.intro rfl ?_))) | ((with_reducible refine and_id ?_); refine And.intro rfl ?_)))
    rfl
end Lw
set_option maxRecDepth 100000
set_option maxHeartbeats 1000000
namespace Lw
open PySem PySem.Spec PyProof.Rows L2 DL
theorem lexS_ok {t : Str} (ht : t.length ≤ 100000) {l : List (Str × Str × Nat)} (hl0 : lexA t (t.length + 1) 0 [] = .inl l) {S : Src} : ∃ b S', F_lexemes [.imm (.str t)] S = some (b, S') ∧ b = .lst (l.map lexD) := by
  refine run_of rfl rfl ?_
  unfold g_lexemes
  (repeat (first | with_reducible refine p_seq ?_ | with_reducible refine nx_nx ?_ | with_reducible refine nx_rt ?_ | with_reducible refine p_if ?_ | with_reducible refine p_asg ?_ | with_reducible refine p_par ?_ | with_reducible refine p_parN ?_ | with_reducible refine p_ret ?_ | with_reducible refine p_retN ?_ | with_reducible refine p_next ?_ | with_reducible refine p_brk ?_ | with_reducible refine p_cnt ?_ | with_reducible refine p_drop ?_ | with_reducible refine p_appE ?_ | with_reducible refine p_lenE ?_ | with_reducible refine p_setI ?_ | with_reducible refine p_dput ?_ | with_reducible refine p_for ?_ | with_reducible refine p_varE ?_ | with_reducible refine p_frzE ?_ | with_reducible refine p_movE ?_ | with_reducible refine p_c ?_ | with_reducible refine p_op ?_ | with_reducible refine p_un ?_ | with_reducible refine p_ar ?_ | with_reducible refine p_me ?_ | with_reducible refine p_ife ?_ | with_reducible refine p_nil ?_ | with_reducible refine p_cons ?_ | with_reducible refine p_call ?_ | with_reducible refine p_lc ?_ | with_reducible refine p_sl ?_ | with_reducible refine p_on ?_ | with_reducible refine p_os ?_ | with_reducible refine p_fis ?_ | with_reducible refine p_rng1 ?_ | with_reducible refine p_rng2 ?_ | with_reducible refine p_fia ?_ | with_reducible refine p_din ?_ | with_reducible refine p_newT ?_ | with_reducible refine p_newK ?_ | with_reducible refine p_test ?_ | with_reducible refine p_band ?_ | with_reducible refine p_bor ?_ | with_reducible refine p_bnot ?_ | with_reducible refine p_yes ?_ | with_reducible refine p_or ?_ | with_reducible refine p_and ?_ | with_reducible refine p_not ?_ | with_reducible refine bh_t ?_ | with_reducible refine bh_f ?_ | with_reducible refine bh_nt ?_ | with_reducible refine bh_nf ?_ | ((with_reducible refine bh_r ?_); refine Exists.intro _ (And.intro rfl ?_)) | ((with_reducible refine ex_id ?_); first | refine Exists.intro _ (And.intro rfl ?_) | refine Exists.intro _ (Exists.intro _ (And.intro rfl ?_))) | ((with_reducible refine and_id ?_); refine And.intro rfl ?_)))
  refine cp_eq rfl rfl (lexeme_ok (p := 0) ht (Nat.zero_le _)) fun S1 => ?_
  (repeat (first | with_reducible refine p_seq ?_ | with_reducible refine nx_nx ?_ | with_reducible refine nx_rt ?_ | with_reducible refine p_if ?_ | with_reducible refine p_asg ?_ | with_reducible refine p_par ?_ | with_reducible refine p_parN ?_ | with_reducible refine p_ret ?_ | with_reducible refine p_retN ?_ | with_reducible refine p_next ?_ | with_reducible refine p_brk ?_ | with_reducible refine p_cnt ?_ | with_reducible refine p_drop ?_ | with_reducible refine p_appE ?_ | with_reducible refine p_lenE ?_ | with_reducible refine p_setI ?_ | with_reducible refine p_dput ?_ | with_reducible refine p_for ?_ | with_reducible refine p_varE ?_ | with_reducible refine p_frzE ?_ | with_reducible refine p_movE ?_ | with_reducible refine p_c ?_ | with_reducible refine p_op ?_ | with_reducible refine p_un ?_ | with_reducible refine p_ar ?_ | with_reducible refine p_me ?_ | with_reducible refine p_ife ?_ | with_reducible refine p_nil ?_ | with_reducible refine p_cons ?_ | with_reducible refine p_call ?_ | with_reducible refine p_lc ?_ | with_reducible refine p_sl ?_ | with_reducible refine p_on ?_ | with_reducible refine p_os ?_ | with_reducible refine p_fis ?_ | with_reducible refine p_rng1 ?_ | with_reducible refine p_rng2 ?_ | with_reducible refine p_fia ?_ | with_reducible refine p_din ?_ | with_reducible refine p_newT ?_ | with_reducible refine p_newK ?_ | with_reducible refine p_test ?_ | with_reducible refine p_band ?_ | with_reducible refine p_bor ?_ | with_reducible refine p_bnot ?_ | with_reducible refine p_yes ?_ | with_reducible refine p_or ?_ | with_reducible refine p_and ?_ | with_reducible refine p_not ?_ | with_reducible refine bh_t ?_ | with_reducible refine bh_f ?_ | with_reducible refine bh_nt ?_ | with_reducible refine bh_nf ?_ | ((with_reducible refine bh_r ?_); refine Exists.intro _ (And.intro rfl ?_)) | ((with_reducible refine ex_id ?_); first | refine Exists.intro _ (And.intro rfl ?_) | refine Exists.intro _ (Exists.intro _ (And.intro rfl ?_))) | ((with_reducible refine and_id ?_); refine And.intro rfl ?_)))
  refine p_while (fun _ => True) (fun k ρ => LexY t k ρ S1) (k := t.length) (by unfold FU; omega) ⟨0, [], rfl, Nat.zero_le _, by omega, rfl, Nat.le_refl _⟩ ?_
  rintro k ρ S ⟨p, acc, rfl, hp, rfl, hA, hl⟩
  (repeat (first | with_reducible refine ⟨_, ixl0, ?_⟩ | with_reducible refine p_seq ?_ | with_reducible refine nx_nx ?_ | with_reducible refine nx_rt ?_ | with_reducible refine p_if ?_ | with_reducible refine p_asg ?_ | with_reducible refine p_par ?_ | with_reducible refine p_parN ?_ | with_reducible refine p_ret ?_ | with_reducible refine p_retN ?_ | with_reducible refine p_next ?_ | with_reducible refine p_brk ?_ | with_reducible refine p_cnt ?_ | with_reducible refine p_drop ?_ | with_reducible refine p_appE ?_ | with_reducible refine p_lenE ?_ | with_reducible refine p_setI ?_ | with_reducible refine p_dput ?_ | with_reducible refine p_for ?_ | with_reducible refine p_varE ?_ | with_reducible refine p_frzE ?_ | with_reducible refine p_movE ?_ | with_reducible refine p_c ?_ | with_reducible refine p_op ?_ | with_reducible refine p_un ?_ | with_reducible refine p_ar ?_ | with_reducible refine p_me ?_ | with_reducible refine p_ife ?_ | with_reducible refine p_nil ?_ | with_reducible refine p_cons ?_ | with_reducible refine p_call ?_ | with_reducible refine p_lc ?_ | with_reducible refine p_sl ?_ | with_reducible refine p_on ?_ | with_reducible refine p_os ?_ | with_reducible refine p_fis ?_ | with_reducible refine p_rng1 ?_ | with_reducible refine p_rng2 ?_ | with_reducible refine p_fia ?_ | with_reducible refine p_din ?_ | with_reducible refine p_newT ?_ | with_reducible refine p_newK ?_ | with_reducible refine p_test ?_ | with_reducible refine p_band ?_ | with_reducible refine p_bor ?_ | with_reducible refine p_bnot ?_ | with_reducible refine p_yes ?_ | with_reducible refine p_or ?_ | with_reducible refine p_and ?_ | with_reducible refine p_not ?_ | with_reducible refine bh_t ?_ | with_reducible refine bh_f ?_ | with_reducible refine bh_nt ?_ | with_reducible refine bh_nf ?_ | ((with_reducible refine bh_r ?_); refine Exists.intro _ (And.intro rfl ?_)) | ((with_reducible refine ex_id ?_); first | refine Exists.intro _ (And.intro rfl ?_) | refine Exists.intro _ (Exists.intro _ (And.intro rfl ?_))) | ((with_reducible refine and_id ?_); refine And.intro rfl ?_)))
  have hA2 := hA
  rw [lexA, hl0] at hA2
  by_cases y : (lexF t p).1 = "end"
  · rw [if_pos y] at hA2
    rw [if_neg (by show ¬ (!decide ((lexF t p).1 = "end")) = true; rw [decide_eq_true y]; simp)]
    (repeat (first | with_reducible refine p_seq ?_ | with_reducible refine nx_nx ?_ | with_reducible refine nx_rt ?_ | with_reducible refine p_if ?_ | with_reducible refine p_asg ?_ | with_reducible refine p_par ?_ | with_reducible refine p_parN ?_ | with_reducible refine p_ret ?_ | with_reducible refine p_retN ?_ | with_reducible refine p_next ?_ | with_reducible refine p_brk ?_ | with_reducible refine p_cnt ?_ | with_reducible refine p_drop ?_ | with_reducible refine p_appE ?_ | with_reducible refine p_lenE ?_ | with_reducible refine p_setI ?_ | with_reducible refine p_dput ?_ | with_reducible refine p_for ?_ | with_reducible refine p_varE ?_ | with_reducible refine p_frzE ?_ | with_reducible refine p_movE ?_ | with_reducible refine p_c ?_ | with_reducible refine p_op ?_ | with_reducible refine p_un ?_ | with_reducible refine p_ar ?_ | with_reducible refine p_me ?_ | with_reducible refine p_ife ?_ | with_reducible refine p_nil ?_ | with_reducible refine p_cons ?_ | with_reducible refine p_call ?_ | with_reducible refine p_lc ?_ | with_reducible refine p_sl ?_ | with_reducible refine p_on ?_ | with_reducible refine p_os ?_ | with_reducible refine p_fis ?_ | with_reducible refine p_rng1 ?_ | with_reducible refine p_rng2 ?_ | with_reducible refine p_fia ?_ | with_reducible refine p_din ?_ | with_reducible refine p_newT ?_ | with_reducible refine p_newK ?_ | with_reducible refine p_test ?_ | with_reducible refine p_band ?_ | with_reducible refine p_bor ?_ | with_reducible refine p_bnot ?_ | with_reducible refine p_yes ?_ | with_reducible refine p_or ?_ | with_reducible refine p_and ?_ | with_reducible refine p_not ?_ | with_reducible refine bh_t ?_ | with_reducible refine bh_f ?_ | with_reducible refine bh_nt ?_ | with_reducible refine bh_nf ?_ | ((with_reducible refine bh_r ?_); refine Exists.intro _ (And.intro rfl ?_)) | ((with_reducible refine ex_id ?_); first | refine Exists.intro _ (And.intro rfl ?_) | refine Exists.intro _ (Exists.intro _ (And.intro rfl ?_))) | ((with_reducible refine and_id ?_); refine And.intro rfl ?_)))
    show Bd.lst (acc.map lexD) = _
    cases hA2
    rfl
  · rw [if_neg y] at hA2
    rw [if_pos (by show (!decide ((lexF t p).1 = "end")) = true; rw [decide_eq_false y]; rfl)]
    (repeat (first | with_reducible refine ⟨_, ixl0, ?_⟩ | with_reducible refine p_seq ?_ | with_reducible refine nx_nx ?_ | with_reducible refine nx_rt ?_ | with_reducible refine p_if ?_ | with_reducible refine p_asg ?_ | with_reducible refine p_par ?_ | with_reducible refine p_parN ?_ | with_reducible refine p_ret ?_ | with_reducible refine p_retN ?_ | with_reducible refine p_next ?_ | with_reducible refine p_brk ?_ | with_reducible refine p_cnt ?_ | with_reducible refine p_drop ?_ | with_reducible refine p_appE ?_ | with_reducible refine p_lenE ?_ | with_reducible refine p_setI ?_ | with_reducible refine p_dput ?_ | with_reducible refine p_for ?_ | with_reducible refine p_varE ?_ | with_reducible refine p_frzE ?_ | with_reducible refine p_movE ?_ | with_reducible refine p_c ?_ | with_reducible refine p_op ?_ | with_reducible refine p_un ?_ | with_reducible refine p_ar ?_ | with_reducible refine p_me ?_ | with_reducible refine p_ife ?_ | with_reducible refine p_nil ?_ | with_reducible refine p_cons ?_ | with_reducible refine p_call ?_ | with_reducible refine p_lc ?_ | with_reducible refine p_sl ?_ | with_reducible refine p_on ?_ | with_reducible refine p_os ?_ | with_reducible refine p_fis ?_ | with_reducible refine p_rng1 ?_ | with_reducible refine p_rng2 ?_ | with_reducible refine p_fia ?_ | with_reducible refine p_din ?_ | with_reducible refine p_newT ?_ | with_reducible refine p_newK ?_ | with_reducible refine p_test ?_ | with_reducible refine p_band ?_ | with_reducible refine p_bor ?_ | with_reducible refine p_bnot ?_ | with_reducible refine p_yes ?_ | with_reducible refine p_or ?_ | with_reducible refine p_and ?_ | with_reducible refine p_not ?_ | with_reducible refine bh_t ?_ | with_reducible refine bh_f ?_ | with_reducible refine bh_nt ?_ | with_reducible refine bh_nf ?_ | ((with_reducible refine bh_r ?_); refine Exists.intro _ (And.intro rfl ?_)) | ((with_reducible refine ex_id ?_); first | refine Exists.intro _ (And.intro rfl ?_) | refine Exists.intro _ (Exists.intro _ (And.intro rfl ?_))) | ((with_reducible refine and_id ?_); refine And.intro rfl ?_)))
    refine bh_e (fun z => ?_) fun z => ?_
    · rw [if_pos z] at hA2
      cases hA2
    · rw [if_neg z] at hA2
      obtain ⟨a1, a2⟩ := (lex_adv hp).2 y z
      have bl := len_ok (t := (lexF t p).2.1) (by omega)
      (repeat (first | with_reducible refine p_seq ?_ | with_reducible refine nx_nx ?_ | with_reducible refine nx_rt ?_ | with_reducible refine p_if ?_ | with_reducible refine p_asg ?_ | with_reducible refine p_par ?_ | with_reducible refine p_parN ?_ | with_reducible refine p_ret ?_ | with_reducible refine p_retN ?_ | with_reducible refine p_next ?_ | with_reducible refine p_brk ?_ | with_reducible refine p_cnt ?_ | with_reducible refine p_drop ?_ | with_reducible refine p_appE ?_ | with_reducible refine p_lenE ?_ | with_reducible refine p_setI ?_ | with_reducible refine p_dput ?_ | with_reducible refine p_for ?_ | with_reducible refine p_varE ?_ | with_reducible refine p_frzE ?_ | with_reducible refine p_movE ?_ | with_reducible refine p_c ?_ | with_reducible refine p_op ?_ | with_reducible refine p_un ?_ | with_reducible refine p_ar ?_ | with_reducible refine p_me ?_ | with_reducible refine p_ife ?_ | with_reducible refine p_nil ?_ | with_reducible refine p_cons ?_ | with_reducible refine p_call ?_ | with_reducible refine p_lc ?_ | with_reducible refine p_sl ?_ | with_reducible refine p_on ?_ | with_reducible refine p_os ?_ | with_reducible refine p_fis ?_ | with_reducible refine p_rng1 ?_ | with_reducible refine p_rng2 ?_ | with_reducible refine p_fia ?_ | with_reducible refine p_din ?_ | with_reducible refine p_newT ?_ | with_reducible refine p_newK ?_ | with_reducible refine p_test ?_ | with_reducible refine p_band ?_ | with_reducible refine p_bor ?_ | with_reducible refine p_bnot ?_ | with_reducible refine p_yes ?_ | with_reducible refine p_or ?_ | with_reducible refine p_and ?_ | with_reducible refine p_not ?_ | with_reducible refine bh_t ?_ | with_reducible refine bh_f ?_ | with_reducible refine bh_nt ?_ | with_reducible refine bh_nf ?_ | ((with_reducible refine bh_r ?_); refine Exists.intro _ (And.intro rfl ?_)) | ((with_reducible refine ex_id ?_); first | refine Exists.intro _ (And.intro rfl ?_) | refine Exists.intro _ (Exists.intro _ (And.intro rfl ?_))) | ((with_reducible refine and_id ?_); refine And.intro rfl ?_)))
      refine ⟨_, _, rfl, rfl, by rw [List.length_map]; omega, rfl, ?_⟩
      (repeat (first | with_reducible refine ⟨_, ixl2, ?_⟩ | with_reducible refine ⟨_, ixl1, ?_⟩ | with_reducible refine ⟨_, bl, ?_⟩ | with_reducible refine p_seq ?_ | with_reducible refine nx_nx ?_ | with_reducible refine nx_rt ?_ | with_reducible refine p_if ?_ | with_reducible refine p_asg ?_ | with_reducible refine p_par ?_ | with_reducible refine p_parN ?_ | with_reducible refine p_ret ?_ | with_reducible refine p_retN ?_ | with_reducible refine p_next ?_ | with_reducible refine p_brk ?_ | with_reducible refine p_cnt ?_ | with_reducible refine p_drop ?_ | with_reducible refine p_appE ?_ | with_reducible refine p_lenE ?_ | with_reducible refine p_setI ?_ | with_reducible refine p_dput ?_ | with_reducible refine p_for ?_ | with_reducible refine p_varE ?_ | with_reducible refine p_frzE ?_ | with_reducible refine p_movE ?_ | with_reducible refine p_c ?_ | with_reducible refine p_op ?_ | with_reducible refine p_un ?_ | with_reducible refine p_ar ?_ | with_reducible refine p_me ?_ | with_reducible refine p_ife ?_ | with_reducible refine p_nil ?_ | with_reducible refine p_cons ?_ | with_reducible refine p_call ?_ | with_reducible refine p_lc ?_ | with_reducible refine p_sl ?_ | with_reducible refine p_on ?_ | with_reducible refine p_os ?_ | with_reducible refine p_fis ?_ | with_reducible refine p_rng1 ?_ | with_reducible refine p_rng2 ?_ | with_reducible refine p_fia ?_ | with_reducible refine p_din ?_ | with_reducible refine p_newT ?_ | with_reducible refine p_newK ?_ | with_reducible refine p_test ?_ | with_reducible refine p_band ?_ | with_reducible refine p_bor ?_ | with_reducible refine p_bnot ?_ | with_reducible refine p_yes ?_ | with_reducible refine p_or ?_ | with_reducible refine p_and ?_ | with_reducible refine p_not ?_ | with_reducible refine bh_t ?_ | with_reducible refine bh_f ?_ | with_reducible refine bh_nt ?_ | with_reducible refine bh_nf ?_ | ((with_reducible refine bh_r ?_); refine Exists.intro _ (And.intro rfl ?_)) | ((with_reducible refine ex_id ?_); first | refine Exists.intro _ (And.intro rfl ?_) | refine Exists.intro _ (Exists.intro _ (And.intro rfl ?_))) | ((with_reducible refine and_id ?_); refine And.intro rfl ?_)))
      refine cp_eq rfl rfl (lexeme_ok (p := (lexF t p).2.2 + (lexF t p).2.1.length) ht a1) fun S2 => ?_
      (repeat (first | with_reducible refine p_seq ?_ | with_reducible refine nx_nx ?_ | with_reducible refine nx_rt ?_ | with_reducible refine p_if ?_ | with_reducible refine p_asg ?_ | with_reducible refine p_par ?_ | with_reducible refine p_parN ?_ | with_reducible refine p_ret ?_ | with_reducible refine p_retN ?_ | with_reducible refine p_next ?_ | with_reducible refine p_brk ?_ | with_reducible refine p_cnt ?_ | with_reducible refine p_drop ?_ | with_reducible refine p_appE ?_ | with_reducible refine p_lenE ?_ | with_reducible refine p_setI ?_ | with_reducible refine p_dput ?_ | with_reducible refine p_for ?_ | with_reducible refine p_varE ?_ | with_reducible refine p_frzE ?_ | with_reducible refine p_movE ?_ | with_reducible refine p_c ?_ | with_reducible refine p_op ?_ | with_reducible refine p_un ?_ | with_reducible refine p_ar ?_ | with_reducible refine p_me ?_ | with_reducible refine p_ife ?_ | with_reducible refine p_nil ?_ | with_reducible refine p_cons ?_ | with_reducible refine p_call ?_ | with_reducible refine p_lc ?_ | with_reducible refine p_sl ?_ | with_reducible refine p_on ?_ | with_reducible refine p_os ?_ | with_reducible refine p_fis ?_ | with_reducible refine p_rng1 ?_ | with_reducible refine p_rng2 ?_ | with_reducible refine p_fia ?_ | with_reducible refine p_din ?_ | with_reducible refine p_newT ?_ | with_reducible refine p_newK ?_ | with_reducible refine p_test ?_ | with_reducible refine p_band ?_ | with_reducible refine p_bor ?_ | with_reducible refine p_bnot ?_ | with_reducible refine p_yes ?_ | with_reducible refine p_or ?_ | with_reducible refine p_and ?_ | with_reducible refine p_not ?_ | with_reducible refine bh_t ?_ | with_reducible refine bh_f ?_ | with_reducible refine bh_nt ?_ | with_reducible refine bh_nf ?_ | ((with_reducible refine bh_r ?_); refine Exists.intro _ (And.intro rfl ?_)) | ((with_reducible refine ex_id ?_); first | refine Exists.intro _ (And.intro rfl ?_) | refine Exists.intro _ (Exists.intro _ (And.intro rfl ?_))) | ((with_reducible refine and_id ?_); refine And.intro rfl ?_)))
      refine ⟨t.length - ((lexF t p).2.2 + (lexF t p).2.1.length), by omega, (lexF t p).2.2 + (lexF t p).2.1.length, acc ++ [lexF t p], ?_, a1, rfl, ?_, by rw [List.length_append]; simp; omega⟩
      · rw [List.map_append]; rfl
      · rw [hl0, ← hA2]
        exact lexA_fuel _ _ _ _ a1 (by omega) (by omega)
end Lw
set_option maxRecDepth 100000
set_option maxHeartbeats 1000000
namespace Lw
open PySem PySem.Spec PyProof.Rows L2 DL
/-! ### the law's own walk over a text -/
abbrev tri (s w : Str) (k : Nat) : Str × Str × Nat := (s, w, k)
def readL : List Nat → Nat → List (Str × Str × Nat) → Str → Nat → List (Str × Str × Nat) ⊕ Nat
  | [], _, f, _, _ => .inl f
  | c :: cs, k, f, w, a => if c ∈ LET.cps.toList then readL cs (k + 1) f (if w = "" then one c else w ++ one c) (if w = "" then k else a)
    else if c ∈ SGN.cps.toList then readL cs (k + 1) ((if w = "" then f else f ++ [tri "word" w a]) ++ [tri "sign" (one c) k]) "" a
    else if c ∈ BLK.cps.toList then readL cs (k + 1) (if w = "" then f else f ++ [tri "word" w a]) "" a
    else .inr k
theorem tw_split {α : Type} (f : α → Bool) : ∀ l : List α, l.takeWhile f ++ l.drop (l.takeWhile f).length = l
  | [] => rfl
  | c :: l => by
    cases h : f c with
    | true => rw [List.takeWhile_cons_of_pos h]; exact congrArg (c :: ·) (tw_split f l)
    | false => rw [List.takeWhile_cons_of_neg (by simp [h])]; rfl
theorem tw_take {α : Type} (f : α → Bool) : ∀ l : List α, l.take (l.takeWhile f).length = l.takeWhile f
  | [] => rfl
  | c :: l => by
    cases h : f c with
    | true => rw [List.takeWhile_cons_of_pos h]; exact congrArg (c :: ·) (tw_take f l)
    | false => rw [List.takeWhile_cons_of_neg (by simp [h])]; rfl
theorem tw_out {α : Type} (f : α → Bool) {c : α} : ∀ l : List α, l[(l.takeWhile f).length]? = some c → f c = false
  | [], h => by cases h
  | d :: l, h => by
    cases e : f d with
    | true => rw [List.takeWhile_cons_of_pos e] at h; exact tw_out f l (by simpa using h)
    | false =>
      rw [List.takeWhile_cons_of_neg (by simp [e])] at h
      have : d = c := by simpa using h
      exact this ▸ e
theorem tw_all {α : Type} (f : α → Bool) {c : α} : ∀ l : List α, c ∈ l.takeWhile f → f c = true
  | [], h => by cases h
  | d :: l, h => by
    cases e : f d with
    | true =>
      rw [List.takeWhile_cons_of_pos e] at h
      rcases List.mem_cons.mp h with rfl | h
      · exact e
      · exact tw_all f l h
    | false => rw [List.takeWhile_cons_of_neg (by simp [e])] at h; cases h
theorem rb_out {α : Type} [DecidableEq α] {cs set : List α} {p : Nat} {c : α} (h : cs[rb cs set p]? = some c) : c ∉ set := by
  unfold rb at h
  have := tw_out (fun c => decide (c ∈ set)) (cs.drop p) (by rw [List.getElem?_drop]; exact h)
  simpa using this
theorem rb_split {α : Type} [DecidableEq α] (cs set : List α) (p : Nat) : ∃ bs, (∀ c ∈ bs, c ∈ set) ∧ cs.drop p = bs ++ cs.drop (rb cs set p) ∧ rb cs set p = p + bs.length ∧ (cs.drop p).take (rb cs set p - p) = bs := by
  refine ⟨(cs.drop p).takeWhile fun c => decide (c ∈ set), fun c hc => by simpa using tw_all _ _ hc, ?_, rfl, ?_⟩
  · unfold rb
    rw [← List.drop_drop, tw_split]
  · unfold rb
    rw [Nat.add_sub_cancel_left]
    exact tw_take _ _
theorem blk_not : ∀ c ∈ BLK.cps.toList, c ∉ LET.cps.toList ∧ c ∉ SGN.cps.toList := by decide +kernel
theorem sgn_not : ∀ c ∈ SGN.cps.toList, c ∉ LET.cps.toList := by decide +kernel
theorem end_not : 32 ∉ LET.cps.toList ∧ 32 ∉ SGN.cps.toList ∧ 32 ∈ BLK.cps.toList := by decide +kernel
theorem readL_a : ∀ (cs : List Nat) (k : Nat) (f : List (Str × Str × Nat)) (a b : Nat), readL cs k f "" a = readL cs k f "" b
  | [], _, _, _, _ => rfl
  | c :: cs, k, f, a, b => by
    unfold readL
    simp only [if_true, readL_a cs (k + 1) _ a b]
theorem readL_blk : ∀ (bs : List Nat) {rest : List Nat} {k : Nat} {f : List (Str × Str × Nat)} {a : Nat}, (∀ c ∈ bs, c ∈ BLK.cps.toList) → readL (bs ++ rest) k f "" a = readL rest (k + bs.length) f "" a
  | [], _, _, _, _, _ => rfl
  | c :: bs, rest, k, f, a, h => by
    have hc := h c List.mem_cons_self
    obtain ⟨h1, h2⟩ := blk_not c hc
    show readL (c :: (bs ++ rest)) k f "" a = _
    rw [readL, if_neg h1, if_neg h2, if_pos hc, if_pos rfl, readL_blk bs fun c hc => h c (List.mem_cons_of_mem _ hc), List.length_cons]
    rw [show k + 1 + bs.length = k + (bs.length + 1) by omega]
theorem app_ne {w : Str} {c : Nat} : w ++ one c ≠ "" := fun h => by
  have := congrArg (fun s : Str => s.cps.size) h
  have e : (w ++ one c).cps.size = w.cps.size + 1 := by show (w.cps ++ #[c]).size = _; simp
  rw [e] at this
  exact absurd this (by show ¬ w.cps.size + 1 = 0; omega)
theorem one_ne {c : Nat} : one c ≠ "" := fun h => by
  have := congrArg (fun s : Str => s.cps.size) h
  exact absurd this (by show ¬ 1 = 0; omega)
theorem readL_let : ∀ (ls : List Nat) {rest : List Nat} {k : Nat} {f : List (Str × Str × Nat)} {w : Str} {a : Nat}, (∀ c ∈ ls, c ∈ LET.cps.toList) → w ≠ "" → readL (ls ++ rest) k f w a = readL rest (k + ls.length) f ⟨w.cps ++ ls.toArray⟩ a
  | [], _, _, _, w, _, _, _ => by
    have : (⟨w.cps ++ ([] : List Nat).toArray⟩ : Str) = w := by cases w; simp
    rw [this]; rfl
  | c :: ls, rest, k, f, w, a, h, hw => by
    have hc := h c List.mem_cons_self
    show readL (c :: (ls ++ rest)) k f w a = _
    rw [readL, if_pos hc, if_neg hw, if_neg hw, readL_let ls (fun c hc => h c (List.mem_cons_of_mem _ hc)) app_ne, List.length_cons]
    rw [show k + 1 + ls.length = k + (ls.length + 1) by omega]
    have : (⟨(w ++ one c).cps ++ ls.toArray⟩ : Str) = ⟨w.cps ++ (c :: ls).toArray⟩ := by
      show Str.mk ((w.cps ++ #[c]) ++ ls.toArray) = _
      rw [Array.append_assoc]
      have : #[c] ++ ls.toArray = (c :: ls).toArray := by simp
      rw [this]
    rw [this]
theorem readL_word {c : Nat} {cs : List Nat} {k : Nat} {f : List (Str × Str × Nat)} {w : Str} {a : Nat} (hc : c ∉ LET.cps.toList) (hw : w ≠ "") : readL (c :: cs) k f w a = readL (c :: cs) k (f ++ [tri "word" w a]) "" a := by
  rw [readL, readL, if_neg hc, if_neg hc, if_neg hw, if_pos rfl]
theorem lexF_cases (t : Str) (p : Nat) : (t.cps.toList[rb t.cps.toList BLK.cps.toList p]? = none ∧ lexF t p = tri "end" "" (rb t.cps.toList BLK.cps.toList p)) ∨ ∃ c, t.cps.toList[rb t.cps.toList BLK.cps.toList p]? = some c ∧ c ∉ BLK.cps.toList ∧
    ((c ∈ SGN.cps.toList ∧ lexF t p = tri "sign" (one c) (rb t.cps.toList BLK.cps.toList p)) ∨
     (c ∉ SGN.cps.toList ∧ c ∈ LET.cps.toList ∧ lexF t p = tri "word" (cutS t (some (rb t.cps.toList BLK.cps.toList p : Nat)) (some (rb t.cps.toList LET.cps.toList (rb t.cps.toList BLK.cps.toList p) : Nat))) (rb t.cps.toList BLK.cps.toList p)) ∨
     (c ∉ SGN.cps.toList ∧ c ∉ LET.cps.toList ∧ lexF t p = tri "wrong" "" (rb t.cps.toList BLK.cps.toList p))) := by
  unfold lexF
  cases e : t.cps.toList[rb t.cps.toList BLK.cps.toList p]? with
  | none => exact .inl ⟨rfl, rfl⟩
  | some c =>
    refine .inr ⟨c, rfl, rb_out e, ?_⟩
    by_cases h1 : c ∈ SGN.cps.toList
    · exact .inl ⟨h1, by dsimp only; rw [if_pos h1]⟩
    by_cases h2 : c ∈ LET.cps.toList
    · refine .inr (.inl ⟨h1, h2, ?_⟩)
      have := rb_go e h2
      have g := rb_ge (cs := t.cps.toList) (set := LET.cps.toList) (p := rb t.cps.toList BLK.cps.toList p + 1)
      dsimp only
      rw [if_neg h1, if_pos (by omega)]
    · refine .inr (.inr ⟨h1, h2, ?_⟩)
      have := rb_stop (p := rb t.cps.toList BLK.cps.toList p) (set := LET.cps.toList) fun d hd => by rw [e] at hd; cases hd; exact h2
      dsimp only
      rw [if_neg h1, if_neg (by omega)]
theorem cutS_run {t : Str} {a b : Nat} (h : a ≤ b) (h2 : b ≤ t.length) : cutS t (some (a : Int)) (some (b : Int)) = ⟨((t.cps.toList.drop a).take (b - a)).toArray⟩ := by
  have e1 : HT.sIx t.length 0 (some (a : Int)) = a := by
    show (if (a : Int) < 0 then ((a : Int) + (t.length : Nat)).toNat else min (a : Int).toNat t.length) = a
    rw [if_neg (by omega)]
    omega
  have e2 : HT.sIx t.length t.length (some (b : Int)) = b := by
    show (if (b : Int) < 0 then ((b : Int) + (t.length : Nat)).toNat else min (b : Int).toNat t.length) = b
    rw [if_neg (by omega)]
    omega
  unfold cutS
  rw [e1, e2]
theorem drop_cons {α : Type} {l : List α} {i : Nat} {x : α} (h : l[i]? = some x) : l.drop i = x :: l.drop (i + 1) := by
  obtain ⟨hi, rfl⟩ := List.getElem?_eq_some_iff.mp h
  exact List.drop_eq_getElem_cons hi
theorem lexA_read {t : Str} : ∀ (n p : Nat) (acc : List (Str × Str × Nat)) (a : Nat), p ≤ t.length → t.length - p < n → lexA t n p acc = readL (t.cps.toList.drop p ++ [32]) p acc "" a
  | 0, _, _, _, _, h => by omega
  | n + 1, p, acc, a, hp, hn => by
    obtain ⟨bs, b1, b2, b3, _⟩ := rb_split t.cps.toList BLK.cps.toList p
    have hq := rb_le (cs := t.cps.toList) (set := BLK.cps.toList) (p := p) (by rw [len_cps]; exact hp)
    rw [len_cps] at hq
    rw [b2, List.append_assoc, readL_blk bs b1, ← b3]
    have adv := (lex_adv (t := t) hp).2
    unfold lexA
    rcases lexF_cases t p with ⟨e, h⟩ | ⟨c, e, hb, ⟨h1, h⟩ | ⟨h1, h2, h⟩ | ⟨h1, h2, h⟩⟩
    · rw [h, if_pos rfl, List.drop_eq_nil_of_le (by simpa using e)]
      show _ = readL [32] _ acc "" a
      obtain ⟨e1, e2, e3⟩ := end_not
      rw [readL, if_neg e1, if_neg e2, if_pos e3, if_pos rfl]
      rfl
    · rw [h] at adv ⊢
      obtain ⟨a1, a2⟩ := adv (show ("sign" : Str) ≠ "end" by decide +kernel) (show ("sign" : Str) ≠ "wrong" by decide +kernel)
      rw [if_neg (show ¬ ("sign" : Str) = "end" by decide +kernel), if_neg (show ¬ ("sign" : Str) = "wrong" by decide +kernel), drop_cons e, List.cons_append, readL, if_neg (sgn_not c h1), if_pos h1, if_pos rfl]
      exact lexA_read n _ _ a a1 (by show t.length - (rb t.cps.toList BLK.cps.toList p + (one c).length) < n; have : p < rb t.cps.toList BLK.cps.toList p + (one c).length := a2; omega)
    · rw [h] at adv ⊢
      obtain ⟨a1, a2⟩ := adv (show ("word" : Str) ≠ "end" by decide +kernel) (show ("word" : Str) ≠ "wrong" by decide +kernel)
      rw [if_neg (show ¬ ("word" : Str) = "end" by decide +kernel), if_neg (show ¬ ("word" : Str) = "wrong" by decide +kernel)]
      have hge := rb_ge (cs := t.cps.toList) (set := LET.cps.toList) (p := rb t.cps.toList BLK.cps.toList p)
      have hle := rb_le (cs := t.cps.toList) (set := LET.cps.toList) (p := rb t.cps.toList BLK.cps.toList p) (by rw [len_cps]; exact hq)
      rw [len_cps] at hle
      have hlen := cutS_len hge hle
      have hrun := cutS_run hge hle
      have houtE : ∀ d, t.cps.toList[rb t.cps.toList LET.cps.toList (rb t.cps.toList BLK.cps.toList p)]? = some d → d ∉ LET.cps.toList := fun d hd => rb_out hd
      have hgo := rb_go e h2
      generalize rb t.cps.toList BLK.cps.toList p = q at *
      obtain ⟨ls, l1, l2, l3, l4⟩ := rb_split t.cps.toList LET.cps.toList q
      generalize rb t.cps.toList LET.cps.toList q = r at *
      rw [l4] at hrun
      have hls : ls = c :: ls.drop 1 := by
        have hc := drop_cons e
        rw [l2] at hc
        cases ls with
        | nil =>
          have g := rb_ge (cs := t.cps.toList) (set := LET.cps.toList) (p := q + 1)
          rw [List.length_nil] at l3
          omega
        | cons d ls => injection hc with h3 h4; rw [h3]; rfl
      have step : readL (t.cps.toList.drop q ++ [32]) q acc "" a = readL (t.cps.toList.drop r ++ [32]) r acc ⟨ls.toArray⟩ q := by
        rw [l2, List.append_assoc]
        have l3' := l3
        rw [hls] at l3' ⊢
        rw [List.cons_append, readL, if_pos h2, if_pos rfl, if_pos rfl, readL_let _ (fun d hd => l1 d (List.mem_of_mem_drop hd)) one_ne, l3']
        have e1 : (⟨(one c).cps ++ (ls.drop 1).toArray⟩ : Str) = ⟨(c :: ls.drop 1).toArray⟩ := by
          show Str.mk (#[c] ++ (ls.drop 1).toArray) = _
          congr 1
          simp
        rw [e1, List.length_cons, show q + 1 + (ls.drop 1).length = q + ((ls.drop 1).length + 1) by omega]
      have hne : (⟨ls.toArray⟩ : Str) ≠ "" := fun z => by
        have := congrArg (fun s : Str => s.cps.size) z
        rw [hls] at this
        exact absurd this (by show ¬ (c :: ls.drop 1).toArray.size = 0; simp)
      rw [step]
      have fin : readL (t.cps.toList.drop r ++ [32]) r acc ⟨ls.toArray⟩ q = readL (t.cps.toList.drop r ++ [32]) r (acc ++ [tri "word" ⟨ls.toArray⟩ q]) "" a := by
        cases er : t.cps.toList[r]? with
        | none =>
          rw [List.drop_eq_nil_of_le (by simpa using er)]
          show readL [32] _ _ _ _ = readL [32] _ _ _ _
          rw [readL_word end_not.1 hne]
          exact readL_a _ _ _ _ _
        | some d =>
          rw [drop_cons er, List.cons_append, readL_word (houtE d er) hne]
          exact readL_a _ _ _ _ _
      rw [fin]
      show lexA t n (q + (cutS t (some (q : Int)) (some (r : Int))).length) (acc ++ [tri "word" (cutS t (some (q : Int)) (some (r : Int))) q]) = _
      have hadd : q + (cutS t (some (q : Int)) (some (r : Int))).length = r := by rw [hlen]; omega
      rw [hadd, hrun]
      have a2' : p < q + (cutS t (some (q : Int)) (some (r : Int))).length := a2
      exact lexA_read n r _ a hle (by omega)
    · rw [h, if_neg (show ¬ ("wrong" : Str) = "end" by decide +kernel), if_pos rfl, drop_cons e, List.cons_append, readL, if_neg h2, if_neg h1, if_neg hb]
end Lw
set_option maxRecDepth 100000
set_option maxHeartbeats 1000000
namespace Lw
open PySem PySem.Spec PyProof.Rows L2 DL
/-! ### _law_read is the law's own walk -/
abbrev LTT : Str := "abcdefghijklmnopqrstuvwxyz0123456789"
theorem ltt_eq : LTT.cps.toList = LET.cps.toList := by kernel_rfl
theorem in_let {c : Nat} : inB false (.imm (.str (one c))) (.imm (.str "abcdefghijklmnopqrstuvwxyz0123456789")) = some (.imm (.bool (decide (c ∈ LET.cps.toList)))) := by
  have : inB false (.imm (.str (one c))) (.imm (.str LTT)) = some (.imm (.bool (decide (c ∈ LTT.cps.toList)))) := rfl
  rw [ltt_eq] at this
  exact this
theorem one_inj {c d : Nat} : one c = one d ↔ c = d := ⟨fun h => by
  have := congrArg (fun s : Str => s.cps[0]?) h
  simpa [one] using this, fun h => by rw [h]⟩
theorem any_one {c : Nat} : ∀ l : List Nat, (l.map fun d => PyData.str (one d)).any (fun z => PyData.eqv z (.str (one c))) = decide (c ∈ l)
  | [] => rfl
  | d :: l => by
    rw [List.map_cons, List.any_cons, any_one l]
    have : PyData.eqv (.str (one d)) (.str (one c)) = decide (c = d) := by
      show (one d == one c) = _
      rw [Bool.eq_iff_iff, beq_iff_eq, decide_eq_true_iff, one_inj]
      exact eq_comm
    rw [this]
    simp
theorem flat_one (l : List Nat) : (l.map fun d => PyData.str (one d)).all flatD = true := by
  rw [List.all_eq_true]
  intro d hd
  obtain ⟨x, _, rfl⟩ := List.mem_map.mp hd
  rfl
theorem in_ones {c : Nat} (l : List Nat) : inB false (.imm (.str (one c))) (.imm (.tuple (l.map fun d => .str (one d)))) = some (.imm (.bool (decide (c ∈ l)))) := by
  show (if (flatD (.str (one c)) && (l.map fun d => PyData.str (one d)).all flatD) = true then some (Bd.imm (.bool ((l.map fun d => PyData.str (one d)).any fun z => PyData.eqv z (.str (one c))))) else _) = _
  rw [flat_one, any_one]
  rfl
theorem nin_ones {c : Nat} (l : List Nat) : inB true (.imm (.str (one c))) (.imm (.tuple (l.map fun d => .str (one d)))) = some (.imm (.bool (!decide (c ∈ l)))) := by
  show (if (flatD (.str (one c)) && (l.map fun d => PyData.str (one d)).all flatD) = true then some (Bd.imm (.bool (!(l.map fun d => PyData.str (one d)).any fun z => PyData.eqv z (.str (one c))))) else _) = _
  rw [flat_one, any_one]
  rfl
theorem in_sg {c : Nat} : inB false (.imm (.str (one c))) (.imm (.tuple [.str ",", .str ":", .str ";", .str "-"])) = some (.imm (.bool (decide (c ∈ SGN.cps.toList)))) := in_ones [44, 58, 59, 45]
theorem nin_bl {c : Nat} : inB true (.imm (.str (one c))) (.imm (.tuple [.str " ", .str "\n"])) = some (.imm (.bool (!decide (c ∈ BLK.cps.toList)))) := nin_ones [32, 10]
theorem add_st {a b : Str} (h : a.length + b.length ≤ 1000000) : addB (.imm (.str a)) (.imm (.str b)) = some (.imm (.str (a ++ b))) := by
  show (if a.length + b.length ≤ 1000000 then some (Bd.imm (.str (a ++ b))) else none) = _
  rw [if_pos h]
theorem enS_get {z : Str} {i : Nat} {d : PyData} (h : (enumD (signsD z))[i]? = some d) : ∃ c, z.cps.toList[i]? = some c ∧ d = .tuple [.int (i : Nat), .str (one c)] := by
  unfold enumD at h
  rw [List.getElem?_mapIdx, signsD_get] at h
  cases e : z.cps[i]? with
  | none => rw [e] at h; cases h
  | some c =>
    rw [e] at h
    refine ⟨c, by rw [Array.getElem?_toList, e], ?_⟩
    exact (Option.some.inj h).symm
theorem sp_cps {t : Str} : (t ++ (" " : Str)).cps.toList = t.cps.toList ++ [32] := by
  show (t.cps ++ #[32]).toList = _
  rw [Array.toList_append]
abbrev readE (t : Str) (f : List (Str × Str × Nat)) (w : Str) (a : Nat) (v5 v6 : Option Bd) : En := [some (.imm (.str t)), some (.lst (f.map lexD)), some (.imm (.str w)), some (.imm (.int (a : Nat))), some (.imm (.str "abcdefghijklmnopqrstuvwxyz0123456789")), v5, v6]
theorem lexD_snoc {g : List (Str × Str × Nat)} {x : Str × Str × Nat} : (g ++ [x]).map lexD = g.map lexD ++ [lexD x] := List.map_append
theorem readE_snoc {t : Str} {g : List (Str × Str × Nat)} {x : Str × Str × Nat} {w : Str} {a : Nat} {v5 v6 : Option Bd} : readE t (g ++ [x]) w a v5 v6 = [some (.imm (.str t)), some (.lst (g.map lexD ++ [lexD x])), some (.imm (.str w)), some (.imm (.int (a : Nat))), some (.imm (.str "abcdefghijklmnopqrstuvwxyz0123456789")), v5, v6] := by
  unfold readE
  rw [lexD_snoc]
theorem read_ok {t : Str} (ht : t.length ≤ 100000) {S : Src} : ∃ b S', F__law_read [.imm (.str t)] S = some (b, S') ∧ b = toldB (lexA t (t.length + 1) 0 []) := by
  have hR := lexA_read (t := t) (t.length + 1) 0 [] 0 (Nat.zero_le _) (by omega)
  rw [List.drop_zero] at hR
  rw [hR]
  have hl : (t.cps.toList ++ [32]).length = t.length + 1 := by rw [List.length_append, len_cps]; rfl
  refine run_of rfl rfl ?_
  have asp : addB (.imm (.str t)) (.imm (.str " ")) = some (.imm (.str (t ++ (" " : Str)))) := add_st (show t.length + 1 ≤ 1000000 by omega)
  unfold g__law_read
  (repeat (first | with_reducible refine ⟨_, asp, ?_⟩ | with_reducible refine p_seq ?_ | with_reducible refine nx_nx ?_ | with_reducible refine nx_rt ?_ | with_reducible refine p_if ?_ | with_reducible refine p_asg ?_ | with_reducible refine p_par ?_ | with_reducible refine p_parN ?_ | with_reducible refine p_ret ?_ | with_reducible refine p_retN ?_ | with_reducible refine p_next ?_ | with_reducible refine p_brk ?_ | with_reducible refine p_cnt ?_ | with_reducible refine p_drop ?_ | with_reducible refine p_appE ?_ | with_reducible refine p_lenE ?_ | with_reducible refine p_setI ?_ | with_reducible refine p_dput ?_ | with_reducible refine p_for ?_ | with_reducible refine p_varE ?_ | with_reducible refine p_frzE ?_ | with_reducible refine p_movE ?_ | with_reducible refine p_c ?_ | with_reducible refine p_op ?_ | with_reducible refine p_un ?_ | with_reducible refine p_ar ?_ | with_reducible refine p_me ?_ | with_reducible refine p_ife ?_ | with_reducible refine p_nil ?_ | with_reducible refine p_cons ?_ | with_reducible refine p_call ?_ | with_reducible refine p_lc ?_ | with_reducible refine p_sl ?_ | with_reducible refine p_on ?_ | with_reducible refine p_os ?_ | with_reducible refine p_fis ?_ | with_reducible refine p_rng1 ?_ | with_reducible refine p_rng2 ?_ | with_reducible refine p_fia ?_ | with_reducible refine p_din ?_ | with_reducible refine p_newT ?_ | with_reducible refine p_newK ?_ | with_reducible refine p_test ?_ | with_reducible refine p_band ?_ | with_reducible refine p_bor ?_ | with_reducible refine p_bnot ?_ | with_reducible refine p_yes ?_ | with_reducible refine p_or ?_ | with_reducible refine p_and ?_ | with_reducible refine p_not ?_ | with_reducible refine bh_t ?_ | with_reducible refine bh_f ?_ | with_reducible refine bh_nt ?_ | with_reducible refine bh_nf ?_ | ((with_reducible refine bh_r ?_); refine Exists.intro _ (And.intro rfl ?_)) | ((with_reducible refine ex_id ?_); first | refine Exists.intro _ (And.intro rfl ?_) | refine Exists.intro _ (Exists.intro _ (And.intro rfl ?_))) | ((with_reducible refine and_id ?_); refine And.intro rfl ?_)))
  refine p_forR (fun i ρ => ∃ f w a v5 v6, ρ = readE t f w a v5 v6 ∧ readL ((t.cps.toList ++ [32]).drop i) i f w a = readL (t.cps.toList ++ [32]) 0 [] "" 0 ∧ f.length ≤ 2 * i ∧ w.length ≤ i) ⟨[], "", 0, none, none, rfl, by rw [List.drop_zero], Nat.le_refl _, Nat.le_refl _⟩ ?_ ?_
  · rintro i d ρ S hd ⟨f, w, a, v5, v6, rfl, hr, hf, hw⟩
    obtain ⟨c, hc, rfl⟩ := enS_get hd
    rw [sp_cps] at hc
    have hi := (List.getElem?_eq_some_iff.mp hc).1
    rw [hl] at hi
    rw [drop_cons hc, readL] at hr
    refine ⟨_, rfl, ?_⟩
    (repeat (first | with_reducible refine ⟨_, in_let, ?_⟩ | with_reducible refine p_seq ?_ | with_reducible refine nx_nx ?_ | with_reducible refine nx_rt ?_ | with_reducible refine p_if ?_ | with_reducible refine p_asg ?_ | with_reducible refine p_par ?_ | with_reducible refine p_parN ?_ | with_reducible refine p_ret ?_ | with_reducible refine p_retN ?_ | with_reducible refine p_next ?_ | with_reducible refine p_brk ?_ | with_reducible refine p_cnt ?_ | with_reducible refine p_drop ?_ | with_reducible refine p_appE ?_ | with_reducible refine p_lenE ?_ | with_reducible refine p_setI ?_ | with_reducible refine p_dput ?_ | with_reducible refine p_for ?_ | with_reducible refine p_varE ?_ | with_reducible refine p_frzE ?_ | with_reducible refine p_movE ?_ | with_reducible refine p_c ?_ | with_reducible refine p_op ?_ | with_reducible refine p_un ?_ | with_reducible refine p_ar ?_ | with_reducible refine p_me ?_ | with_reducible refine p_ife ?_ | with_reducible refine p_nil ?_ | with_reducible refine p_cons ?_ | with_reducible refine p_call ?_ | with_reducible refine p_lc ?_ | with_reducible refine p_sl ?_ | with_reducible refine p_on ?_ | with_reducible refine p_os ?_ | with_reducible refine p_fis ?_ | with_reducible refine p_rng1 ?_ | with_reducible refine p_rng2 ?_ | with_reducible refine p_fia ?_ | with_reducible refine p_din ?_ | with_reducible refine p_newT ?_ | with_reducible refine p_newK ?_ | with_reducible refine p_test ?_ | with_reducible refine p_band ?_ | with_reducible refine p_bor ?_ | with_reducible refine p_bnot ?_ | with_reducible refine p_yes ?_ | with_reducible refine p_or ?_ | with_reducible refine p_and ?_ | with_reducible refine p_not ?_ | with_reducible refine bh_t ?_ | with_reducible refine bh_f ?_ | with_reducible refine bh_nt ?_ | with_reducible refine bh_nf ?_ | ((with_reducible refine bh_r ?_); refine Exists.intro _ (And.intro rfl ?_)) | ((with_reducible refine ex_id ?_); first | refine Exists.intro _ (And.intro rfl ?_) | refine Exists.intro _ (Exists.intro _ (And.intro rfl ?_))) | ((with_reducible refine and_id ?_); refine And.intro rfl ?_)))
    refine bh_d (fun y => ?_) fun y => ?_
    · rw [if_pos y] at hr
      (repeat (first | with_reducible refine p_seq ?_ | with_reducible refine nx_nx ?_ | with_reducible refine nx_rt ?_ | with_reducible refine p_if ?_ | with_reducible refine p_asg ?_ | with_reducible refine p_par ?_ | with_reducible refine p_parN ?_ | with_reducible refine p_ret ?_ | with_reducible refine p_retN ?_ | with_reducible refine p_next ?_ | with_reducible refine p_brk ?_ | with_reducible refine p_cnt ?_ | with_reducible refine p_drop ?_ | with_reducible refine p_appE ?_ | with_reducible refine p_lenE ?_ | with_reducible refine p_setI ?_ | with_reducible refine p_dput ?_ | with_reducible refine p_for ?_ | with_reducible refine p_varE ?_ | with_reducible refine p_frzE ?_ | with_reducible refine p_movE ?_ | with_reducible refine p_c ?_ | with_reducible refine p_op ?_ | with_reducible refine p_un ?_ | with_reducible refine p_ar ?_ | with_reducible refine p_me ?_ | with_reducible refine p_ife ?_ | with_reducible refine p_nil ?_ | with_reducible refine p_cons ?_ | with_reducible refine p_call ?_ | with_reducible refine p_lc ?_ | with_reducible refine p_sl ?_ | with_reducible refine p_on ?_ | with_reducible refine p_os ?_ | with_reducible refine p_fis ?_ | with_reducible refine p_rng1 ?_ | with_reducible refine p_rng2 ?_ | with_reducible refine p_fia ?_ | with_reducible refine p_din ?_ | with_reducible refine p_newT ?_ | with_reducible refine p_newK ?_ | with_reducible refine p_test ?_ | with_reducible refine p_band ?_ | with_reducible refine p_bor ?_ | with_reducible refine p_bnot ?_ | with_reducible refine p_yes ?_ | with_reducible refine p_or ?_ | with_reducible refine p_and ?_ | with_reducible refine p_not ?_ | with_reducible refine bh_t ?_ | with_reducible refine bh_f ?_ | with_reducible refine bh_nt ?_ | with_reducible refine bh_nf ?_ | ((with_reducible refine bh_r ?_); refine Exists.intro _ (And.intro rfl ?_)) | ((with_reducible refine ex_id ?_); first | refine Exists.intro _ (And.intro rfl ?_) | refine Exists.intro _ (Exists.intro _ (And.intro rfl ?_))) | ((with_reducible refine and_id ?_); refine And.intro rfl ?_)))
      refine bh_e (fun z => ?_) fun z => ?_
      · simp only [if_pos z] at hr
        (repeat (first | with_reducible refine p_seq ?_ | with_reducible refine nx_nx ?_ | with_reducible refine nx_rt ?_ | with_reducible refine p_if ?_ | with_reducible refine p_asg ?_ | with_reducible refine p_par ?_ | with_reducible refine p_parN ?_ | with_reducible refine p_ret ?_ | with_reducible refine p_retN ?_ | with_reducible refine p_next ?_ | with_reducible refine p_brk ?_ | with_reducible refine p_cnt ?_ | with_reducible refine p_drop ?_ | with_reducible refine p_appE ?_ | with_reducible refine p_lenE ?_ | with_reducible refine p_setI ?_ | with_reducible refine p_dput ?_ | with_reducible refine p_for ?_ | with_reducible refine p_varE ?_ | with_reducible refine p_frzE ?_ | with_reducible refine p_movE ?_ | with_reducible refine p_c ?_ | with_reducible refine p_op ?_ | with_reducible refine p_un ?_ | with_reducible refine p_ar ?_ | with_reducible refine p_me ?_ | with_reducible refine p_ife ?_ | with_reducible refine p_nil ?_ | with_reducible refine p_cons ?_ | with_reducible refine p_call ?_ | with_reducible refine p_lc ?_ | with_reducible refine p_sl ?_ | with_reducible refine p_on ?_ | with_reducible refine p_os ?_ | with_reducible refine p_fis ?_ | with_reducible refine p_rng1 ?_ | with_reducible refine p_rng2 ?_ | with_reducible refine p_fia ?_ | with_reducible refine p_din ?_ | with_reducible refine p_newT ?_ | with_reducible refine p_newK ?_ | with_reducible refine p_test ?_ | with_reducible refine p_band ?_ | with_reducible refine p_bor ?_ | with_reducible refine p_bnot ?_ | with_reducible refine p_yes ?_ | with_reducible refine p_or ?_ | with_reducible refine p_and ?_ | with_reducible refine p_not ?_ | with_reducible refine bh_t ?_ | with_reducible refine bh_f ?_ | with_reducible refine bh_nt ?_ | with_reducible refine bh_nf ?_ | ((with_reducible refine bh_r ?_); refine Exists.intro _ (And.intro rfl ?_)) | ((with_reducible refine ex_id ?_); first | refine Exists.intro _ (And.intro rfl ?_) | refine Exists.intro _ (Exists.intro _ (And.intro rfl ?_))) | ((with_reducible refine and_id ?_); refine And.intro rfl ?_)))
        exact ⟨f, one c, i, _, _, rfl, hr, by omega, by show 1 ≤ i + 1; omega⟩
      · simp only [if_neg z] at hr
        have hz : w.length + (one c).length ≤ 1000000 := by show w.length + 1 ≤ _; omega
        (repeat (first | with_reducible refine ⟨_, add_st hz, ?_⟩ | with_reducible refine p_seq ?_ | with_reducible refine nx_nx ?_ | with_reducible refine nx_rt ?_ | with_reducible refine p_if ?_ | with_reducible refine p_asg ?_ | with_reducible refine p_par ?_ | with_reducible refine p_parN ?_ | with_reducible refine p_ret ?_ | with_reducible refine p_retN ?_ | with_reducible refine p_next ?_ | with_reducible refine p_brk ?_ | with_reducible refine p_cnt ?_ | with_reducible refine p_drop ?_ | with_reducible refine p_appE ?_ | with_reducible refine p_lenE ?_ | with_reducible refine p_setI ?_ | with_reducible refine p_dput ?_ | with_reducible refine p_for ?_ | with_reducible refine p_varE ?_ | with_reducible refine p_frzE ?_ | with_reducible refine p_movE ?_ | with_reducible refine p_c ?_ | with_reducible refine p_op ?_ | with_reducible refine p_un ?_ | with_reducible refine p_ar ?_ | with_reducible refine p_me ?_ | with_reducible refine p_ife ?_ | with_reducible refine p_nil ?_ | with_reducible refine p_cons ?_ | with_reducible refine p_call ?_ | with_reducible refine p_lc ?_ | with_reducible refine p_sl ?_ | with_reducible refine p_on ?_ | with_reducible refine p_os ?_ | with_reducible refine p_fis ?_ | with_reducible refine p_rng1 ?_ | with_reducible refine p_rng2 ?_ | with_reducible refine p_fia ?_ | with_reducible refine p_din ?_ | with_reducible refine p_newT ?_ | with_reducible refine p_newK ?_ | with_reducible refine p_test ?_ | with_reducible refine p_band ?_ | with_reducible refine p_bor ?_ | with_reducible refine p_bnot ?_ | with_reducible refine p_yes ?_ | with_reducible refine p_or ?_ | with_reducible refine p_and ?_ | with_reducible refine p_not ?_ | with_reducible refine bh_t ?_ | with_reducible refine bh_f ?_ | with_reducible refine bh_nt ?_ | with_reducible refine bh_nf ?_ | ((with_reducible refine bh_r ?_); refine Exists.intro _ (And.intro rfl ?_)) | ((with_reducible refine ex_id ?_); first | refine Exists.intro _ (And.intro rfl ?_) | refine Exists.intro _ (Exists.intro _ (And.intro rfl ?_))) | ((with_reducible refine and_id ?_); refine And.intro rfl ?_)))
        refine ⟨f, w ++ one c, a, _, _, rfl, hr, by omega, ?_⟩
        show (w.cps ++ #[c]).size ≤ i + 1
        have : w.cps.size ≤ i := hw
        simp
        omega
    · rw [if_neg y] at hr
      (repeat (first | with_reducible refine p_seq ?_ | with_reducible refine nx_nx ?_ | with_reducible refine nx_rt ?_ | with_reducible refine p_if ?_ | with_reducible refine p_asg ?_ | with_reducible refine p_par ?_ | with_reducible refine p_parN ?_ | with_reducible refine p_ret ?_ | with_reducible refine p_retN ?_ | with_reducible refine p_next ?_ | with_reducible refine p_brk ?_ | with_reducible refine p_cnt ?_ | with_reducible refine p_drop ?_ | with_reducible refine p_appE ?_ | with_reducible refine p_lenE ?_ | with_reducible refine p_setI ?_ | with_reducible refine p_dput ?_ | with_reducible refine p_for ?_ | with_reducible refine p_varE ?_ | with_reducible refine p_frzE ?_ | with_reducible refine p_movE ?_ | with_reducible refine p_c ?_ | with_reducible refine p_op ?_ | with_reducible refine p_un ?_ | with_reducible refine p_ar ?_ | with_reducible refine p_me ?_ | with_reducible refine p_ife ?_ | with_reducible refine p_nil ?_ | with_reducible refine p_cons ?_ | with_reducible refine p_call ?_ | with_reducible refine p_lc ?_ | with_reducible refine p_sl ?_ | with_reducible refine p_on ?_ | with_reducible refine p_os ?_ | with_reducible refine p_fis ?_ | with_reducible refine p_rng1 ?_ | with_reducible refine p_rng2 ?_ | with_reducible refine p_fia ?_ | with_reducible refine p_din ?_ | with_reducible refine p_newT ?_ | with_reducible refine p_newK ?_ | with_reducible refine p_test ?_ | with_reducible refine p_band ?_ | with_reducible refine p_bor ?_ | with_reducible refine p_bnot ?_ | with_reducible refine p_yes ?_ | with_reducible refine p_or ?_ | with_reducible refine p_and ?_ | with_reducible refine p_not ?_ | with_reducible refine bh_t ?_ | with_reducible refine bh_f ?_ | with_reducible refine bh_nt ?_ | with_reducible refine bh_nf ?_ | ((with_reducible refine bh_r ?_); refine Exists.intro _ (And.intro rfl ?_)) | ((with_reducible refine ex_id ?_); first | refine Exists.intro _ (And.intro rfl ?_) | refine Exists.intro _ (Exists.intro _ (And.intro rfl ?_))) | ((with_reducible refine and_id ?_); refine And.intro rfl ?_)))
      refine bh_ne (fun z => ?_) fun z => ?_
      · rw [if_neg z] at hr
        (repeat (first | with_reducible refine p_seq ?_ | with_reducible refine nx_nx ?_ | with_reducible refine nx_rt ?_ | with_reducible refine p_if ?_ | with_reducible refine p_asg ?_ | with_reducible refine p_par ?_ | with_reducible refine p_parN ?_ | with_reducible refine p_ret ?_ | with_reducible refine p_retN ?_ | with_reducible refine p_next ?_ | with_reducible refine p_brk ?_ | with_reducible refine p_cnt ?_ | with_reducible refine p_drop ?_ | with_reducible refine p_appE ?_ | with_reducible refine p_lenE ?_ | with_reducible refine p_setI ?_ | with_reducible refine p_dput ?_ | with_reducible refine p_for ?_ | with_reducible refine p_varE ?_ | with_reducible refine p_frzE ?_ | with_reducible refine p_movE ?_ | with_reducible refine p_c ?_ | with_reducible refine p_op ?_ | with_reducible refine p_un ?_ | with_reducible refine p_ar ?_ | with_reducible refine p_me ?_ | with_reducible refine p_ife ?_ | with_reducible refine p_nil ?_ | with_reducible refine p_cons ?_ | with_reducible refine p_call ?_ | with_reducible refine p_lc ?_ | with_reducible refine p_sl ?_ | with_reducible refine p_on ?_ | with_reducible refine p_os ?_ | with_reducible refine p_fis ?_ | with_reducible refine p_rng1 ?_ | with_reducible refine p_rng2 ?_ | with_reducible refine p_fia ?_ | with_reducible refine p_din ?_ | with_reducible refine p_newT ?_ | with_reducible refine p_newK ?_ | with_reducible refine p_test ?_ | with_reducible refine p_band ?_ | with_reducible refine p_bor ?_ | with_reducible refine p_bnot ?_ | with_reducible refine p_yes ?_ | with_reducible refine p_or ?_ | with_reducible refine p_and ?_ | with_reducible refine p_not ?_ | with_reducible refine bh_t ?_ | with_reducible refine bh_f ?_ | with_reducible refine bh_nt ?_ | with_reducible refine bh_nf ?_ | ((with_reducible refine bh_r ?_); refine Exists.intro _ (And.intro rfl ?_)) | ((with_reducible refine ex_id ?_); first | refine Exists.intro _ (And.intro rfl ?_) | refine Exists.intro _ (Exists.intro _ (And.intro rfl ?_))) | ((with_reducible refine and_id ?_); refine And.intro rfl ?_)))
        refine ⟨_, _, rfl, rfl, by rw [List.length_map]; omega, rfl, ?_⟩
        have em : f.map lexD ++ [.tuple [.str "word", .str w, .int (a : Nat)]] = (f ++ [tri "word" w a]).map lexD := by rw [List.map_append]; rfl
        rw [em]
        (repeat (first | with_reducible refine ⟨_, in_sg, ?_⟩ | with_reducible refine p_seq ?_ | with_reducible refine nx_nx ?_ | with_reducible refine nx_rt ?_ | with_reducible refine p_if ?_ | with_reducible refine p_asg ?_ | with_reducible refine p_par ?_ | with_reducible refine p_parN ?_ | with_reducible refine p_ret ?_ | with_reducible refine p_retN ?_ | with_reducible refine p_next ?_ | with_reducible refine p_brk ?_ | with_reducible refine p_cnt ?_ | with_reducible refine p_drop ?_ | with_reducible refine p_appE ?_ | with_reducible refine p_lenE ?_ | with_reducible refine p_setI ?_ | with_reducible refine p_dput ?_ | with_reducible refine p_for ?_ | with_reducible refine p_varE ?_ | with_reducible refine p_frzE ?_ | with_reducible refine p_movE ?_ | with_reducible refine p_c ?_ | with_reducible refine p_op ?_ | with_reducible refine p_un ?_ | with_reducible refine p_ar ?_ | with_reducible refine p_me ?_ | with_reducible refine p_ife ?_ | with_reducible refine p_nil ?_ | with_reducible refine p_cons ?_ | with_reducible refine p_call ?_ | with_reducible refine p_lc ?_ | with_reducible refine p_sl ?_ | with_reducible refine p_on ?_ | with_reducible refine p_os ?_ | with_reducible refine p_fis ?_ | with_reducible refine p_rng1 ?_ | with_reducible refine p_rng2 ?_ | with_reducible refine p_fia ?_ | with_reducible refine p_din ?_ | with_reducible refine p_newT ?_ | with_reducible refine p_newK ?_ | with_reducible refine p_test ?_ | with_reducible refine p_band ?_ | with_reducible refine p_bor ?_ | with_reducible refine p_bnot ?_ | with_reducible refine p_yes ?_ | with_reducible refine p_or ?_ | with_reducible refine p_and ?_ | with_reducible refine p_not ?_ | with_reducible refine bh_t ?_ | with_reducible refine bh_f ?_ | with_reducible refine bh_nt ?_ | with_reducible refine bh_nf ?_ | ((with_reducible refine bh_r ?_); refine Exists.intro _ (And.intro rfl ?_)) | ((with_reducible refine ex_id ?_); first | refine Exists.intro _ (And.intro rfl ?_) | refine Exists.intro _ (Exists.intro _ (And.intro rfl ?_))) | ((with_reducible refine and_id ?_); refine And.intro rfl ?_)))
        refine bh_d (fun k => ?_) fun k1 => ?_
        · rw [if_pos k] at hr
          (repeat (first | with_reducible refine p_seq ?_ | with_reducible refine nx_nx ?_ | with_reducible refine nx_rt ?_ | with_reducible refine p_if ?_ | with_reducible refine p_asg ?_ | with_reducible refine p_par ?_ | with_reducible refine p_parN ?_ | with_reducible refine p_ret ?_ | with_reducible refine p_retN ?_ | with_reducible refine p_next ?_ | with_reducible refine p_brk ?_ | with_reducible refine p_cnt ?_ | with_reducible refine p_drop ?_ | with_reducible refine p_appE ?_ | with_reducible refine p_lenE ?_ | with_reducible refine p_setI ?_ | with_reducible refine p_dput ?_ | with_reducible refine p_for ?_ | with_reducible refine p_varE ?_ | with_reducible refine p_frzE ?_ | with_reducible refine p_movE ?_ | with_reducible refine p_c ?_ | with_reducible refine p_op ?_ | with_reducible refine p_un ?_ | with_reducible refine p_ar ?_ | with_reducible refine p_me ?_ | with_reducible refine p_ife ?_ | with_reducible refine p_nil ?_ | with_reducible refine p_cons ?_ | with_reducible refine p_call ?_ | with_reducible refine p_lc ?_ | with_reducible refine p_sl ?_ | with_reducible refine p_on ?_ | with_reducible refine p_os ?_ | with_reducible refine p_fis ?_ | with_reducible refine p_rng1 ?_ | with_reducible refine p_rng2 ?_ | with_reducible refine p_fia ?_ | with_reducible refine p_din ?_ | with_reducible refine p_newT ?_ | with_reducible refine p_newK ?_ | with_reducible refine p_test ?_ | with_reducible refine p_band ?_ | with_reducible refine p_bor ?_ | with_reducible refine p_bnot ?_ | with_reducible refine p_yes ?_ | with_reducible refine p_or ?_ | with_reducible refine p_and ?_ | with_reducible refine p_not ?_ | with_reducible refine bh_t ?_ | with_reducible refine bh_f ?_ | with_reducible refine bh_nt ?_ | with_reducible refine bh_nf ?_ | ((with_reducible refine bh_r ?_); refine Exists.intro _ (And.intro rfl ?_)) | ((with_reducible refine ex_id ?_); first | refine Exists.intro _ (And.intro rfl ?_) | refine Exists.intro _ (Exists.intro _ (And.intro rfl ?_))) | ((with_reducible refine and_id ?_); refine And.intro rfl ?_)))
          refine ⟨_, _, rfl, rfl, by simp only [List.length_map, List.length_append, List.length_cons, List.length_nil]; omega, rfl, ?_⟩
          refine ⟨(f ++ [tri "word" w a]) ++ [tri "sign" (one c) i], "", a, _, _, Eq.trans rfl (readE_snoc (g := f ++ [tri "word" w a]) (x := tri "sign" (one c) i)).symm, hr, by simp only [List.length_append, List.length_cons, List.length_nil]; omega, Nat.zero_le _⟩
        · (repeat (first | with_reducible refine ⟨_, nin_bl, ?_⟩ | with_reducible refine p_seq ?_ | with_reducible refine nx_nx ?_ | with_reducible refine nx_rt ?_ | with_reducible refine p_if ?_ | with_reducible refine p_asg ?_ | with_reducible refine p_par ?_ | with_reducible refine p_parN ?_ | with_reducible refine p_ret ?_ | with_reducible refine p_retN ?_ | with_reducible refine p_next ?_ | with_reducible refine p_brk ?_ | with_reducible refine p_cnt ?_ | with_reducible refine p_drop ?_ | with_reducible refine p_appE ?_ | with_reducible refine p_lenE ?_ | with_reducible refine p_setI ?_ | with_reducible refine p_dput ?_ | with_reducible refine p_for ?_ | with_reducible refine p_varE ?_ | with_reducible refine p_frzE ?_ | with_reducible refine p_movE ?_ | with_reducible refine p_c ?_ | with_reducible refine p_op ?_ | with_reducible refine p_un ?_ | with_reducible refine p_ar ?_ | with_reducible refine p_me ?_ | with_reducible refine p_ife ?_ | with_reducible refine p_nil ?_ | with_reducible refine p_cons ?_ | with_reducible refine p_call ?_ | with_reducible refine p_lc ?_ | with_reducible refine p_sl ?_ | with_reducible refine p_on ?_ | with_reducible refine p_os ?_ | with_reducible refine p_fis ?_ | with_reducible refine p_rng1 ?_ | with_reducible refine p_rng2 ?_ | with_reducible refine p_fia ?_ | with_reducible refine p_din ?_ | with_reducible refine p_newT ?_ | with_reducible refine p_newK ?_ | with_reducible refine p_test ?_ | with_reducible refine p_band ?_ | with_reducible refine p_bor ?_ | with_reducible refine p_bnot ?_ | with_reducible refine p_yes ?_ | with_reducible refine p_or ?_ | with_reducible refine p_and ?_ | with_reducible refine p_not ?_ | with_reducible refine bh_t ?_ | with_reducible refine bh_f ?_ | with_reducible refine bh_nt ?_ | with_reducible refine bh_nf ?_ | ((with_reducible refine bh_r ?_); refine Exists.intro _ (And.intro rfl ?_)) | ((with_reducible refine ex_id ?_); first | refine Exists.intro _ (And.intro rfl ?_) | refine Exists.intro _ (Exists.intro _ (And.intro rfl ?_))) | ((with_reducible refine and_id ?_); refine And.intro rfl ?_)))
          refine bh_n (bh_d (fun k2 => ?_) fun k2 => ?_)
          · rw [if_neg k1, if_pos k2] at hr
            (repeat (first | with_reducible refine p_seq ?_ | with_reducible refine nx_nx ?_ | with_reducible refine nx_rt ?_ | with_reducible refine p_if ?_ | with_reducible refine p_asg ?_ | with_reducible refine p_par ?_ | with_reducible refine p_parN ?_ | with_reducible refine p_ret ?_ | with_reducible refine p_retN ?_ | with_reducible refine p_next ?_ | with_reducible refine p_brk ?_ | with_reducible refine p_cnt ?_ | with_reducible refine p_drop ?_ | with_reducible refine p_appE ?_ | with_reducible refine p_lenE ?_ | with_reducible refine p_setI ?_ | with_reducible refine p_dput ?_ | with_reducible refine p_for ?_ | with_reducible refine p_varE ?_ | with_reducible refine p_frzE ?_ | with_reducible refine p_movE ?_ | with_reducible refine p_c ?_ | with_reducible refine p_op ?_ | with_reducible refine p_un ?_ | with_reducible refine p_ar ?_ | with_reducible refine p_me ?_ | with_reducible refine p_ife ?_ | with_reducible refine p_nil ?_ | with_reducible refine p_cons ?_ | with_reducible refine p_call ?_ | with_reducible refine p_lc ?_ | with_reducible refine p_sl ?_ | with_reducible refine p_on ?_ | with_reducible refine p_os ?_ | with_reducible refine p_fis ?_ | with_reducible refine p_rng1 ?_ | with_reducible refine p_rng2 ?_ | with_reducible refine p_fia ?_ | with_reducible refine p_din ?_ | with_reducible refine p_newT ?_ | with_reducible refine p_newK ?_ | with_reducible refine p_test ?_ | with_reducible refine p_band ?_ | with_reducible refine p_bor ?_ | with_reducible refine p_bnot ?_ | with_reducible refine p_yes ?_ | with_reducible refine p_or ?_ | with_reducible refine p_and ?_ | with_reducible refine p_not ?_ | with_reducible refine bh_t ?_ | with_reducible refine bh_f ?_ | with_reducible refine bh_nt ?_ | with_reducible refine bh_nf ?_ | ((with_reducible refine bh_r ?_); refine Exists.intro _ (And.intro rfl ?_)) | ((with_reducible refine ex_id ?_); first | refine Exists.intro _ (And.intro rfl ?_) | refine Exists.intro _ (Exists.intro _ (And.intro rfl ?_))) | ((with_reducible refine and_id ?_); refine And.intro rfl ?_)))
            exact ⟨(f ++ [tri "word" w a]), "", a, _, _, rfl, hr, by simp only [List.length_append, List.length_cons, List.length_nil]; omega, Nat.zero_le _⟩
          · rw [if_neg k1, if_neg k2] at hr
            (repeat (first | with_reducible refine p_seq ?_ | with_reducible refine nx_nx ?_ | with_reducible refine nx_rt ?_ | with_reducible refine p_if ?_ | with_reducible refine p_asg ?_ | with_reducible refine p_par ?_ | with_reducible refine p_parN ?_ | with_reducible refine p_ret ?_ | with_reducible refine p_retN ?_ | with_reducible refine p_next ?_ | with_reducible refine p_brk ?_ | with_reducible refine p_cnt ?_ | with_reducible refine p_drop ?_ | with_reducible refine p_appE ?_ | with_reducible refine p_lenE ?_ | with_reducible refine p_setI ?_ | with_reducible refine p_dput ?_ | with_reducible refine p_for ?_ | with_reducible refine p_varE ?_ | with_reducible refine p_frzE ?_ | with_reducible refine p_movE ?_ | with_reducible refine p_c ?_ | with_reducible refine p_op ?_ | with_reducible refine p_un ?_ | with_reducible refine p_ar ?_ | with_reducible refine p_me ?_ | with_reducible refine p_ife ?_ | with_reducible refine p_nil ?_ | with_reducible refine p_cons ?_ | with_reducible refine p_call ?_ | with_reducible refine p_lc ?_ | with_reducible refine p_sl ?_ | with_reducible refine p_on ?_ | with_reducible refine p_os ?_ | with_reducible refine p_fis ?_ | with_reducible refine p_rng1 ?_ | with_reducible refine p_rng2 ?_ | with_reducible refine p_fia ?_ | with_reducible refine p_din ?_ | with_reducible refine p_newT ?_ | with_reducible refine p_newK ?_ | with_reducible refine p_test ?_ | with_reducible refine p_band ?_ | with_reducible refine p_bor ?_ | with_reducible refine p_bnot ?_ | with_reducible refine p_yes ?_ | with_reducible refine p_or ?_ | with_reducible refine p_and ?_ | with_reducible refine p_not ?_ | with_reducible refine bh_t ?_ | with_reducible refine bh_f ?_ | with_reducible refine bh_nt ?_ | with_reducible refine bh_nf ?_ | ((with_reducible refine bh_r ?_); refine Exists.intro _ (And.intro rfl ?_)) | ((with_reducible refine ex_id ?_); first | refine Exists.intro _ (And.intro rfl ?_) | refine Exists.intro _ (Exists.intro _ (And.intro rfl ?_))) | ((with_reducible refine and_id ?_); refine And.intro rfl ?_)))
            show Bd.imm (.int (i : Nat)) = toldB _
            rw [← hr]
            rfl
      · rw [if_pos z] at hr
        subst z
        (repeat (first | with_reducible refine ⟨_, in_sg, ?_⟩ | with_reducible refine p_seq ?_ | with_reducible refine nx_nx ?_ | with_reducible refine nx_rt ?_ | with_reducible refine p_if ?_ | with_reducible refine p_asg ?_ | with_reducible refine p_par ?_ | with_reducible refine p_parN ?_ | with_reducible refine p_ret ?_ | with_reducible refine p_retN ?_ | with_reducible refine p_next ?_ | with_reducible refine p_brk ?_ | with_reducible refine p_cnt ?_ | with_reducible refine p_drop ?_ | with_reducible refine p_appE ?_ | with_reducible refine p_lenE ?_ | with_reducible refine p_setI ?_ | with_reducible refine p_dput ?_ | with_reducible refine p_for ?_ | with_reducible refine p_varE ?_ | with_reducible refine p_frzE ?_ | with_reducible refine p_movE ?_ | with_reducible refine p_c ?_ | with_reducible refine p_op ?_ | with_reducible refine p_un ?_ | with_reducible refine p_ar ?_ | with_reducible refine p_me ?_ | with_reducible refine p_ife ?_ | with_reducible refine p_nil ?_ | with_reducible refine p_cons ?_ | with_reducible refine p_call ?_ | with_reducible refine p_lc ?_ | with_reducible refine p_sl ?_ | with_reducible refine p_on ?_ | with_reducible refine p_os ?_ | with_reducible refine p_fis ?_ | with_reducible refine p_rng1 ?_ | with_reducible refine p_rng2 ?_ | with_reducible refine p_fia ?_ | with_reducible refine p_din ?_ | with_reducible refine p_newT ?_ | with_reducible refine p_newK ?_ | with_reducible refine p_test ?_ | with_reducible refine p_band ?_ | with_reducible refine p_bor ?_ | with_reducible refine p_bnot ?_ | with_reducible refine p_yes ?_ | with_reducible refine p_or ?_ | with_reducible refine p_and ?_ | with_reducible refine p_not ?_ | with_reducible refine bh_t ?_ | with_reducible refine bh_f ?_ | with_reducible refine bh_nt ?_ | with_reducible refine bh_nf ?_ | ((with_reducible refine bh_r ?_); refine Exists.intro _ (And.intro rfl ?_)) | ((with_reducible refine ex_id ?_); first | refine Exists.intro _ (And.intro rfl ?_) | refine Exists.intro _ (Exists.intro _ (And.intro rfl ?_))) | ((with_reducible refine and_id ?_); refine And.intro rfl ?_)))
        refine bh_d (fun k => ?_) fun k1 => ?_
        · rw [if_pos k] at hr
          (repeat (first | with_reducible refine p_seq ?_ | with_reducible refine nx_nx ?_ | with_reducible refine nx_rt ?_ | with_reducible refine p_if ?_ | with_reducible refine p_asg ?_ | with_reducible refine p_par ?_ | with_reducible refine p_parN ?_ | with_reducible refine p_ret ?_ | with_reducible refine p_retN ?_ | with_reducible refine p_next ?_ | with_reducible refine p_brk ?_ | with_reducible refine p_cnt ?_ | with_reducible refine p_drop ?_ | with_reducible refine p_appE ?_ | with_reducible refine p_lenE ?_ | with_reducible refine p_setI ?_ | with_reducible refine p_dput ?_ | with_reducible refine p_for ?_ | with_reducible refine p_varE ?_ | with_reducible refine p_frzE ?_ | with_reducible refine p_movE ?_ | with_reducible refine p_c ?_ | with_reducible refine p_op ?_ | with_reducible refine p_un ?_ | with_reducible refine p_ar ?_ | with_reducible refine p_me ?_ | with_reducible refine p_ife ?_ | with_reducible refine p_nil ?_ | with_reducible refine p_cons ?_ | with_reducible refine p_call ?_ | with_reducible refine p_lc ?_ | with_reducible refine p_sl ?_ | with_reducible refine p_on ?_ | with_reducible refine p_os ?_ | with_reducible refine p_fis ?_ | with_reducible refine p_rng1 ?_ | with_reducible refine p_rng2 ?_ | with_reducible refine p_fia ?_ | with_reducible refine p_din ?_ | with_reducible refine p_newT ?_ | with_reducible refine p_newK ?_ | with_reducible refine p_test ?_ | with_reducible refine p_band ?_ | with_reducible refine p_bor ?_ | with_reducible refine p_bnot ?_ | with_reducible refine p_yes ?_ | with_reducible refine p_or ?_ | with_reducible refine p_and ?_ | with_reducible refine p_not ?_ | with_reducible refine bh_t ?_ | with_reducible refine bh_f ?_ | with_reducible refine bh_nt ?_ | with_reducible refine bh_nf ?_ | ((with_reducible refine bh_r ?_); refine Exists.intro _ (And.intro rfl ?_)) | ((with_reducible refine ex_id ?_); first | refine Exists.intro _ (And.intro rfl ?_) | refine Exists.intro _ (Exists.intro _ (And.intro rfl ?_))) | ((with_reducible refine and_id ?_); refine And.intro rfl ?_)))
          refine ⟨_, _, rfl, rfl, by rw [List.length_map]; omega, rfl, ?_⟩
          refine ⟨f ++ [tri "sign" (one c) i], "", a, _, _, Eq.trans rfl (readE_snoc (g := f) (x := tri "sign" (one c) i)).symm, hr, by simp only [List.length_append, List.length_cons, List.length_nil]; omega, Nat.zero_le _⟩
        · (repeat (first | with_reducible refine ⟨_, nin_bl, ?_⟩ | with_reducible refine p_seq ?_ | with_reducible refine nx_nx ?_ | with_reducible refine nx_rt ?_ | with_reducible refine p_if ?_ | with_reducible refine p_asg ?_ | with_reducible refine p_par ?_ | with_reducible refine p_parN ?_ | with_reducible refine p_ret ?_ | with_reducible refine p_retN ?_ | with_reducible refine p_next ?_ | with_reducible refine p_brk ?_ | with_reducible refine p_cnt ?_ | with_reducible refine p_drop ?_ | with_reducible refine p_appE ?_ | with_reducible refine p_lenE ?_ | with_reducible refine p_setI ?_ | with_reducible refine p_dput ?_ | with_reducible refine p_for ?_ | with_reducible refine p_varE ?_ | with_reducible refine p_frzE ?_ | with_reducible refine p_movE ?_ | with_reducible refine p_c ?_ | with_reducible refine p_op ?_ | with_reducible refine p_un ?_ | with_reducible refine p_ar ?_ | with_reducible refine p_me ?_ | with_reducible refine p_ife ?_ | with_reducible refine p_nil ?_ | with_reducible refine p_cons ?_ | with_reducible refine p_call ?_ | with_reducible refine p_lc ?_ | with_reducible refine p_sl ?_ | with_reducible refine p_on ?_ | with_reducible refine p_os ?_ | with_reducible refine p_fis ?_ | with_reducible refine p_rng1 ?_ | with_reducible refine p_rng2 ?_ | with_reducible refine p_fia ?_ | with_reducible refine p_din ?_ | with_reducible refine p_newT ?_ | with_reducible refine p_newK ?_ | with_reducible refine p_test ?_ | with_reducible refine p_band ?_ | with_reducible refine p_bor ?_ | with_reducible refine p_bnot ?_ | with_reducible refine p_yes ?_ | with_reducible refine p_or ?_ | with_reducible refine p_and ?_ | with_reducible refine p_not ?_ | with_reducible refine bh_t ?_ | with_reducible refine bh_f ?_ | with_reducible refine bh_nt ?_ | with_reducible refine bh_nf ?_ | ((with_reducible refine bh_r ?_); refine Exists.intro _ (And.intro rfl ?_)) | ((with_reducible refine ex_id ?_); first | refine Exists.intro _ (And.intro rfl ?_) | refine Exists.intro _ (Exists.intro _ (And.intro rfl ?_))) | ((with_reducible refine and_id ?_); refine And.intro rfl ?_)))
          refine bh_n (bh_d (fun k2 => ?_) fun k2 => ?_)
          · rw [if_neg k1, if_pos k2] at hr
            (repeat (first | with_reducible refine p_seq ?_ | with_reducible refine nx_nx ?_ | with_reducible refine nx_rt ?_ | with_reducible refine p_if ?_ | with_reducible refine p_asg ?_ | with_reducible refine p_par ?_ | with_reducible refine p_parN ?_ | with_reducible refine p_ret ?_ | with_reducible refine p_retN ?_ | with_reducible refine p_next ?_ | with_reducible refine p_brk ?_ | with_reducible refine p_cnt ?_ | with_reducible refine p_drop ?_ | with_reducible refine p_appE ?_ | with_reducible refine p_lenE ?_ | with_reducible refine p_setI ?_ | with_reducible refine p_dput ?_ | with_reducible refine p_for ?_ | with_reducible refine p_varE ?_ | with_reducible refine p_frzE ?_ | with_reducible refine p_movE ?_ | with_reducible refine p_c ?_ | with_reducible refine p_op ?_ | with_reducible refine p_un ?_ | with_reducible refine p_ar ?_ | with_reducible refine p_me ?_ | with_reducible refine p_ife ?_ | with_reducible refine p_nil ?_ | with_reducible refine p_cons ?_ | with_reducible refine p_call ?_ | with_reducible refine p_lc ?_ | with_reducible refine p_sl ?_ | with_reducible refine p_on ?_ | with_reducible refine p_os ?_ | with_reducible refine p_fis ?_ | with_reducible refine p_rng1 ?_ | with_reducible refine p_rng2 ?_ | with_reducible refine p_fia ?_ | with_reducible refine p_din ?_ | with_reducible refine p_newT ?_ | with_reducible refine p_newK ?_ | with_reducible refine p_test ?_ | with_reducible refine p_band ?_ | with_reducible refine p_bor ?_ | with_reducible refine p_bnot ?_ | with_reducible refine p_yes ?_ | with_reducible refine p_or ?_ | with_reducible refine p_and ?_ | with_reducible refine p_not ?_ | with_reducible refine bh_t ?_ | with_reducible refine bh_f ?_ | with_reducible refine bh_nt ?_ | with_reducible refine bh_nf ?_ | ((with_reducible refine bh_r ?_); refine Exists.intro _ (And.intro rfl ?_)) | ((with_reducible refine ex_id ?_); first | refine Exists.intro _ (And.intro rfl ?_) | refine Exists.intro _ (Exists.intro _ (And.intro rfl ?_))) | ((with_reducible refine and_id ?_); refine And.intro rfl ?_)))
            exact ⟨f, "", a, _, _, rfl, hr, by omega, Nat.zero_le _⟩
          · rw [if_neg k1, if_neg k2] at hr
            (repeat (first | with_reducible refine p_seq ?_ | with_reducible refine nx_nx ?_ | with_reducible refine nx_rt ?_ | with_reducible refine p_if ?_ | with_reducible refine p_asg ?_ | with_reducible refine p_par ?_ | with_reducible refine p_parN ?_ | with_reducible refine p_ret ?_ | with_reducible refine p_retN ?_ | with_reducible refine p_next ?_ | with_reducible refine p_brk ?_ | with_reducible refine p_cnt ?_ | with_reducible refine p_drop ?_ | with_reducible refine p_appE ?_ | with_reducible refine p_lenE ?_ | with_reducible refine p_setI ?_ | with_reducible refine p_dput ?_ | with_reducible refine p_for ?_ | with_reducible refine p_varE ?_ | with_reducible refine p_frzE ?_ | with_reducible refine p_movE ?_ | with_reducible refine p_c ?_ | with_reducible refine p_op ?_ | with_reducible refine p_un ?_ | with_reducible refine p_ar ?_ | with_reducible refine p_me ?_ | with_reducible refine p_ife ?_ | with_reducible refine p_nil ?_ | with_reducible refine p_cons ?_ | with_reducible refine p_call ?_ | with_reducible refine p_lc ?_ | with_reducible refine p_sl ?_ | with_reducible refine p_on ?_ | with_reducible refine p_os ?_ | with_reducible refine p_fis ?_ | with_reducible refine p_rng1 ?_ | with_reducible refine p_rng2 ?_ | with_reducible refine p_fia ?_ | with_reducible refine p_din ?_ | with_reducible refine p_newT ?_ | with_reducible refine p_newK ?_ | with_reducible refine p_test ?_ | with_reducible refine p_band ?_ | with_reducible refine p_bor ?_ | with_reducible refine p_bnot ?_ | with_reducible refine p_yes ?_ | with_reducible refine p_or ?_ | with_reducible refine p_and ?_ | with_reducible refine p_not ?_ | with_reducible refine bh_t ?_ | with_reducible refine bh_f ?_ | with_reducible refine bh_nt ?_ | with_reducible refine bh_nf ?_ | ((with_reducible refine bh_r ?_); refine Exists.intro _ (And.intro rfl ?_)) | ((with_reducible refine ex_id ?_); first | refine Exists.intro _ (And.intro rfl ?_) | refine Exists.intro _ (Exists.intro _ (And.intro rfl ?_))) | ((with_reducible refine and_id ?_); refine And.intro rfl ?_)))
            show Bd.imm (.int (i : Nat)) = toldB _
            rw [← hr]
            rfl
  · rintro ρ S ⟨f, w, a, v5, v6, rfl, hr, hf, hw⟩
    have e : (true, enumD (signsD (t ++ (" " : Str)))).2.length = (t.cps.toList ++ [32]).length := by
      show (enumD (signsD (t ++ (" " : Str)))).length = _
      rw [← sp_cps]
      simp [enumD, signsD]
    rw [e, List.drop_eq_nil_of_le (Nat.le_refl _)] at hr
    (repeat (first | with_reducible refine p_seq ?_ | with_reducible refine nx_nx ?_ | with_reducible refine nx_rt ?_ | with_reducible refine p_if ?_ | with_reducible refine p_asg ?_ | with_reducible refine p_par ?_ | with_reducible refine p_parN ?_ | with_reducible refine p_ret ?_ | with_reducible refine p_retN ?_ | with_reducible refine p_next ?_ | with_reducible refine p_brk ?_ | with_reducible refine p_cnt ?_ | with_reducible refine p_drop ?_ | with_reducible refine p_appE ?_ | with_reducible refine p_lenE ?_ | with_reducible refine p_setI ?_ | with_reducible refine p_dput ?_ | with_reducible refine p_for ?_ | with_reducible refine p_varE ?_ | with_reducible refine p_frzE ?_ | with_reducible refine p_movE ?_ | with_reducible refine p_c ?_ | with_reducible refine p_op ?_ | with_reducible refine p_un ?_ | with_reducible refine p_ar ?_ | with_reducible refine p_me ?_ | with_reducible refine p_ife ?_ | with_reducible refine p_nil ?_ | with_reducible refine p_cons ?_ | with_reducible refine p_call ?_ | with_reducible refine p_lc ?_ | with_reducible refine p_sl ?_ | with_reducible refine p_on ?_ | with_reducible refine p_os ?_ | with_reducible refine p_fis ?_ | with_reducible refine p_rng1 ?_ | with_reducible refine p_rng2 ?_ | with_reducible refine p_fia ?_ | with_reducible refine p_din ?_ | with_reducible refine p_newT ?_ | with_reducible refine p_newK ?_ | with_reducible refine p_test ?_ | with_reducible refine p_band ?_ | with_reducible refine p_bor ?_ | with_reducible refine p_bnot ?_ | with_reducible refine p_yes ?_ | with_reducible refine p_or ?_ | with_reducible refine p_and ?_ | with_reducible refine p_not ?_ | with_reducible refine bh_t ?_ | with_reducible refine bh_f ?_ | with_reducible refine bh_nt ?_ | with_reducible refine bh_nf ?_ | ((with_reducible refine bh_r ?_); refine Exists.intro _ (And.intro rfl ?_)) | ((with_reducible refine ex_id ?_); first | refine Exists.intro _ (And.intro rfl ?_) | refine Exists.intro _ (Exists.intro _ (And.intro rfl ?_))) | ((with_reducible refine and_id ?_); refine And.intro rfl ?_)))
    show Bd.lst (f.map lexD) = _
    rw [← hr]
    rfl
end Lw
set_option maxRecDepth 100000
set_option maxHeartbeats 1000000
namespace Lw
open PySem PySem.Spec PyProof.Rows L2 DL
theorem atI_ok {ds : List PyData} {k : Int} (h : 0 ≤ k) (h2 : k < ds.length) : ∃ d ∈ ds, atI ds k = some d := by
  refine ⟨ds[k.toNat], List.getElem_mem _, ?_⟩
  unfold atI ixN
  rw [if_pos h, if_pos h2, Option.bind_some, List.getElem?_eq_getElem (by omega)]
theorem pick_ok {many : Int} {S : Src} (h1 : 1 ≤ many) (h2 : many ≤ 1000) : ∃ k S', 0 ≤ k ∧ k < many ∧ F__law_pick [.src, .imm (.int many)] S = some (.imm (.int k), S') := by
  have := pickS_range (S := S) h1
  refine ⟨(pickS S many).1, (pickS S many).2, this.1, this.2, ?_⟩
  show F_pick _ _ = _
  unfold F_pick
  simp only
  rw [if_pos (by omega)]
theorem cp_pick {bs : List Bd} {many : Int} {S : Src} {Q : Bd → Src → Prop} (e : argsB bs = some [.src, .imm (.int many)]) (h1 : 1 ≤ many) (h2 : many ≤ 1000) (h : ∀ k S', 0 ≤ k → k < many → Q (.imm (.int k)) S') : CallP F__law_pick bs S Q := by
  obtain ⟨k, S', a, b, e2⟩ := pick_ok (S := S) h1 h2
  refine callP e e2 ?_ (h k S' a b)
  cases bs.any Bd.lent <;> rfl
theorem of_seq {x : Bd} {ds : List PyData} {S : Src} (hx : x = .imm (.tuple ds) ∨ x = .imm (.list ds)) (h : ds ≠ []) (hl : ds.length ≤ 1000) : ∃ b S', F__law_of [.src, x] S = some (b, S') ∧ ∃ d ∈ ds, b = .imm d := by
  have h1 : 1 ≤ ds.length := List.length_pos_iff.mpr h
  rcases hx with rfl | rfl
  all_goals
    refine run_of rfl rfl ?_
    unfold g__law_of
    (repeat (first | with_reducible refine p_seq ?_ | with_reducible refine nx_nx ?_ | with_reducible refine nx_rt ?_ | with_reducible refine p_if ?_ | with_reducible refine p_asg ?_ | with_reducible refine p_par ?_ | with_reducible refine p_parN ?_ | with_reducible refine p_ret ?_ | with_reducible refine p_retN ?_ | with_reducible refine p_next ?_ | with_reducible refine p_brk ?_ | with_reducible refine p_cnt ?_ | with_reducible refine p_drop ?_ | with_reducible refine p_appE ?_ | with_reducible refine p_lenE ?_ | with_reducible refine p_setI ?_ | with_reducible refine p_dput ?_ | with_reducible refine p_for ?_ | with_reducible refine p_varE ?_ | with_reducible refine p_frzE ?_ | with_reducible refine p_movE ?_ | with_reducible refine p_c ?_ | with_reducible refine p_op ?_ | with_reducible refine p_un ?_ | with_reducible refine p_ar ?_ | with_reducible refine p_me ?_ | with_reducible refine p_ife ?_ | with_reducible refine p_nil ?_ | with_reducible refine p_cons ?_ | with_reducible refine p_call ?_ | with_reducible refine p_lc ?_ | with_reducible refine p_sl ?_ | with_reducible refine p_on ?_ | with_reducible refine p_os ?_ | with_reducible refine p_fis ?_ | with_reducible refine p_rng1 ?_ | with_reducible refine p_rng2 ?_ | with_reducible refine p_fia ?_ | with_reducible refine p_din ?_ | with_reducible refine p_newT ?_ | with_reducible refine p_newK ?_ | with_reducible refine p_test ?_ | with_reducible refine p_band ?_ | with_reducible refine p_bor ?_ | with_reducible refine p_bnot ?_ | with_reducible refine p_yes ?_ | with_reducible refine p_or ?_ | with_reducible refine p_and ?_ | with_reducible refine p_not ?_ | with_reducible refine bh_t ?_ | with_reducible refine bh_f ?_ | with_reducible refine bh_nt ?_ | with_reducible refine bh_nf ?_ | ((with_reducible refine bh_r ?_); refine Exists.intro _ (And.intro rfl ?_)) | ((with_reducible refine ex_id ?_); first | refine Exists.intro _ (And.intro rfl ?_) | refine Exists.intro _ (Exists.intro _ (And.intro rfl ?_))) | ((with_reducible refine and_id ?_); refine And.intro rfl ?_)))
    refine cp_pick rfl (by omega) (by omega) fun k S' k0 k1 => ?_
    obtain ⟨d, hd, e⟩ := atI_ok k0 k1
    exact ⟨_, by show (atI _ _).map _ = _; rw [e]; rfl, d, hd, rfl⟩
theorem cp_of {bs : List Bd} {x : Bd} {ds : List PyData} {S : Src} {Q : Bd → Src → Prop} (e : argsB bs = some [.src, x]) (hx : x = .imm (.tuple ds) ∨ x = .imm (.list ds)) (h : ds ≠ []) (hl : ds.length ≤ 1000) (hn : bs.any Bd.lent = false ∨ ∀ d ∈ ds, noL d = true)
    (q : ∀ d S', d ∈ ds → Q (.imm d) S') : CallP F__law_of bs S Q := by
  obtain ⟨b, S', e2, d, hd, rfl⟩ := of_seq (S := S) hx h hl
  refine callP e e2 ?_ (q d S' hd)
  rcases hn with hn | hn
  · rw [hn]; rfl
  · show (true && (!(bs.any Bd.lent) || noL d)) = true
    rw [hn d hd]
    cases bs.any Bd.lent <;> rfl
def encS (xs : List Str) : List PyData := xs.map .str
theorem encS_len {xs : List Str} : (encS xs).length = xs.length := by simp [encS]
theorem encS_get {xs : List Str} {i : Nat} {d : PyData} (h : (encS xs)[i]? = some d) : ∃ x, xs[i]? = some x ∧ d = .str x := by
  unfold encS at h
  rw [List.getElem?_map] at h
  cases e : xs[i]? with
  | none => rw [e] at h; cases h
  | some q => rw [e] at h; exact ⟨q, rfl, (Option.some.inj h).symm⟩
theorem rangeD_get {lo : Int} {n i : Nat} {d : PyData} (h : (rangeD lo n)[i]? = some d) : i < n ∧ d = .int (lo + (i : Nat)) := by
  unfold rangeD at h
  rw [List.getElem?_map] at h
  cases e : (List.range n)[i]? with
  | none => rw [e] at h; cases h
  | some j =>
    rw [e] at h
    have := List.getElem?_eq_some_iff.mp e
    obtain ⟨h1, h2⟩ := this
    rw [List.getElem_range] at h2
    subst h2
    exact ⟨by simpa using h1, (Option.some.inj h).symm⟩
theorem rangeD_len {lo : Int} {n : Nat} : (rangeD lo n).length = n := by simp [rangeD]
theorem encS_snoc {xs : List Str} {x : Str} : encS xs ++ [.str x] = encS (xs ++ [x]) := by simp [encS]
theorem cp_ofS {xs : List Str} {bs : List Bd} {x : Bd} {S : Src} {Q : Bd → Src → Prop} (e : argsB bs = some [.src, x]) (hx : x = .imm (.tuple (encS xs)) ∨ x = .imm (.list (encS xs))) (h : encS xs ≠ []) (hl : (encS xs).length ≤ 1000)
    (q : ∀ y S', y ∈ xs → Q (.imm (.str y)) S') : CallP F__law_of bs S Q := cp_of e hx h hl (.inr fun d hd => by obtain ⟨y, _, rfl⟩ := List.mem_map.mp hd; rfl) fun d S' hd => by
  obtain ⟨y, hy, rfl⟩ := List.mem_map.mp hd
  exact q y S' hy
theorem eq_same {x : Str} : eqB true (.imm (.str x)) (.imm (.str x)) = some (.imm (.bool false)) := by
  show some (Bd.imm (.bool (!decide (x = x)))) = _
  rw [decide_eq_true rfl]
  rfl
/-! ### what is drawn -/
def pcs : List Str := ["a", "m1", "sheet", "halt", "12", "0", "007", repS "x" 30, repS "9" 9, ",", ":", ";", "-", " ", "\n", " \n ", "a2b", "left", " ", ";", "-"]
def ods : List Str := ["(", ")", ".", "_", "A", "Z", "!", "+", "/", "'", "~", "^", "@", "#", "$", "*", "=", "<", ">", "?", "[", "]", "{", "}", "|", "L", "R"]
theorem pcs_len : ∀ x ∈ pcs, x.length ≤ 30 := by decide +kernel
theorem ods_len : ∀ x ∈ ods, x.length ≤ 1 := by decide +kernel
theorem pcs_cps : ∀ x ∈ pcs, ∀ c ∈ x.cps.toList, c < 128 := by decide +kernel
theorem ods_cps : ∀ x ∈ ods, ∀ c ∈ x.cps.toList, c < 128 := by decide +kernel
theorem piece_ok {S : Src} : ∃ b S', F__law_piece [.src] S = some (b, S') ∧ ∃ x ∈ pcs, b = .imm (.str x) := by
  refine run_of rfl rfl ?_
  unfold g__law_piece
  (repeat (first | with_reducible refine p_seq ?_ | with_reducible refine nx_nx ?_ | with_reducible refine nx_rt ?_ | with_reducible refine p_if ?_ | with_reducible refine p_asg ?_ | with_reducible refine p_par ?_ | with_reducible refine p_parN ?_ | with_reducible refine p_ret ?_ | with_reducible refine p_retN ?_ | with_reducible refine p_next ?_ | with_reducible refine p_brk ?_ | with_reducible refine p_cnt ?_ | with_reducible refine p_drop ?_ | with_reducible refine p_appE ?_ | with_reducible refine p_lenE ?_ | with_reducible refine p_setI ?_ | with_reducible refine p_dput ?_ | with_reducible refine p_for ?_ | with_reducible refine p_varE ?_ | with_reducible refine p_frzE ?_ | with_reducible refine p_movE ?_ | with_reducible refine p_c ?_ | with_reducible refine p_op ?_ | with_reducible refine p_un ?_ | with_reducible refine p_ar ?_ | with_reducible refine p_me ?_ | with_reducible refine p_ife ?_ | with_reducible refine p_nil ?_ | with_reducible refine p_cons ?_ | with_reducible refine p_call ?_ | with_reducible refine p_lc ?_ | with_reducible refine p_sl ?_ | with_reducible refine p_on ?_ | with_reducible refine p_os ?_ | with_reducible refine p_fis ?_ | with_reducible refine p_rng1 ?_ | with_reducible refine p_rng2 ?_ | with_reducible refine p_fia ?_ | with_reducible refine p_din ?_ | with_reducible refine p_newT ?_ | with_reducible refine p_newK ?_ | with_reducible refine p_test ?_ | with_reducible refine p_band ?_ | with_reducible refine p_bor ?_ | with_reducible refine p_bnot ?_ | with_reducible refine p_yes ?_ | with_reducible refine p_or ?_ | with_reducible refine p_and ?_ | with_reducible refine p_not ?_ | with_reducible refine bh_t ?_ | with_reducible refine bh_f ?_ | with_reducible refine bh_nt ?_ | with_reducible refine bh_nf ?_ | ((with_reducible refine bh_r ?_); refine Exists.intro _ (And.intro rfl ?_)) | ((with_reducible refine ex_id ?_); first | refine Exists.intro _ (And.intro rfl ?_) | refine Exists.intro _ (Exists.intro _ (And.intro rfl ?_))) | ((with_reducible refine and_id ?_); refine And.intro rfl ?_)))
  refine cp_ofS (xs := pcs) rfl (.inr rfl) (fun h => nomatch h) (by decide) fun y S' hy => ?_
  exact ⟨y, hy, rfl⟩
theorem odd_ok {S : Src} : ∃ b S', F__law_odd [.src] S = some (b, S') ∧ ∃ x ∈ ods, b = .imm (.str x) := by
  refine run_of rfl rfl ?_
  unfold g__law_odd
  (repeat (first | with_reducible refine p_seq ?_ | with_reducible refine nx_nx ?_ | with_reducible refine nx_rt ?_ | with_reducible refine p_if ?_ | with_reducible refine p_asg ?_ | with_reducible refine p_par ?_ | with_reducible refine p_parN ?_ | with_reducible refine p_ret ?_ | with_reducible refine p_retN ?_ | with_reducible refine p_next ?_ | with_reducible refine p_brk ?_ | with_reducible refine p_cnt ?_ | with_reducible refine p_drop ?_ | with_reducible refine p_appE ?_ | with_reducible refine p_lenE ?_ | with_reducible refine p_setI ?_ | with_reducible refine p_dput ?_ | with_reducible refine p_for ?_ | with_reducible refine p_varE ?_ | with_reducible refine p_frzE ?_ | with_reducible refine p_movE ?_ | with_reducible refine p_c ?_ | with_reducible refine p_op ?_ | with_reducible refine p_un ?_ | with_reducible refine p_ar ?_ | with_reducible refine p_me ?_ | with_reducible refine p_ife ?_ | with_reducible refine p_nil ?_ | with_reducible refine p_cons ?_ | with_reducible refine p_call ?_ | with_reducible refine p_lc ?_ | with_reducible refine p_sl ?_ | with_reducible refine p_on ?_ | with_reducible refine p_os ?_ | with_reducible refine p_fis ?_ | with_reducible refine p_rng1 ?_ | with_reducible refine p_rng2 ?_ | with_reducible refine p_fia ?_ | with_reducible refine p_din ?_ | with_reducible refine p_newT ?_ | with_reducible refine p_newK ?_ | with_reducible refine p_test ?_ | with_reducible refine p_band ?_ | with_reducible refine p_bor ?_ | with_reducible refine p_bnot ?_ | with_reducible refine p_yes ?_ | with_reducible refine p_or ?_ | with_reducible refine p_and ?_ | with_reducible refine p_not ?_ | with_reducible refine bh_t ?_ | with_reducible refine bh_f ?_ | with_reducible refine bh_nt ?_ | with_reducible refine bh_nf ?_ | ((with_reducible refine bh_r ?_); refine Exists.intro _ (And.intro rfl ?_)) | ((with_reducible refine ex_id ?_); first | refine Exists.intro _ (And.intro rfl ?_) | refine Exists.intro _ (Exists.intro _ (And.intro rfl ?_))) | ((with_reducible refine and_id ?_); refine And.intro rfl ?_)))
  refine cp_ofS (xs := ods) rfl (.inr rfl) (fun h => nomatch h) (by decide) fun y S' hy => ?_
  exact ⟨y, hy, rfl⟩
/-! ### names -/
def nameB (S : Src) (d : PyData) : Option Bool := match F_is_name [.imm d] S with
  | some (.imm (.bool b), _) => some b
  | _ => none
theorem name_of {S : Src} {d : PyData} {k : Bool} (h : nameB S d = some k) : ∃ S', F_is_name [.imm d] S = some (.imm (.bool k), S') := by
  unfold nameB at h
  split at h
  · rename_i b S' e
    cases h
    exact ⟨S', e⟩
  · cases h
def nms : List PyData := [.str "a", .str "z9", .str (repS "m" 12), .str "h0", .str "rows", .str "halts", .str "yes1", .str ("a" ++ repS "0" 11), .str "rimless", .str "lefts"]
def nos : List PyData := [.str "", .str "1a", .str (repS "m" 13), .str "A", .str "a b", .str "a-", .str "a~", .str "a ", .str " a", .str "9", .str "a_", .str "L", .none, .int 1, .bool true, .tuple [.str "a"], .list [.str "a"]]
theorem nms_ok {S : Src} : (nms.all fun d => nameB S d == some true) = true := by kernel_rfl
theorem nos_ok {S : Src} : (nos.all fun d => nameB S d == some false) = true := by kernel_rfl
def kps : List PyData := c_KEPT.map PyData.str
theorem kps_ok {S : Src} : (kps.all fun d => nameB S d == some false) = true := by kernel_rfl
theorem kept_ok {S : Src} : F__law_kept [] S = some (.lst kps, S) := by kernel_rfl
theorem cp_name {d : PyData} {k : Bool} {ds : List PyData} {S : Src} {Q : Bd → Src → Prop} (hd : d ∈ ds) (h : ∀ S, (ds.all fun d => nameB S d == some k) = true) (q : ∀ S', Q (.imm (.bool k)) S') : CallP F_is_name [.imm d] S Q := by
  have := List.all_eq_true.mp (h S) d hd
  obtain ⟨S', e⟩ := name_of (beq_iff_eq.mp this)
  exact callP rfl e rfl (q S')
theorem names_ok {S : Src} : ∃ b S', F__law_names_right [.src] S = some (b, S') ∧ b = .imm (.bool true) := by
  refine run_of rfl rfl ?_
  unfold g__law_names_right
  (repeat (first | with_reducible refine ⟨_, (rfl : smulB (.imm (.str "m")) (.imm (.int 12)) = some (.imm (.str (repS "m" 12)))), ?_⟩ | with_reducible refine ⟨_, (rfl : smulB (.imm (.str "m")) (.imm (.int 13)) = some (.imm (.str (repS "m" 13)))), ?_⟩ | with_reducible refine ⟨_, (rfl : smulB (.imm (.str "0")) (.imm (.int 11)) = some (.imm (.str (repS "0" 11)))), ?_⟩ | with_reducible refine ⟨_, (rfl : addB (.imm (.str "a")) (.imm (.str (repS "0" 11))) = some (.imm (.str ("a" ++ repS "0" 11)))), ?_⟩ | with_reducible refine p_seq ?_ | with_reducible refine nx_nx ?_ | with_reducible refine nx_rt ?_ | with_reducible refine p_if ?_ | with_reducible refine p_asg ?_ | with_reducible refine p_par ?_ | with_reducible refine p_parN ?_ | with_reducible refine p_ret ?_ | with_reducible refine p_retN ?_ | with_reducible refine p_next ?_ | with_reducible refine p_brk ?_ | with_reducible refine p_cnt ?_ | with_reducible refine p_drop ?_ | with_reducible refine p_appE ?_ | with_reducible refine p_lenE ?_ | with_reducible refine p_setI ?_ | with_reducible refine p_dput ?_ | with_reducible refine p_for ?_ | with_reducible refine p_varE ?_ | with_reducible refine p_frzE ?_ | with_reducible refine p_movE ?_ | with_reducible refine p_c ?_ | with_reducible refine p_op ?_ | with_reducible refine p_un ?_ | with_reducible refine p_ar ?_ | with_reducible refine p_me ?_ | with_reducible refine p_ife ?_ | with_reducible refine p_nil ?_ | with_reducible refine p_cons ?_ | with_reducible refine p_call ?_ | with_reducible refine p_lc ?_ | with_reducible refine p_sl ?_ | with_reducible refine p_on ?_ | with_reducible refine p_os ?_ | with_reducible refine p_fis ?_ | with_reducible refine p_rng1 ?_ | with_reducible refine p_rng2 ?_ | with_reducible refine p_fia ?_ | with_reducible refine p_din ?_ | with_reducible refine p_newT ?_ | with_reducible refine p_newK ?_ | with_reducible refine p_test ?_ | with_reducible refine p_band ?_ | with_reducible refine p_bor ?_ | with_reducible refine p_bnot ?_ | with_reducible refine p_yes ?_ | with_reducible refine p_or ?_ | with_reducible refine p_and ?_ | with_reducible refine p_not ?_ | with_reducible refine bh_t ?_ | with_reducible refine bh_f ?_ | with_reducible refine bh_nt ?_ | with_reducible refine bh_nf ?_ | ((with_reducible refine bh_r ?_); refine Exists.intro _ (And.intro rfl ?_)) | ((with_reducible refine ex_id ?_); first | refine Exists.intro _ (And.intro rfl ?_) | refine Exists.intro _ (Exists.intro _ (And.intro rfl ?_))) | ((with_reducible refine and_id ?_); refine And.intro rfl ?_)))
  refine cp_of (ds := nms) rfl (.inr rfl) (fun h => nomatch h) (by decide) (.inr (by decide +kernel)) fun d S1 hd => ?_
  (repeat (first | with_reducible refine p_seq ?_ | with_reducible refine nx_nx ?_ | with_reducible refine nx_rt ?_ | with_reducible refine p_if ?_ | with_reducible refine p_asg ?_ | with_reducible refine p_par ?_ | with_reducible refine p_parN ?_ | with_reducible refine p_ret ?_ | with_reducible refine p_retN ?_ | with_reducible refine p_next ?_ | with_reducible refine p_brk ?_ | with_reducible refine p_cnt ?_ | with_reducible refine p_drop ?_ | with_reducible refine p_appE ?_ | with_reducible refine p_lenE ?_ | with_reducible refine p_setI ?_ | with_reducible refine p_dput ?_ | with_reducible refine p_for ?_ | with_reducible refine p_varE ?_ | with_reducible refine p_frzE ?_ | with_reducible refine p_movE ?_ | with_reducible refine p_c ?_ | with_reducible refine p_op ?_ | with_reducible refine p_un ?_ | with_reducible refine p_ar ?_ | with_reducible refine p_me ?_ | with_reducible refine p_ife ?_ | with_reducible refine p_nil ?_ | with_reducible refine p_cons ?_ | with_reducible refine p_call ?_ | with_reducible refine p_lc ?_ | with_reducible refine p_sl ?_ | with_reducible refine p_on ?_ | with_reducible refine p_os ?_ | with_reducible refine p_fis ?_ | with_reducible refine p_rng1 ?_ | with_reducible refine p_rng2 ?_ | with_reducible refine p_fia ?_ | with_reducible refine p_din ?_ | with_reducible refine p_newT ?_ | with_reducible refine p_newK ?_ | with_reducible refine p_test ?_ | with_reducible refine p_band ?_ | with_reducible refine p_bor ?_ | with_reducible refine p_bnot ?_ | with_reducible refine p_yes ?_ | with_reducible refine p_or ?_ | with_reducible refine p_and ?_ | with_reducible refine p_not ?_ | with_reducible refine bh_t ?_ | with_reducible refine bh_f ?_ | with_reducible refine bh_nt ?_ | with_reducible refine bh_nf ?_ | ((with_reducible refine bh_r ?_); refine Exists.intro _ (And.intro rfl ?_)) | ((with_reducible refine ex_id ?_); first | refine Exists.intro _ (And.intro rfl ?_) | refine Exists.intro _ (Exists.intro _ (And.intro rfl ?_))) | ((with_reducible refine and_id ?_); refine And.intro rfl ?_)))
  refine cp_name hd (fun S => nms_ok) fun S2 => ?_
  (repeat (first | with_reducible refine p_seq ?_ | with_reducible refine nx_nx ?_ | with_reducible refine nx_rt ?_ | with_reducible refine p_if ?_ | with_reducible refine p_asg ?_ | with_reducible refine p_par ?_ | with_reducible refine p_parN ?_ | with_reducible refine p_ret ?_ | with_reducible refine p_retN ?_ | with_reducible refine p_next ?_ | with_reducible refine p_brk ?_ | with_reducible refine p_cnt ?_ | with_reducible refine p_drop ?_ | with_reducible refine p_appE ?_ | with_reducible refine p_lenE ?_ | with_reducible refine p_setI ?_ | with_reducible refine p_dput ?_ | with_reducible refine p_for ?_ | with_reducible refine p_varE ?_ | with_reducible refine p_frzE ?_ | with_reducible refine p_movE ?_ | with_reducible refine p_c ?_ | with_reducible refine p_op ?_ | with_reducible refine p_un ?_ | with_reducible refine p_ar ?_ | with_reducible refine p_me ?_ | with_reducible refine p_ife ?_ | with_reducible refine p_nil ?_ | with_reducible refine p_cons ?_ | with_reducible refine p_call ?_ | with_reducible refine p_lc ?_ | with_reducible refine p_sl ?_ | with_reducible refine p_on ?_ | with_reducible refine p_os ?_ | with_reducible refine p_fis ?_ | with_reducible refine p_rng1 ?_ | with_reducible refine p_rng2 ?_ | with_reducible refine p_fia ?_ | with_reducible refine p_din ?_ | with_reducible refine p_newT ?_ | with_reducible refine p_newK ?_ | with_reducible refine p_test ?_ | with_reducible refine p_band ?_ | with_reducible refine p_bor ?_ | with_reducible refine p_bnot ?_ | with_reducible refine p_yes ?_ | with_reducible refine p_or ?_ | with_reducible refine p_and ?_ | with_reducible refine p_not ?_ | with_reducible refine bh_t ?_ | with_reducible refine bh_f ?_ | with_reducible refine bh_nt ?_ | with_reducible refine bh_nf ?_ | ((with_reducible refine bh_r ?_); refine Exists.intro _ (And.intro rfl ?_)) | ((with_reducible refine ex_id ?_); first | refine Exists.intro _ (And.intro rfl ?_) | refine Exists.intro _ (Exists.intro _ (And.intro rfl ?_))) | ((with_reducible refine and_id ?_); refine And.intro rfl ?_)))
  refine callP rfl kept_ok rfl ?_
  (repeat (first | with_reducible refine p_seq ?_ | with_reducible refine nx_nx ?_ | with_reducible refine nx_rt ?_ | with_reducible refine p_if ?_ | with_reducible refine p_asg ?_ | with_reducible refine p_par ?_ | with_reducible refine p_parN ?_ | with_reducible refine p_ret ?_ | with_reducible refine p_retN ?_ | with_reducible refine p_next ?_ | with_reducible refine p_brk ?_ | with_reducible refine p_cnt ?_ | with_reducible refine p_drop ?_ | with_reducible refine p_appE ?_ | with_reducible refine p_lenE ?_ | with_reducible refine p_setI ?_ | with_reducible refine p_dput ?_ | with_reducible refine p_for ?_ | with_reducible refine p_varE ?_ | with_reducible refine p_frzE ?_ | with_reducible refine p_movE ?_ | with_reducible refine p_c ?_ | with_reducible refine p_op ?_ | with_reducible refine p_un ?_ | with_reducible refine p_ar ?_ | with_reducible refine p_me ?_ | with_reducible refine p_ife ?_ | with_reducible refine p_nil ?_ | with_reducible refine p_cons ?_ | with_reducible refine p_call ?_ | with_reducible refine p_lc ?_ | with_reducible refine p_sl ?_ | with_reducible refine p_on ?_ | with_reducible refine p_os ?_ | with_reducible refine p_fis ?_ | with_reducible refine p_rng1 ?_ | with_reducible refine p_rng2 ?_ | with_reducible refine p_fia ?_ | with_reducible refine p_din ?_ | with_reducible refine p_newT ?_ | with_reducible refine p_newK ?_ | with_reducible refine p_test ?_ | with_reducible refine p_band ?_ | with_reducible refine p_bor ?_ | with_reducible refine p_bnot ?_ | with_reducible refine p_yes ?_ | with_reducible refine p_or ?_ | with_reducible refine p_and ?_ | with_reducible refine p_not ?_ | with_reducible refine bh_t ?_ | with_reducible refine bh_f ?_ | with_reducible refine bh_nt ?_ | with_reducible refine bh_nf ?_ | ((with_reducible refine bh_r ?_); refine Exists.intro _ (And.intro rfl ?_)) | ((with_reducible refine ex_id ?_); first | refine Exists.intro _ (And.intro rfl ?_) | refine Exists.intro _ (Exists.intro _ (And.intro rfl ?_))) | ((with_reducible refine and_id ?_); refine And.intro rfl ?_)))
  refine cp_of (ds := kps) rfl (.inr rfl) (fun h => nomatch h) (by decide) (.inr (by decide +kernel)) fun d S1 hd => ?_
  (repeat (first | with_reducible refine p_seq ?_ | with_reducible refine nx_nx ?_ | with_reducible refine nx_rt ?_ | with_reducible refine p_if ?_ | with_reducible refine p_asg ?_ | with_reducible refine p_par ?_ | with_reducible refine p_parN ?_ | with_reducible refine p_ret ?_ | with_reducible refine p_retN ?_ | with_reducible refine p_next ?_ | with_reducible refine p_brk ?_ | with_reducible refine p_cnt ?_ | with_reducible refine p_drop ?_ | with_reducible refine p_appE ?_ | with_reducible refine p_lenE ?_ | with_reducible refine p_setI ?_ | with_reducible refine p_dput ?_ | with_reducible refine p_for ?_ | with_reducible refine p_varE ?_ | with_reducible refine p_frzE ?_ | with_reducible refine p_movE ?_ | with_reducible refine p_c ?_ | with_reducible refine p_op ?_ | with_reducible refine p_un ?_ | with_reducible refine p_ar ?_ | with_reducible refine p_me ?_ | with_reducible refine p_ife ?_ | with_reducible refine p_nil ?_ | with_reducible refine p_cons ?_ | with_reducible refine p_call ?_ | with_reducible refine p_lc ?_ | with_reducible refine p_sl ?_ | with_reducible refine p_on ?_ | with_reducible refine p_os ?_ | with_reducible refine p_fis ?_ | with_reducible refine p_rng1 ?_ | with_reducible refine p_rng2 ?_ | with_reducible refine p_fia ?_ | with_reducible refine p_din ?_ | with_reducible refine p_newT ?_ | with_reducible refine p_newK ?_ | with_reducible refine p_test ?_ | with_reducible refine p_band ?_ | with_reducible refine p_bor ?_ | with_reducible refine p_bnot ?_ | with_reducible refine p_yes ?_ | with_reducible refine p_or ?_ | with_reducible refine p_and ?_ | with_reducible refine p_not ?_ | with_reducible refine bh_t ?_ | with_reducible refine bh_f ?_ | with_reducible refine bh_nt ?_ | with_reducible refine bh_nf ?_ | ((with_reducible refine bh_r ?_); refine Exists.intro _ (And.intro rfl ?_)) | ((with_reducible refine ex_id ?_); first | refine Exists.intro _ (And.intro rfl ?_) | refine Exists.intro _ (Exists.intro _ (And.intro rfl ?_))) | ((with_reducible refine and_id ?_); refine And.intro rfl ?_)))
  refine cp_name hd (fun S => kps_ok) fun S2 => ?_
  (repeat (first | with_reducible refine p_seq ?_ | with_reducible refine nx_nx ?_ | with_reducible refine nx_rt ?_ | with_reducible refine p_if ?_ | with_reducible refine p_asg ?_ | with_reducible refine p_par ?_ | with_reducible refine p_parN ?_ | with_reducible refine p_ret ?_ | with_reducible refine p_retN ?_ | with_reducible refine p_next ?_ | with_reducible refine p_brk ?_ | with_reducible refine p_cnt ?_ | with_reducible refine p_drop ?_ | with_reducible refine p_appE ?_ | with_reducible refine p_lenE ?_ | with_reducible refine p_setI ?_ | with_reducible refine p_dput ?_ | with_reducible refine p_for ?_ | with_reducible refine p_varE ?_ | with_reducible refine p_frzE ?_ | with_reducible refine p_movE ?_ | with_reducible refine p_c ?_ | with_reducible refine p_op ?_ | with_reducible refine p_un ?_ | with_reducible refine p_ar ?_ | with_reducible refine p_me ?_ | with_reducible refine p_ife ?_ | with_reducible refine p_nil ?_ | with_reducible refine p_cons ?_ | with_reducible refine p_call ?_ | with_reducible refine p_lc ?_ | with_reducible refine p_sl ?_ | with_reducible refine p_on ?_ | with_reducible refine p_os ?_ | with_reducible refine p_fis ?_ | with_reducible refine p_rng1 ?_ | with_reducible refine p_rng2 ?_ | with_reducible refine p_fia ?_ | with_reducible refine p_din ?_ | with_reducible refine p_newT ?_ | with_reducible refine p_newK ?_ | with_reducible refine p_test ?_ | with_reducible refine p_band ?_ | with_reducible refine p_bor ?_ | with_reducible refine p_bnot ?_ | with_reducible refine p_yes ?_ | with_reducible refine p_or ?_ | with_reducible refine p_and ?_ | with_reducible refine p_not ?_ | with_reducible refine bh_t ?_ | with_reducible refine bh_f ?_ | with_reducible refine bh_nt ?_ | with_reducible refine bh_nf ?_ | ((with_reducible refine bh_r ?_); refine Exists.intro _ (And.intro rfl ?_)) | ((with_reducible refine ex_id ?_); first | refine Exists.intro _ (And.intro rfl ?_) | refine Exists.intro _ (Exists.intro _ (And.intro rfl ?_))) | ((with_reducible refine and_id ?_); refine And.intro rfl ?_)))
  refine cp_of (ds := nos) rfl (.inr rfl) (fun h => nomatch h) (by decide) (.inl rfl) fun d S1 hd => ?_
  (repeat (first | with_reducible refine p_seq ?_ | with_reducible refine nx_nx ?_ | with_reducible refine nx_rt ?_ | with_reducible refine p_if ?_ | with_reducible refine p_asg ?_ | with_reducible refine p_par ?_ | with_reducible refine p_parN ?_ | with_reducible refine p_ret ?_ | with_reducible refine p_retN ?_ | with_reducible refine p_next ?_ | with_reducible refine p_brk ?_ | with_reducible refine p_cnt ?_ | with_reducible refine p_drop ?_ | with_reducible refine p_appE ?_ | with_reducible refine p_lenE ?_ | with_reducible refine p_setI ?_ | with_reducible refine p_dput ?_ | with_reducible refine p_for ?_ | with_reducible refine p_varE ?_ | with_reducible refine p_frzE ?_ | with_reducible refine p_movE ?_ | with_reducible refine p_c ?_ | with_reducible refine p_op ?_ | with_reducible refine p_un ?_ | with_reducible refine p_ar ?_ | with_reducible refine p_me ?_ | with_reducible refine p_ife ?_ | with_reducible refine p_nil ?_ | with_reducible refine p_cons ?_ | with_reducible refine p_call ?_ | with_reducible refine p_lc ?_ | with_reducible refine p_sl ?_ | with_reducible refine p_on ?_ | with_reducible refine p_os ?_ | with_reducible refine p_fis ?_ | with_reducible refine p_rng1 ?_ | with_reducible refine p_rng2 ?_ | with_reducible refine p_fia ?_ | with_reducible refine p_din ?_ | with_reducible refine p_newT ?_ | with_reducible refine p_newK ?_ | with_reducible refine p_test ?_ | with_reducible refine p_band ?_ | with_reducible refine p_bor ?_ | with_reducible refine p_bnot ?_ | with_reducible refine p_yes ?_ | with_reducible refine p_or ?_ | with_reducible refine p_and ?_ | with_reducible refine p_not ?_ | with_reducible refine bh_t ?_ | with_reducible refine bh_f ?_ | with_reducible refine bh_nt ?_ | with_reducible refine bh_nf ?_ | ((with_reducible refine bh_r ?_); refine Exists.intro _ (And.intro rfl ?_)) | ((with_reducible refine ex_id ?_); first | refine Exists.intro _ (And.intro rfl ?_) | refine Exists.intro _ (Exists.intro _ (And.intro rfl ?_))) | ((with_reducible refine and_id ?_); refine And.intro rfl ?_)))
  refine cp_name hd (fun S => nos_ok) fun S2 => ?_
  (repeat (first | with_reducible refine p_seq ?_ | with_reducible refine nx_nx ?_ | with_reducible refine nx_rt ?_ | with_reducible refine p_if ?_ | with_reducible refine p_asg ?_ | with_reducible refine p_par ?_ | with_reducible refine p_parN ?_ | with_reducible refine p_ret ?_ | with_reducible refine p_retN ?_ | with_reducible refine p_next ?_ | with_reducible refine p_brk ?_ | with_reducible refine p_cnt ?_ | with_reducible refine p_drop ?_ | with_reducible refine p_appE ?_ | with_reducible refine p_lenE ?_ | with_reducible refine p_setI ?_ | with_reducible refine p_dput ?_ | with_reducible refine p_for ?_ | with_reducible refine p_varE ?_ | with_reducible refine p_frzE ?_ | with_reducible refine p_movE ?_ | with_reducible refine p_c ?_ | with_reducible refine p_op ?_ | with_reducible refine p_un ?_ | with_reducible refine p_ar ?_ | with_reducible refine p_me ?_ | with_reducible refine p_ife ?_ | with_reducible refine p_nil ?_ | with_reducible refine p_cons ?_ | with_reducible refine p_call ?_ | with_reducible refine p_lc ?_ | with_reducible refine p_sl ?_ | with_reducible refine p_on ?_ | with_reducible refine p_os ?_ | with_reducible refine p_fis ?_ | with_reducible refine p_rng1 ?_ | with_reducible refine p_rng2 ?_ | with_reducible refine p_fia ?_ | with_reducible refine p_din ?_ | with_reducible refine p_newT ?_ | with_reducible refine p_newK ?_ | with_reducible refine p_test ?_ | with_reducible refine p_band ?_ | with_reducible refine p_bor ?_ | with_reducible refine p_bnot ?_ | with_reducible refine p_yes ?_ | with_reducible refine p_or ?_ | with_reducible refine p_and ?_ | with_reducible refine p_not ?_ | with_reducible refine bh_t ?_ | with_reducible refine bh_f ?_ | with_reducible refine bh_nt ?_ | with_reducible refine bh_nf ?_ | ((with_reducible refine bh_r ?_); refine Exists.intro _ (And.intro rfl ?_)) | ((with_reducible refine ex_id ?_); first | refine Exists.intro _ (And.intro rfl ?_) | refine Exists.intro _ (Exists.intro _ (And.intro rfl ?_))) | ((with_reducible refine and_id ?_); refine And.intro rfl ?_)))
  rfl
end Lw
set_option maxRecDepth 100000
set_option maxHeartbeats 1000000
namespace Lw
open PySem PySem.Spec PyProof.Rows L2 DL
/-! ### texts that are drawn; what is heard of them can be shown -/
def TxOk (t : Str) : Prop := t.length ≤ 512 ∧ ∀ c ∈ t.cps.toList, c < 128
def LexOk (x : Str × Str × Nat) : Prop := (x.1 = "word" ∨ x.1 = "sign") ∧ TxOk x.2.1 ∧ x.2.2 ≤ 512
theorem cut_ok {t : Str} (h : TxOk t) {a b : Nat} (h1 : a ≤ b) (h2 : b ≤ t.length) : TxOk (cutS t (some (a : Int)) (some (b : Int))) := by
  refine ⟨by rw [cutS_len h1 h2]; have := h.1; omega, fun c hc => ?_⟩
  rw [cutS_run h1 h2] at hc
  exact h.2 c (List.mem_of_mem_drop (List.mem_of_mem_take (by simpa using hc)))
theorem lexF_ok {t : Str} (ht : TxOk t) {p : Nat} (hp : p ≤ t.length) : (lexF t p).2.2 ≤ t.length ∧ ((lexF t p).1 ≠ "end" → (lexF t p).1 ≠ "wrong" → LexOk (lexF t p)) := by
  refine ⟨(lex_adv hp).1, fun n1 n2 => ?_⟩
  have hq := (lex_adv hp).1
  have ht1 := ht.1
  have hq0 := rb_le (cs := t.cps.toList) (set := BLK.cps.toList) (p := p) (by rw [len_cps]; exact hp)
  rw [len_cps] at hq0
  rcases lexF_cases t p with ⟨e, h⟩ | ⟨c, e, hb, ⟨h1, h⟩ | ⟨h1, h2, h⟩ | ⟨h1, h2, h⟩⟩
  · rw [h] at n1; exact absurd rfl n1
  · rw [h] at hq ⊢
    refine ⟨.inr rfl, ⟨by show 1 ≤ 512; omega, fun d hd => ?_⟩, by show rb t.cps.toList BLK.cps.toList p ≤ 512; omega⟩
    have : d = c := by simpa [one] using hd
    rw [this]
    exact ht.2 c (List.mem_of_getElem? e)
  · rw [h] at hq ⊢
    refine ⟨.inl rfl, cut_ok ht rb_ge ?_, by show rb t.cps.toList BLK.cps.toList p ≤ 512; omega⟩
    have := rb_le (cs := t.cps.toList) (set := LET.cps.toList) (p := rb t.cps.toList BLK.cps.toList p) (by rw [len_cps]; exact hq0)
    rwa [len_cps] at this
  · rw [h] at n2; exact absurd rfl n2
def ResOk (n : Nat) : List (Str × Str × Nat) ⊕ Nat → Prop
  | .inl l => (∀ x ∈ l, LexOk x) ∧ l.length ≤ n
  | .inr k => k ≤ n
theorem lexA_ok {t : Str} (ht : TxOk t) : ∀ (n p : Nat) (acc : List (Str × Str × Nat)), p ≤ t.length → (∀ x ∈ acc, LexOk x) → acc.length ≤ p → ResOk t.length (lexA t n p acc)
  | 0, p, acc, hp, ha, hl => ⟨ha, by omega⟩
  | n + 1, p, acc, hp, ha, hl => by
    obtain ⟨f1, f2⟩ := lexF_ok ht hp
    have adv := (lex_adv (t := t) hp).2
    unfold lexA
    by_cases e1 : (lexF t p).1 = "end"
    · rw [if_pos e1]; exact ⟨ha, by omega⟩
    rw [if_neg e1]
    by_cases e2 : (lexF t p).1 = "wrong"
    · rw [if_pos e2]; exact f1
    rw [if_neg e2]
    obtain ⟨a1, a2⟩ := adv e1 e2
    refine lexA_ok ht n _ _ a1 (fun x hx => ?_) (by rw [List.length_append]; simp; omega)
    rcases List.mem_append.mp hx with hx | hx
    · exact ha x hx
    · rw [List.mem_singleton.mp hx]; exact f2 e1 e2
theorem shownInt_512 : ∀ i : Fin 513, (PyData.shown (.int ((i.val : Nat) : Int))).length ≤ 5 := by decide +kernel
theorem showInt_512 : ∀ i : Fin 513, PyData.showable (.int ((i.val : Nat) : Int)) = true := by decide +kernel
theorem shw_int5 {k i : Nat} (h : i ≤ 512) : Shw k 5 (.int (i : Nat)) :=
  ⟨showInt_512 ⟨i, by omega⟩, rfl, by simp only [PyData.depth]; omega, shownInt_512 ⟨i, by omega⟩⟩
theorem shw_tx {x : Str} (h : TxOk x) : Shw 0 5200 (.str x) := by
  refine shw_str ?_
  have := StrLaws.reprText_len x fun c hc => by have := h.2 c hc; omega
  have := h.1
  omega
theorem shw_lex {x : Str × Str × Nat} (h : LexOk x) : Shw 1 15700 (lexD x) := by
  refine (shw_tup (k := 0) (n := 5200) fun d hd => ?_).mono (Nat.le_refl _) (by show (5200 + 2) * 3 + 3 ≤ 15700; omega)
  simp only [List.mem_cons, List.not_mem_nil, or_false] at hd
  rcases hd with rfl | rfl | rfl
  · rcases h.1 with e | e <;> rw [e] <;> exact shw_str (by decide +kernel)
  · exact shw_tx h.2.1
  · exact (shw_int5 h.2.2).mono (Nat.le_refl _) (by omega)
theorem repr_told {n : Nat} {r : List (Str × Str × Nat) ⊕ Nat} (h : ResOk n r) (hn : n ≤ 512) : ∃ s, o1 reprB [toldB r] = some (.imm (.str s)) := by
  cases r with
  | inl l =>
    obtain ⟨h1, h2⟩ := h
    refine ⟨_, repr_okL (k := 2) (n := 8100000) ((shw_lst (k := 1) (n := 15700) fun d hd => ?_).mono (Nat.le_refl _) ?_) (by omega) (by omega)⟩
    · obtain ⟨x, hx, rfl⟩ := List.mem_map.mp hd
      exact shw_lex (h1 x hx)
    · rw [List.length_map]
      have : (15700 + 2) * l.length ≤ (15700 + 2) * 512 := Nat.mul_le_mul_left _ (by omega)
      omega
  | inr k => exact ⟨_, repr_ok (shw_int5 (k := 0) (by have : k ≤ n := h; omega)) (by omega) (by omega)⟩
/-! ### texts put together -/
theorem strsD_enc : ∀ xs : List Str, strsD (encS xs) = some xs
  | [] => rfl
  | x :: xs => by
    show (strsD (encS xs)).map _ = _
    rw [strsD_enc xs]
    rfl
theorem sum_le {m : Nat} : ∀ xs : List Str, (∀ x ∈ xs, x.length ≤ m) → (xs.map (·.length)).sum ≤ m * xs.length
  | [], _ => Nat.zero_le _
  | x :: xs, h => by
    have := sum_le xs fun y hy => h y (List.mem_cons_of_mem _ hy)
    have := h x List.mem_cons_self
    rw [List.map_cons, List.sum_cons, List.length_cons, Nat.mul_add]
    omega
theorem join_mem {c : Nat} : ∀ xs : List Str, c ∈ (Str.join "" xs).cps.toList → ∃ x ∈ xs, c ∈ x.cps.toList
  | [], h => by cases h
  | [x], h => ⟨x, List.mem_cons_self, h⟩
  | x :: y :: r, h => by
    have h : c ∈ ((x.cps ++ ("" : Str).cps) ++ (Str.join "" (y :: r)).cps).toList := h
    rw [Array.toList_append, Array.toList_append, List.mem_append, List.mem_append] at h
    rcases h with (h | h) | h
    · exact ⟨x, List.mem_cons_self, h⟩
    · cases h
    · obtain ⟨z, hz, hc⟩ := join_mem (y :: r) h
      exact ⟨z, List.mem_cons_of_mem _ hz, hc⟩
theorem join_st {xs : List Str} (h : ∀ x ∈ xs, x ∈ pcs) (hl : xs.length ≤ 17) : ∃ t, joinB (.imm (.str "")) (.lst (encS xs)) = some (.imm (.str t)) ∧ t.length ≤ 510 ∧ ∀ c ∈ t.cps.toList, c < 128 := by
  have hs := sum_le (m := 30) xs fun x hx => pcs_len x (h x hx)
  have h2 : 30 * xs.length ≤ 30 * 17 := Nat.mul_le_mul_left _ hl
  have e : Txt.join "" xs = Str.join "" xs := StrLaws.glued_eq_join _ _
  refine ⟨Txt.join "" xs, ?_, ?_, fun c hc => ?_⟩
  · show ((strsD (encS xs)).bind _) = _
    rw [strsD_enc, Option.bind_some, if_pos]
    show (xs.map (·.length)).sum + xs.length * 0 ≤ _
    omega
  · rw [e]
    have := StrLaws.join_length_le "" xs
    have z : ("" : Str).length = 0 := rfl
    rw [z, Nat.mul_zero] at this
    omega
  · rw [e] at hc
    obtain ⟨x, hx, hc⟩ := join_mem xs hc
    exact pcs_cps x (h x hx) c hc
theorem slA {t : Str} {k : Nat} (hl : t.length ≤ 1000000) (hk : k ≤ t.length) : ∃ u, slB (.imm (.str t)) none (some (k : Int)) = some (.imm (.str u)) ∧ u.length = k ∧ ∀ c ∈ u.cps.toList, c ∈ t.cps.toList := by
  have e2 : HT.sIx t.length t.length (some (k : Int)) = k := by
    show (if (k : Int) < 0 then ((k : Int) + (t.length : Nat)).toNat else min (k : Int).toNat t.length) = k
    rw [if_neg (by omega)]
    omega
  have e : cutS t none (some (k : Int)) = ⟨((t.cps.toList.drop 0).take (k - 0)).toArray⟩ := by
    unfold cutS
    rw [e2]
    rfl
  refine ⟨cutS t none (some (k : Int)), ?_, ?_, fun c hc => ?_⟩
  · show (if t.length ≤ 1000000 then _ else _) = _
    rw [if_pos hl]
  · rw [e]
    show ((t.cps.toList.drop 0).take (k - 0)).toArray.size = k
    rw [List.size_toArray, List.length_take, List.length_drop, len_cps]
    omega
  · rw [e] at hc
    exact List.mem_of_mem_take (i := k) (by simpa using hc)
theorem slC {t : Str} {k : Nat} (hl : t.length ≤ 1000000) (hk : k ≤ t.length) : ∃ u, slB (.imm (.str t)) (some (k : Int)) none = some (.imm (.str u)) ∧ u.length = t.length - k ∧ ∀ c ∈ u.cps.toList, c ∈ t.cps.toList := by
  have e2 : HT.sIx t.length 0 (some (k : Int)) = k := by
    show (if (k : Int) < 0 then ((k : Int) + (t.length : Nat)).toNat else min (k : Int).toNat t.length) = k
    rw [if_neg (by omega)]
    omega
  have e : cutS t (some (k : Int)) none = ⟨((t.cps.toList.drop k).take (t.length - k)).toArray⟩ := by
    unfold cutS
    rw [e2]
    rfl
  refine ⟨cutS t (some (k : Int)) none, ?_, ?_, fun c hc => ?_⟩
  · show (if t.length ≤ 1000000 then _ else _) = _
    rw [if_pos hl]
  · rw [e]
    show ((t.cps.toList.drop k).take (t.length - k)).toArray.size = _
    rw [List.size_toArray, List.length_take, List.length_drop, len_cps]
    omega
  · rw [e] at hc
    exact List.mem_of_mem_drop (List.mem_of_mem_take (by simpa using hc))
theorem app_ok {a o b : Str} {n m : Nat} (h1 : a.length = n) (h2 : o.length ≤ 1) (h3 : b.length = m) (h : n + m ≤ 510) (c1 : ∀ c ∈ a.cps.toList, c < 128) (c2 : ∀ c ∈ o.cps.toList, c < 128) (c3 : ∀ c ∈ b.cps.toList, c < 128) : TxOk (a ++ o ++ b) := by
  refine ⟨?_, fun c hc => ?_⟩
  · have : (a ++ o ++ b).length = a.length + o.length + b.length := by
      show ((a.cps ++ o.cps) ++ b.cps).size = _
      rw [Array.size_append, Array.size_append]
      rfl
    omega
  · have hc : c ∈ ((a.cps ++ o.cps) ++ b.cps).toList := hc
    rw [Array.toList_append, Array.toList_append, List.mem_append, List.mem_append] at hc
    rcases hc with (hc | hc) | hc
    · exact c1 c hc
    · exact c2 c hc
    · exact c3 c hc
end Lw
set_option maxRecDepth 100000
set_option maxHeartbeats 1000000
namespace Lw
open PySem PySem.Spec PyProof.Rows L2 DL
/-! ### the law -/
theorem p_meth {o : Bd → Bd → Option Bd} {fx fe : SE} {ρ : En} {S : Src} {Q : Bd → En → Src → Prop} (h : (fx ρ S).Post fun x ρ S => isS x = true ∧ (fe ρ S).Post fun y ρ S => ∃ b, o x y = some b ∧ Q b ρ S) : (fMeth o fx fe ρ S).Post Q := by
  unfold fMeth
  rw [R.post_bind]
  refine h.imp fun x ρ S ⟨hx, h⟩ => ?_
  rw [if_pos hx, R.post_bind]
  exact h.imp fun y ρ S h => R.post_of.mpr h
theorem back_told (r : List (Str × Str × Nat) ⊕ Nat) : (toldB r).back = true := by cases r <;> rfl
theorem cp_told {t : Str} {S : Src} {Q : Bd → Src → Prop} (ht : t.length ≤ 100000) (q : ∀ S', Q (toldB (lexA t (t.length + 1) 0 [])) S') : CallP F__law_told [.imm (.str t)] S Q := by
  obtain ⟨b, S', e, rfl⟩ := told_ok (S := S) ht
  exact callP rfl e (by rw [back_told]; rfl) (q S')
theorem cp_read {t : Str} {S : Src} {Q : Bd → Src → Prop} (ht : t.length ≤ 100000) (q : ∀ S', Q (toldB (lexA t (t.length + 1) 0 [])) S') : CallP F__law_read [.imm (.str t)] S Q := by
  obtain ⟨b, S', e, rfl⟩ := read_ok (S := S) ht
  exact callP rfl e (by rw [back_told]; rfl) (q S')
theorem cp_lex {t : Str} {l : List (Str × Str × Nat)} {S : Src} {Q : Bd → Src → Prop} (ht : t.length ≤ 100000) (hl : lexA t (t.length + 1) 0 [] = .inl l) (q : ∀ S', Q (.lst (l.map lexD)) S') : CallP F_lexemes [.imm (.str t)] S Q := by
  obtain ⟨b, S', e, rfl⟩ := lexS_ok (S := S) ht hl
  exact callP rfl e rfl (q S')
def NI (v : Option Bd) : Prop := v = none ∨ ∃ d, v = some (.imm d)
theorem ni_some {d : PyData} : NI (some (.imm d)) := .inr ⟨d, rfl⟩
theorem nbL {v2 v3 v4 : Option Bd} (h2 : NI v2) (h3 : NI v3) (h4 : NI v4) : nbE [none, some .src, v2, v3, v4, none, none] = true := by
  rcases h2 with rfl | ⟨d2, rfl⟩ <;> rcases h3 with rfl | ⟨d3, rfl⟩ <;> rcases h4 with rfl | ⟨d4, rfl⟩ <;> rfl
def LJ (ρ : En) : Prop := ∃ v2 v3 v4, ρ = [none, some .src, v2, v3, v4, none, none] ∧ NI v2 ∧ NI v3 ∧ NI v4
theorem told_pre {t : Str} (ht : TxOk t) : t.length ≤ 100000 ∧ ∃ s, o1 reprB [toldB (lexA t (t.length + 1) 0 [])] = some (.imm (.str s)) :=
  ⟨by have := ht.1; omega, repr_told (lexA_ok ht (t.length + 1) 0 [] (Nat.zero_le _) (fun x h => nomatch h) (Nat.le_refl _)) ht.1⟩
theorem lap_ok {i : Int} {v3 v4 : Option Bd} (h3 : NI v3) (h4 : NI v4) {S : Src} : (l_law_1 [none, some .src, some (.imm (.int i)), v3, v4, none, none] S).Post fun fl ρ2 _ => (fl = .nx ∨ fl = .ct) ∧ LJ ρ2 := by
  unfold l_law_1
  (repeat (first | with_reducible refine p_meth ?_ | with_reducible refine p_seq ?_ | with_reducible refine nx_nx ?_ | with_reducible refine nx_rt ?_ | with_reducible refine p_if ?_ | with_reducible refine p_asg ?_ | with_reducible refine p_par ?_ | with_reducible refine p_parN ?_ | with_reducible refine p_ret ?_ | with_reducible refine p_retN ?_ | with_reducible refine p_next ?_ | with_reducible refine p_brk ?_ | with_reducible refine p_cnt ?_ | with_reducible refine p_drop ?_ | with_reducible refine p_appE ?_ | with_reducible refine p_lenE ?_ | with_reducible refine p_setI ?_ | with_reducible refine p_dput ?_ | with_reducible refine p_for ?_ | with_reducible refine p_varE ?_ | with_reducible refine p_frzE ?_ | with_reducible refine p_movE ?_ | with_reducible refine p_c ?_ | with_reducible refine p_op ?_ | with_reducible refine p_un ?_ | with_reducible refine p_ar ?_ | with_reducible refine p_me ?_ | with_reducible refine p_ife ?_ | with_reducible refine p_nil ?_ | with_reducible refine p_cons ?_ | with_reducible refine p_call ?_ | with_reducible refine p_lc ?_ | with_reducible refine p_sl ?_ | with_reducible refine p_on ?_ | with_reducible refine p_os ?_ | with_reducible refine p_fis ?_ | with_reducible refine p_rng1 ?_ | with_reducible refine p_rng2 ?_ | with_reducible refine p_fia ?_ | with_reducible refine p_din ?_ | with_reducible refine p_newT ?_ | with_reducible refine p_newK ?_ | with_reducible refine p_test ?_ | with_reducible refine p_band ?_ | with_reducible refine p_bor ?_ | with_reducible refine p_bnot ?_ | with_reducible refine p_yes ?_ | with_reducible refine p_or ?_ | with_reducible refine p_and ?_ | with_reducible refine p_not ?_ | with_reducible refine bh_t ?_ | with_reducible refine bh_f ?_ | with_reducible refine bh_nt ?_ | with_reducible refine bh_nf ?_ | ((with_reducible refine bh_r ?_); refine Exists.intro _ (And.intro rfl ?_)) | ((with_reducible refine ex_id ?_); first | refine Exists.intro _ (And.intro rfl ?_) | refine Exists.intro _ (Exists.intro _ (And.intro rfl ?_))) | ((with_reducible refine and_id ?_); refine And.intro rfl ?_)))
  refine cp_pick rfl (by decide) (by decide) fun k S1 k0 k1 => ?_
  obtain ⟨k, rfl⟩ := Int.eq_ofNat_of_zero_le k0
  (repeat (first | with_reducible refine p_seq ?_ | with_reducible refine nx_nx ?_ | with_reducible refine nx_rt ?_ | with_reducible refine p_if ?_ | with_reducible refine p_asg ?_ | with_reducible refine p_par ?_ | with_reducible refine p_parN ?_ | with_reducible refine p_ret ?_ | with_reducible refine p_retN ?_ | with_reducible refine p_next ?_ | with_reducible refine p_brk ?_ | with_reducible refine p_cnt ?_ | with_reducible refine p_drop ?_ | with_reducible refine p_appE ?_ | with_reducible refine p_lenE ?_ | with_reducible refine p_setI ?_ | with_reducible refine p_dput ?_ | with_reducible refine p_for ?_ | with_reducible refine p_varE ?_ | with_reducible refine p_frzE ?_ | with_reducible refine p_movE ?_ | with_reducible refine p_c ?_ | with_reducible refine p_op ?_ | with_reducible refine p_un ?_ | with_reducible refine p_ar ?_ | with_reducible refine p_me ?_ | with_reducible refine p_ife ?_ | with_reducible refine p_nil ?_ | with_reducible refine p_cons ?_ | with_reducible refine p_call ?_ | with_reducible refine p_lc ?_ | with_reducible refine p_sl ?_ | with_reducible refine p_on ?_ | with_reducible refine p_os ?_ | with_reducible refine p_fis ?_ | with_reducible refine p_rng1 ?_ | with_reducible refine p_rng2 ?_ | with_reducible refine p_fia ?_ | with_reducible refine p_din ?_ | with_reducible refine p_newT ?_ | with_reducible refine p_newK ?_ | with_reducible refine p_test ?_ | with_reducible refine p_band ?_ | with_reducible refine p_bor ?_ | with_reducible refine p_bnot ?_ | with_reducible refine p_yes ?_ | with_reducible refine p_or ?_ | with_reducible refine p_and ?_ | with_reducible refine p_not ?_ | with_reducible refine bh_t ?_ | with_reducible refine bh_f ?_ | with_reducible refine bh_nt ?_ | with_reducible refine bh_nf ?_ | ((with_reducible refine bh_r ?_); refine Exists.intro _ (And.intro rfl ?_)) | ((with_reducible refine ex_id ?_); first | refine Exists.intro _ (And.intro rfl ?_) | refine Exists.intro _ (Exists.intro _ (And.intro rfl ?_))) | ((with_reducible refine and_id ?_); refine And.intro rfl ?_)))
  refine ⟨by omega, ?_⟩
  refine p_lcS (fun j acc ρ => ∃ (xs : List Str) (v4 : Option Bd), ρ = [none, some .src, some (.imm (.int i)), v3, v4, none, none] ∧ NI v4 ∧ acc = encS xs ∧ xs.length = j ∧ ∀ x ∈ xs, x ∈ pcs) ⟨[], v4, rfl, h4, rfl, rfl, (fun x h => by cases h)⟩ ?_ ?_
  · rintro j d acc ρ S hd ⟨xs, v4, rfl, h4, rfl, hx, hp⟩
    obtain ⟨hj, rfl⟩ := rangeD_get hd
    refine ⟨_, rfl, ?_⟩
    (repeat (first | with_reducible refine p_seq ?_ | with_reducible refine nx_nx ?_ | with_reducible refine nx_rt ?_ | with_reducible refine p_if ?_ | with_reducible refine p_asg ?_ | with_reducible refine p_par ?_ | with_reducible refine p_parN ?_ | with_reducible refine p_ret ?_ | with_reducible refine p_retN ?_ | with_reducible refine p_next ?_ | with_reducible refine p_brk ?_ | with_reducible refine p_cnt ?_ | with_reducible refine p_drop ?_ | with_reducible refine p_appE ?_ | with_reducible refine p_lenE ?_ | with_reducible refine p_setI ?_ | with_reducible refine p_dput ?_ | with_reducible refine p_for ?_ | with_reducible refine p_varE ?_ | with_reducible refine p_frzE ?_ | with_reducible refine p_movE ?_ | with_reducible refine p_c ?_ | with_reducible refine p_op ?_ | with_reducible refine p_un ?_ | with_reducible refine p_ar ?_ | with_reducible refine p_me ?_ | with_reducible refine p_ife ?_ | with_reducible refine p_nil ?_ | with_reducible refine p_cons ?_ | with_reducible refine p_call ?_ | with_reducible refine p_lc ?_ | with_reducible refine p_sl ?_ | with_reducible refine p_on ?_ | with_reducible refine p_os ?_ | with_reducible refine p_fis ?_ | with_reducible refine p_rng1 ?_ | with_reducible refine p_rng2 ?_ | with_reducible refine p_fia ?_ | with_reducible refine p_din ?_ | with_reducible refine p_newT ?_ | with_reducible refine p_newK ?_ | with_reducible refine p_test ?_ | with_reducible refine p_band ?_ | with_reducible refine p_bor ?_ | with_reducible refine p_bnot ?_ | with_reducible refine p_yes ?_ | with_reducible refine p_or ?_ | with_reducible refine p_and ?_ | with_reducible refine p_not ?_ | with_reducible refine bh_t ?_ | with_reducible refine bh_f ?_ | with_reducible refine bh_nt ?_ | with_reducible refine bh_nf ?_ | ((with_reducible refine bh_r ?_); refine Exists.intro _ (And.intro rfl ?_)) | ((with_reducible refine ex_id ?_); first | refine Exists.intro _ (And.intro rfl ?_) | refine Exists.intro _ (Exists.intro _ (And.intro rfl ?_))) | ((with_reducible refine and_id ?_); refine And.intro rfl ?_)))
    obtain ⟨b, S2, e, x, hm, rfl⟩ := piece_ok (S := S)
    refine callP rfl e rfl ?_
    refine ⟨_, rfl, nbL ni_some h3 ni_some, by rw [encS_len]; omega, xs ++ [x], _, rfl, ni_some, encS_snoc, by simp [hx], fun y hy => ?_⟩
    rw [List.mem_append, List.mem_singleton] at hy
    rcases hy with hy | rfl
    · exact hp y hy
    · exact hm
  · rintro acc ρ S ⟨xs, v4, rfl, h4, rfl, hx, hp⟩
    have hx2 : xs.length ≤ 17 := by
      rw [hx, rangeD_len]
      omega
    obtain ⟨t, et, hl, hc⟩ := join_st hp hx2
    have bl := len_ok (t := t) (by omega)
    (repeat (first | with_reducible refine ⟨_, et, ?_⟩ | with_reducible refine p_seq ?_ | with_reducible refine nx_nx ?_ | with_reducible refine nx_rt ?_ | with_reducible refine p_if ?_ | with_reducible refine p_asg ?_ | with_reducible refine p_par ?_ | with_reducible refine p_parN ?_ | with_reducible refine p_ret ?_ | with_reducible refine p_retN ?_ | with_reducible refine p_next ?_ | with_reducible refine p_brk ?_ | with_reducible refine p_cnt ?_ | with_reducible refine p_drop ?_ | with_reducible refine p_appE ?_ | with_reducible refine p_lenE ?_ | with_reducible refine p_setI ?_ | with_reducible refine p_dput ?_ | with_reducible refine p_for ?_ | with_reducible refine p_varE ?_ | with_reducible refine p_frzE ?_ | with_reducible refine p_movE ?_ | with_reducible refine p_c ?_ | with_reducible refine p_op ?_ | with_reducible refine p_un ?_ | with_reducible refine p_ar ?_ | with_reducible refine p_me ?_ | with_reducible refine p_ife ?_ | with_reducible refine p_nil ?_ | with_reducible refine p_cons ?_ | with_reducible refine p_call ?_ | with_reducible refine p_lc ?_ | with_reducible refine p_sl ?_ | with_reducible refine p_on ?_ | with_reducible refine p_os ?_ | with_reducible refine p_fis ?_ | with_reducible refine p_rng1 ?_ | with_reducible refine p_rng2 ?_ | with_reducible refine p_fia ?_ | with_reducible refine p_din ?_ | with_reducible refine p_newT ?_ | with_reducible refine p_newK ?_ | with_reducible refine p_test ?_ | with_reducible refine p_band ?_ | with_reducible refine p_bor ?_ | with_reducible refine p_bnot ?_ | with_reducible refine p_yes ?_ | with_reducible refine p_or ?_ | with_reducible refine p_and ?_ | with_reducible refine p_not ?_ | with_reducible refine bh_t ?_ | with_reducible refine bh_f ?_ | with_reducible refine bh_nt ?_ | with_reducible refine bh_nf ?_ | ((with_reducible refine bh_r ?_); refine Exists.intro _ (And.intro rfl ?_)) | ((with_reducible refine ex_id ?_); first | refine Exists.intro _ (And.intro rfl ?_) | refine Exists.intro _ (Exists.intro _ (And.intro rfl ?_))) | ((with_reducible refine and_id ?_); refine And.intro rfl ?_)))
    refine cp_pick rfl (by decide) (by decide) fun g S2 g0 g1 => ?_
    (repeat (first | with_reducible refine p_seq ?_ | with_reducible refine nx_nx ?_ | with_reducible refine nx_rt ?_ | with_reducible refine p_if ?_ | with_reducible refine p_asg ?_ | with_reducible refine p_par ?_ | with_reducible refine p_parN ?_ | with_reducible refine p_ret ?_ | with_reducible refine p_retN ?_ | with_reducible refine p_next ?_ | with_reducible refine p_brk ?_ | with_reducible refine p_cnt ?_ | with_reducible refine p_drop ?_ | with_reducible refine p_appE ?_ | with_reducible refine p_lenE ?_ | with_reducible refine p_setI ?_ | with_reducible refine p_dput ?_ | with_reducible refine p_for ?_ | with_reducible refine p_varE ?_ | with_reducible refine p_frzE ?_ | with_reducible refine p_movE ?_ | with_reducible refine p_c ?_ | with_reducible refine p_op ?_ | with_reducible refine p_un ?_ | with_reducible refine p_ar ?_ | with_reducible refine p_me ?_ | with_reducible refine p_ife ?_ | with_reducible refine p_nil ?_ | with_reducible refine p_cons ?_ | with_reducible refine p_call ?_ | with_reducible refine p_lc ?_ | with_reducible refine p_sl ?_ | with_reducible refine p_on ?_ | with_reducible refine p_os ?_ | with_reducible refine p_fis ?_ | with_reducible refine p_rng1 ?_ | with_reducible refine p_rng2 ?_ | with_reducible refine p_fia ?_ | with_reducible refine p_din ?_ | with_reducible refine p_newT ?_ | with_reducible refine p_newK ?_ | with_reducible refine p_test ?_ | with_reducible refine p_band ?_ | with_reducible refine p_bor ?_ | with_reducible refine p_bnot ?_ | with_reducible refine p_yes ?_ | with_reducible refine p_or ?_ | with_reducible refine p_and ?_ | with_reducible refine p_not ?_ | with_reducible refine bh_t ?_ | with_reducible refine bh_f ?_ | with_reducible refine bh_nt ?_ | with_reducible refine bh_nf ?_ | ((with_reducible refine bh_r ?_); refine Exists.intro _ (And.intro rfl ?_)) | ((with_reducible refine ex_id ?_); first | refine Exists.intro _ (And.intro rfl ?_) | refine Exists.intro _ (Exists.intro _ (And.intro rfl ?_))) | ((with_reducible refine and_id ?_); refine And.intro rfl ?_)))
    refine bh_e (fun y => ?_) fun y => ?_
    · (repeat (first | with_reducible refine ⟨_, bl, ?_⟩ | with_reducible refine p_seq ?_ | with_reducible refine nx_nx ?_ | with_reducible refine nx_rt ?_ | with_reducible refine p_if ?_ | with_reducible refine p_asg ?_ | with_reducible refine p_par ?_ | with_reducible refine p_parN ?_ | with_reducible refine p_ret ?_ | with_reducible refine p_retN ?_ | with_reducible refine p_next ?_ | with_reducible refine p_brk ?_ | with_reducible refine p_cnt ?_ | with_reducible refine p_drop ?_ | with_reducible refine p_appE ?_ | with_reducible refine p_lenE ?_ | with_reducible refine p_setI ?_ | with_reducible refine p_dput ?_ | with_reducible refine p_for ?_ | with_reducible refine p_varE ?_ | with_reducible refine p_frzE ?_ | with_reducible refine p_movE ?_ | with_reducible refine p_c ?_ | with_reducible refine p_op ?_ | with_reducible refine p_un ?_ | with_reducible refine p_ar ?_ | with_reducible refine p_me ?_ | with_reducible refine p_ife ?_ | with_reducible refine p_nil ?_ | with_reducible refine p_cons ?_ | with_reducible refine p_call ?_ | with_reducible refine p_lc ?_ | with_reducible refine p_sl ?_ | with_reducible refine p_on ?_ | with_reducible refine p_os ?_ | with_reducible refine p_fis ?_ | with_reducible refine p_rng1 ?_ | with_reducible refine p_rng2 ?_ | with_reducible refine p_fia ?_ | with_reducible refine p_din ?_ | with_reducible refine p_newT ?_ | with_reducible refine p_newK ?_ | with_reducible refine p_test ?_ | with_reducible refine p_band ?_ | with_reducible refine p_bor ?_ | with_reducible refine p_bnot ?_ | with_reducible refine p_yes ?_ | with_reducible refine p_or ?_ | with_reducible refine p_and ?_ | with_reducible refine p_not ?_ | with_reducible refine bh_t ?_ | with_reducible refine bh_f ?_ | with_reducible refine bh_nt ?_ | with_reducible refine bh_nf ?_ | ((with_reducible refine bh_r ?_); refine Exists.intro _ (And.intro rfl ?_)) | ((with_reducible refine ex_id ?_); first | refine Exists.intro _ (And.intro rfl ?_) | refine Exists.intro _ (Exists.intro _ (And.intro rfl ?_))) | ((with_reducible refine and_id ?_); refine And.intro rfl ?_)))
      refine cp_pick rfl (by omega) (by omega) fun k S3 k0 k1 => ?_
      obtain ⟨k, rfl⟩ := Int.eq_ofNat_of_zero_le k0
      obtain ⟨a, ea, la, ca⟩ := slA (t := t) (k := k) (by omega) (by omega)
      obtain ⟨b, eb, lb, cb⟩ := slC (t := t) (k := k) (by omega) (by omega)
      (repeat (first | with_reducible refine ⟨_, ea, ?_⟩ | with_reducible refine p_seq ?_ | with_reducible refine nx_nx ?_ | with_reducible refine nx_rt ?_ | with_reducible refine p_if ?_ | with_reducible refine p_asg ?_ | with_reducible refine p_par ?_ | with_reducible refine p_parN ?_ | with_reducible refine p_ret ?_ | with_reducible refine p_retN ?_ | with_reducible refine p_next ?_ | with_reducible refine p_brk ?_ | with_reducible refine p_cnt ?_ | with_reducible refine p_drop ?_ | with_reducible refine p_appE ?_ | with_reducible refine p_lenE ?_ | with_reducible refine p_setI ?_ | with_reducible refine p_dput ?_ | with_reducible refine p_for ?_ | with_reducible refine p_varE ?_ | with_reducible refine p_frzE ?_ | with_reducible refine p_movE ?_ | with_reducible refine p_c ?_ | with_reducible refine p_op ?_ | with_reducible refine p_un ?_ | with_reducible refine p_ar ?_ | with_reducible refine p_me ?_ | with_reducible refine p_ife ?_ | with_reducible refine p_nil ?_ | with_reducible refine p_cons ?_ | with_reducible refine p_call ?_ | with_reducible refine p_lc ?_ | with_reducible refine p_sl ?_ | with_reducible refine p_on ?_ | with_reducible refine p_os ?_ | with_reducible refine p_fis ?_ | with_reducible refine p_rng1 ?_ | with_reducible refine p_rng2 ?_ | with_reducible refine p_fia ?_ | with_reducible refine p_din ?_ | with_reducible refine p_newT ?_ | with_reducible refine p_newK ?_ | with_reducible refine p_test ?_ | with_reducible refine p_band ?_ | with_reducible refine p_bor ?_ | with_reducible refine p_bnot ?_ | with_reducible refine p_yes ?_ | with_reducible refine p_or ?_ | with_reducible refine p_and ?_ | with_reducible refine p_not ?_ | with_reducible refine bh_t ?_ | with_reducible refine bh_f ?_ | with_reducible refine bh_nt ?_ | with_reducible refine bh_nf ?_ | ((with_reducible refine bh_r ?_); refine Exists.intro _ (And.intro rfl ?_)) | ((with_reducible refine ex_id ?_); first | refine Exists.intro _ (And.intro rfl ?_) | refine Exists.intro _ (Exists.intro _ (And.intro rfl ?_))) | ((with_reducible refine and_id ?_); refine And.intro rfl ?_)))
      obtain ⟨bo, S4, e, o, ho, rfl⟩ := odd_ok (S := S3)
      have lo := ods_len o ho
      have e1 : (a ++ o).length = a.length + o.length := Array.size_append ..
      refine callP rfl e rfl ?_
      (repeat (first | with_reducible refine ⟨_, add_st (show a.length + o.length ≤ 1000000 by omega), ?_⟩ | with_reducible refine ⟨_, eb, ?_⟩ | with_reducible refine ⟨_, add_st (show (a ++ o).length + b.length ≤ 1000000 by omega), ?_⟩ | with_reducible refine p_seq ?_ | with_reducible refine nx_nx ?_ | with_reducible refine nx_rt ?_ | with_reducible refine p_if ?_ | with_reducible refine p_asg ?_ | with_reducible refine p_par ?_ | with_reducible refine p_parN ?_ | with_reducible refine p_ret ?_ | with_reducible refine p_retN ?_ | with_reducible refine p_next ?_ | with_reducible refine p_brk ?_ | with_reducible refine p_cnt ?_ | with_reducible refine p_drop ?_ | with_reducible refine p_appE ?_ | with_reducible refine p_lenE ?_ | with_reducible refine p_setI ?_ | with_reducible refine p_dput ?_ | with_reducible refine p_for ?_ | with_reducible refine p_varE ?_ | with_reducible refine p_frzE ?_ | with_reducible refine p_movE ?_ | with_reducible refine p_c ?_ | with_reducible refine p_op ?_ | with_reducible refine p_un ?_ | with_reducible refine p_ar ?_ | with_reducible refine p_me ?_ | with_reducible refine p_ife ?_ | with_reducible refine p_nil ?_ | with_reducible refine p_cons ?_ | with_reducible refine p_call ?_ | with_reducible refine p_lc ?_ | with_reducible refine p_sl ?_ | with_reducible refine p_on ?_ | with_reducible refine p_os ?_ | with_reducible refine p_fis ?_ | with_reducible refine p_rng1 ?_ | with_reducible refine p_rng2 ?_ | with_reducible refine p_fia ?_ | with_reducible refine p_din ?_ | with_reducible refine p_newT ?_ | with_reducible refine p_newK ?_ | with_reducible refine p_test ?_ | with_reducible refine p_band ?_ | with_reducible refine p_bor ?_ | with_reducible refine p_bnot ?_ | with_reducible refine p_yes ?_ | with_reducible refine p_or ?_ | with_reducible refine p_and ?_ | with_reducible refine p_not ?_ | with_reducible refine bh_t ?_ | with_reducible refine bh_f ?_ | with_reducible refine bh_nt ?_ | with_reducible refine bh_nf ?_ | ((with_reducible refine bh_r ?_); refine Exists.intro _ (And.intro rfl ?_)) | ((with_reducible refine ex_id ?_); first | refine Exists.intro _ (And.intro rfl ?_) | refine Exists.intro _ (Exists.intro _ (And.intro rfl ?_))) | ((with_reducible refine and_id ?_); refine And.intro rfl ?_)))
      obtain ⟨hl, s, hs⟩ := told_pre (app_ok la lo lb (by omega) (fun c h => hc c (ca c h)) (ods_cps o ho) fun c h => hc c (cb c h))
      refine cp_told hl fun S1 => ?_
      (repeat (first | with_reducible refine ⟨_, hs, ?_⟩ | with_reducible refine p_seq ?_ | with_reducible refine nx_nx ?_ | with_reducible refine nx_rt ?_ | with_reducible refine p_if ?_ | with_reducible refine p_asg ?_ | with_reducible refine p_par ?_ | with_reducible refine p_parN ?_ | with_reducible refine p_ret ?_ | with_reducible refine p_retN ?_ | with_reducible refine p_next ?_ | with_reducible refine p_brk ?_ | with_reducible refine p_cnt ?_ | with_reducible refine p_drop ?_ | with_reducible refine p_appE ?_ | with_reducible refine p_lenE ?_ | with_reducible refine p_setI ?_ | with_reducible refine p_dput ?_ | with_reducible refine p_for ?_ | with_reducible refine p_varE ?_ | with_reducible refine p_frzE ?_ | with_reducible refine p_movE ?_ | with_reducible refine p_c ?_ | with_reducible refine p_op ?_ | with_reducible refine p_un ?_ | with_reducible refine p_ar ?_ | with_reducible refine p_me ?_ | with_reducible refine p_ife ?_ | with_reducible refine p_nil ?_ | with_reducible refine p_cons ?_ | with_reducible refine p_call ?_ | with_reducible refine p_lc ?_ | with_reducible refine p_sl ?_ | with_reducible refine p_on ?_ | with_reducible refine p_os ?_ | with_reducible refine p_fis ?_ | with_reducible refine p_rng1 ?_ | with_reducible refine p_rng2 ?_ | with_reducible refine p_fia ?_ | with_reducible refine p_din ?_ | with_reducible refine p_newT ?_ | with_reducible refine p_newK ?_ | with_reducible refine p_test ?_ | with_reducible refine p_band ?_ | with_reducible refine p_bor ?_ | with_reducible refine p_bnot ?_ | with_reducible refine p_yes ?_ | with_reducible refine p_or ?_ | with_reducible refine p_and ?_ | with_reducible refine p_not ?_ | with_reducible refine bh_t ?_ | with_reducible refine bh_f ?_ | with_reducible refine bh_nt ?_ | with_reducible refine bh_nf ?_ | ((with_reducible refine bh_r ?_); refine Exists.intro _ (And.intro rfl ?_)) | ((with_reducible refine ex_id ?_); first | refine Exists.intro _ (And.intro rfl ?_) | refine Exists.intro _ (Exists.intro _ (And.intro rfl ?_))) | ((with_reducible refine and_id ?_); refine And.intro rfl ?_)))
      refine cp_read hl fun S2 => ?_
      (repeat (first | with_reducible refine ⟨_, hs, ?_⟩ | with_reducible refine ⟨_, eq_same, ?_⟩ | with_reducible refine p_seq ?_ | with_reducible refine nx_nx ?_ | with_reducible refine nx_rt ?_ | with_reducible refine p_if ?_ | with_reducible refine p_asg ?_ | with_reducible refine p_par ?_ | with_reducible refine p_parN ?_ | with_reducible refine p_ret ?_ | with_reducible refine p_retN ?_ | with_reducible refine p_next ?_ | with_reducible refine p_brk ?_ | with_reducible refine p_cnt ?_ | with_reducible refine p_drop ?_ | with_reducible refine p_appE ?_ | with_reducible refine p_lenE ?_ | with_reducible refine p_setI ?_ | with_reducible refine p_dput ?_ | with_reducible refine p_for ?_ | with_reducible refine p_varE ?_ | with_reducible refine p_frzE ?_ | with_reducible refine p_movE ?_ | with_reducible refine p_c ?_ | with_reducible refine p_op ?_ | with_reducible refine p_un ?_ | with_reducible refine p_ar ?_ | with_reducible refine p_me ?_ | with_reducible refine p_ife ?_ | with_reducible refine p_nil ?_ | with_reducible refine p_cons ?_ | with_reducible refine p_call ?_ | with_reducible refine p_lc ?_ | with_reducible refine p_sl ?_ | with_reducible refine p_on ?_ | with_reducible refine p_os ?_ | with_reducible refine p_fis ?_ | with_reducible refine p_rng1 ?_ | with_reducible refine p_rng2 ?_ | with_reducible refine p_fia ?_ | with_reducible refine p_din ?_ | with_reducible refine p_newT ?_ | with_reducible refine p_newK ?_ | with_reducible refine p_test ?_ | with_reducible refine p_band ?_ | with_reducible refine p_bor ?_ | with_reducible refine p_bnot ?_ | with_reducible refine p_yes ?_ | with_reducible refine p_or ?_ | with_reducible refine p_and ?_ | with_reducible refine p_not ?_ | with_reducible refine bh_t ?_ | with_reducible refine bh_f ?_ | with_reducible refine bh_nt ?_ | with_reducible refine bh_nf ?_ | ((with_reducible refine bh_r ?_); refine Exists.intro _ (And.intro rfl ?_)) | ((with_reducible refine ex_id ?_); first | refine Exists.intro _ (And.intro rfl ?_) | refine Exists.intro _ (Exists.intro _ (And.intro rfl ?_))) | ((with_reducible refine and_id ?_); refine And.intro rfl ?_)))
      refine cp_eq rfl rfl names_ok fun S3 => ?_
      (repeat (first | with_reducible refine p_seq ?_ | with_reducible refine nx_nx ?_ | with_reducible refine nx_rt ?_ | with_reducible refine p_if ?_ | with_reducible refine p_asg ?_ | with_reducible refine p_par ?_ | with_reducible refine p_parN ?_ | with_reducible refine p_ret ?_ | with_reducible refine p_retN ?_ | with_reducible refine p_next ?_ | with_reducible refine p_brk ?_ | with_reducible refine p_cnt ?_ | with_reducible refine p_drop ?_ | with_reducible refine p_appE ?_ | with_reducible refine p_lenE ?_ | with_reducible refine p_setI ?_ | with_reducible refine p_dput ?_ | with_reducible refine p_for ?_ | with_reducible refine p_varE ?_ | with_reducible refine p_frzE ?_ | with_reducible refine p_movE ?_ | with_reducible refine p_c ?_ | with_reducible refine p_op ?_ | with_reducible refine p_un ?_ | with_reducible refine p_ar ?_ | with_reducible refine p_me ?_ | with_reducible refine p_ife ?_ | with_reducible refine p_nil ?_ | with_reducible refine p_cons ?_ | with_reducible refine p_call ?_ | with_reducible refine p_lc ?_ | with_reducible refine p_sl ?_ | with_reducible refine p_on ?_ | with_reducible refine p_os ?_ | with_reducible refine p_fis ?_ | with_reducible refine p_rng1 ?_ | with_reducible refine p_rng2 ?_ | with_reducible refine p_fia ?_ | with_reducible refine p_din ?_ | with_reducible refine p_newT ?_ | with_reducible refine p_newK ?_ | with_reducible refine p_test ?_ | with_reducible refine p_band ?_ | with_reducible refine p_bor ?_ | with_reducible refine p_bnot ?_ | with_reducible refine p_yes ?_ | with_reducible refine p_or ?_ | with_reducible refine p_and ?_ | with_reducible refine p_not ?_ | with_reducible refine bh_t ?_ | with_reducible refine bh_f ?_ | with_reducible refine bh_nt ?_ | with_reducible refine bh_nf ?_ | ((with_reducible refine bh_r ?_); refine Exists.intro _ (And.intro rfl ?_)) | ((with_reducible refine ex_id ?_); first | refine Exists.intro _ (And.intro rfl ?_) | refine Exists.intro _ (Exists.intro _ (And.intro rfl ?_))) | ((with_reducible refine and_id ?_); refine And.intro rfl ?_)))
      exact ⟨.inl rfl, _, _, _, rfl, ni_some, ni_some, ni_some⟩
    · (repeat (first | with_reducible refine p_seq ?_ | with_reducible refine nx_nx ?_ | with_reducible refine nx_rt ?_ | with_reducible refine p_if ?_ | with_reducible refine p_asg ?_ | with_reducible refine p_par ?_ | with_reducible refine p_parN ?_ | with_reducible refine p_ret ?_ | with_reducible refine p_retN ?_ | with_reducible refine p_next ?_ | with_reducible refine p_brk ?_ | with_reducible refine p_cnt ?_ | with_reducible refine p_drop ?_ | with_reducible refine p_appE ?_ | with_reducible refine p_lenE ?_ | with_reducible refine p_setI ?_ | with_reducible refine p_dput ?_ | with_reducible refine p_for ?_ | with_reducible refine p_varE ?_ | with_reducible refine p_frzE ?_ | with_reducible refine p_movE ?_ | with_reducible refine p_c ?_ | with_reducible refine p_op ?_ | with_reducible refine p_un ?_ | with_reducible refine p_ar ?_ | with_reducible refine p_me ?_ | with_reducible refine p_ife ?_ | with_reducible refine p_nil ?_ | with_reducible refine p_cons ?_ | with_reducible refine p_call ?_ | with_reducible refine p_lc ?_ | with_reducible refine p_sl ?_ | with_reducible refine p_on ?_ | with_reducible refine p_os ?_ | with_reducible refine p_fis ?_ | with_reducible refine p_rng1 ?_ | with_reducible refine p_rng2 ?_ | with_reducible refine p_fia ?_ | with_reducible refine p_din ?_ | with_reducible refine p_newT ?_ | with_reducible refine p_newK ?_ | with_reducible refine p_test ?_ | with_reducible refine p_band ?_ | with_reducible refine p_bor ?_ | with_reducible refine p_bnot ?_ | with_reducible refine p_yes ?_ | with_reducible refine p_or ?_ | with_reducible refine p_and ?_ | with_reducible refine p_not ?_ | with_reducible refine bh_t ?_ | with_reducible refine bh_f ?_ | with_reducible refine bh_nt ?_ | with_reducible refine bh_nf ?_ | ((with_reducible refine bh_r ?_); refine Exists.intro _ (And.intro rfl ?_)) | ((with_reducible refine ex_id ?_); first | refine Exists.intro _ (And.intro rfl ?_) | refine Exists.intro _ (Exists.intro _ (And.intro rfl ?_))) | ((with_reducible refine and_id ?_); refine And.intro rfl ?_)))
      obtain ⟨hl, s, hs⟩ := told_pre ⟨by omega, hc⟩
      refine cp_told hl fun S1 => ?_
      (repeat (first | with_reducible refine ⟨_, hs, ?_⟩ | with_reducible refine p_seq ?_ | with_reducible refine nx_nx ?_ | with_reducible refine nx_rt ?_ | with_reducible refine p_if ?_ | with_reducible refine p_asg ?_ | with_reducible refine p_par ?_ | with_reducible refine p_parN ?_ | with_reducible refine p_ret ?_ | with_reducible refine p_retN ?_ | with_reducible refine p_next ?_ | with_reducible refine p_brk ?_ | with_reducible refine p_cnt ?_ | with_reducible refine p_drop ?_ | with_reducible refine p_appE ?_ | with_reducible refine p_lenE ?_ | with_reducible refine p_setI ?_ | with_reducible refine p_dput ?_ | with_reducible refine p_for ?_ | with_reducible refine p_varE ?_ | with_reducible refine p_frzE ?_ | with_reducible refine p_movE ?_ | with_reducible refine p_c ?_ | with_reducible refine p_op ?_ | with_reducible refine p_un ?_ | with_reducible refine p_ar ?_ | with_reducible refine p_me ?_ | with_reducible refine p_ife ?_ | with_reducible refine p_nil ?_ | with_reducible refine p_cons ?_ | with_reducible refine p_call ?_ | with_reducible refine p_lc ?_ | with_reducible refine p_sl ?_ | with_reducible refine p_on ?_ | with_reducible refine p_os ?_ | with_reducible refine p_fis ?_ | with_reducible refine p_rng1 ?_ | with_reducible refine p_rng2 ?_ | with_reducible refine p_fia ?_ | with_reducible refine p_din ?_ | with_reducible refine p_newT ?_ | with_reducible refine p_newK ?_ | with_reducible refine p_test ?_ | with_reducible refine p_band ?_ | with_reducible refine p_bor ?_ | with_reducible refine p_bnot ?_ | with_reducible refine p_yes ?_ | with_reducible refine p_or ?_ | with_reducible refine p_and ?_ | with_reducible refine p_not ?_ | with_reducible refine bh_t ?_ | with_reducible refine bh_f ?_ | with_reducible refine bh_nt ?_ | with_reducible refine bh_nf ?_ | ((with_reducible refine bh_r ?_); refine Exists.intro _ (And.intro rfl ?_)) | ((with_reducible refine ex_id ?_); first | refine Exists.intro _ (And.intro rfl ?_) | refine Exists.intro _ (Exists.intro _ (And.intro rfl ?_))) | ((with_reducible refine and_id ?_); refine And.intro rfl ?_)))
      refine cp_read hl fun S2 => ?_
      (repeat (first | with_reducible refine ⟨_, hs, ?_⟩ | with_reducible refine ⟨_, eq_same, ?_⟩ | with_reducible refine p_seq ?_ | with_reducible refine nx_nx ?_ | with_reducible refine nx_rt ?_ | with_reducible refine p_if ?_ | with_reducible refine p_asg ?_ | with_reducible refine p_par ?_ | with_reducible refine p_parN ?_ | with_reducible refine p_ret ?_ | with_reducible refine p_retN ?_ | with_reducible refine p_next ?_ | with_reducible refine p_brk ?_ | with_reducible refine p_cnt ?_ | with_reducible refine p_drop ?_ | with_reducible refine p_appE ?_ | with_reducible refine p_lenE ?_ | with_reducible refine p_setI ?_ | with_reducible refine p_dput ?_ | with_reducible refine p_for ?_ | with_reducible refine p_varE ?_ | with_reducible refine p_frzE ?_ | with_reducible refine p_movE ?_ | with_reducible refine p_c ?_ | with_reducible refine p_op ?_ | with_reducible refine p_un ?_ | with_reducible refine p_ar ?_ | with_reducible refine p_me ?_ | with_reducible refine p_ife ?_ | with_reducible refine p_nil ?_ | with_reducible refine p_cons ?_ | with_reducible refine p_call ?_ | with_reducible refine p_lc ?_ | with_reducible refine p_sl ?_ | with_reducible refine p_on ?_ | with_reducible refine p_os ?_ | with_reducible refine p_fis ?_ | with_reducible refine p_rng1 ?_ | with_reducible refine p_rng2 ?_ | with_reducible refine p_fia ?_ | with_reducible refine p_din ?_ | with_reducible refine p_newT ?_ | with_reducible refine p_newK ?_ | with_reducible refine p_test ?_ | with_reducible refine p_band ?_ | with_reducible refine p_bor ?_ | with_reducible refine p_bnot ?_ | with_reducible refine p_yes ?_ | with_reducible refine p_or ?_ | with_reducible refine p_and ?_ | with_reducible refine p_not ?_ | with_reducible refine bh_t ?_ | with_reducible refine bh_f ?_ | with_reducible refine bh_nt ?_ | with_reducible refine bh_nf ?_ | ((with_reducible refine bh_r ?_); refine Exists.intro _ (And.intro rfl ?_)) | ((with_reducible refine ex_id ?_); first | refine Exists.intro _ (And.intro rfl ?_) | refine Exists.intro _ (Exists.intro _ (And.intro rfl ?_))) | ((with_reducible refine and_id ?_); refine And.intro rfl ?_)))
      refine cp_eq rfl rfl names_ok fun S3 => ?_
      (repeat (first | with_reducible refine p_seq ?_ | with_reducible refine nx_nx ?_ | with_reducible refine nx_rt ?_ | with_reducible refine p_if ?_ | with_reducible refine p_asg ?_ | with_reducible refine p_par ?_ | with_reducible refine p_parN ?_ | with_reducible refine p_ret ?_ | with_reducible refine p_retN ?_ | with_reducible refine p_next ?_ | with_reducible refine p_brk ?_ | with_reducible refine p_cnt ?_ | with_reducible refine p_drop ?_ | with_reducible refine p_appE ?_ | with_reducible refine p_lenE ?_ | with_reducible refine p_setI ?_ | with_reducible refine p_dput ?_ | with_reducible refine p_for ?_ | with_reducible refine p_varE ?_ | with_reducible refine p_frzE ?_ | with_reducible refine p_movE ?_ | with_reducible refine p_c ?_ | with_reducible refine p_op ?_ | with_reducible refine p_un ?_ | with_reducible refine p_ar ?_ | with_reducible refine p_me ?_ | with_reducible refine p_ife ?_ | with_reducible refine p_nil ?_ | with_reducible refine p_cons ?_ | with_reducible refine p_call ?_ | with_reducible refine p_lc ?_ | with_reducible refine p_sl ?_ | with_reducible refine p_on ?_ | with_reducible refine p_os ?_ | with_reducible refine p_fis ?_ | with_reducible refine p_rng1 ?_ | with_reducible refine p_rng2 ?_ | with_reducible refine p_fia ?_ | with_reducible refine p_din ?_ | with_reducible refine p_newT ?_ | with_reducible refine p_newK ?_ | with_reducible refine p_test ?_ | with_reducible refine p_band ?_ | with_reducible refine p_bor ?_ | with_reducible refine p_bnot ?_ | with_reducible refine p_yes ?_ | with_reducible refine p_or ?_ | with_reducible refine p_and ?_ | with_reducible refine p_not ?_ | with_reducible refine bh_t ?_ | with_reducible refine bh_f ?_ | with_reducible refine bh_nt ?_ | with_reducible refine bh_nf ?_ | ((with_reducible refine bh_r ?_); refine Exists.intro _ (And.intro rfl ?_)) | ((with_reducible refine ex_id ?_); first | refine Exists.intro _ (And.intro rfl ?_) | refine Exists.intro _ (Exists.intro _ (And.intro rfl ?_))) | ((with_reducible refine and_id ?_); refine And.intro rfl ?_)))
      exact ⟨.inl rfl, _, _, _, rfl, ni_some, ni_some, .inl rfl⟩
def oths : List Str := ["b", "2", "of"]
theorem lx1 : ∀ o ∈ oths, (("a1" : Str) ++ ("\n" : Str) ++ o).length ≤ 512 ∧ lexA ("a1" ++ "\n" ++ o) ((("a1" : Str) ++ ("\n" : Str) ++ o).length + 1) 0 [] = .inl [tri "word" "a1" 0, tri "word" o 3] := by decide +kernel
theorem lx2 : ∀ o ∈ oths, (("a1" : Str) ++ ("-" : Str) ++ o).length ≤ 512 ∧ lexA ("a1" ++ "-" ++ o) ((("a1" : Str) ++ ("-" : Str) ++ o).length + 1) 0 [] = .inl [tri "word" "a1" 0, tri "sign" "-" 2, tri "word" o 3] := by decide +kernel
theorem lx3 : ∀ o ∈ oths, (("a1" : Str) ++ o).length ≤ 512 ∧ TxOk (("a1" : Str) ++ o) ∧ TxOk o ∧ lexA ("a1" ++ o) ((("a1" : Str) ++ o).length + 1) 0 [] = .inl [tri "word" ("a1" ++ o) 0] := by
  unfold TxOk
  decide +kernel
theorem repr_lexs {l : List (Str × Str × Nat)} (h : ∀ x ∈ l, LexOk x) (hl : l.length ≤ 512) : ∃ s, o1 reprB [.lst (l.map lexD)] = some (.imm (.str s)) := repr_told (r := .inl l) (n := 512) ⟨h, hl⟩ (Nat.le_refl _)
end Lw
set_option maxRecDepth 100000
set_option maxHeartbeats 1000000
namespace Lw
open PySem PySem.Spec PyProof.Rows L2 DL
theorem tx_lit {t : Str} (h : (decide (t.length ≤ 512) && t.cps.toList.all fun c => decide (c < 128)) = true) : TxOk t := by
  rw [Bool.and_eq_true, decide_eq_true_iff, List.all_eq_true] at h
  exact ⟨h.1, fun c hc => by simpa using h.2 c hc⟩
theorem eqF_same {x : Str} : eqB false (.imm (.str x)) (.imm (.str x)) = some (.imm (.bool true)) := by
  show some (Bd.imm (.bool (decide (x = x)))) = _
  rw [decide_eq_true rfl]
theorem a1_ok : TxOk "a1" := tx_lit (by decide +kernel)
theorem dash_ok : TxOk "-" := tx_lit (by decide +kernel)
theorem rp1 {o : Str} (ho : o ∈ oths) : ∃ s, o1 reprB [.lst ([tri "word" "a1" 0, tri "word" o 3].map lexD)] = some (.imm (.str s)) := repr_lexs (fun x hx => by
  simp only [List.mem_cons, List.not_mem_nil, or_false] at hx
  rcases hx with rfl | rfl
  · exact ⟨.inl rfl, a1_ok, by decide⟩
  · exact ⟨.inl rfl, (lx3 o ho).2.2.1, by show 3 ≤ 512; decide⟩) (by simp only [List.length_cons, List.length_nil]; omega)
theorem rp2 {o : Str} (ho : o ∈ oths) : ∃ s, o1 reprB [.lst ([tri "word" "a1" 0, tri "sign" "-" 2, tri "word" o 3].map lexD)] = some (.imm (.str s)) := repr_lexs (fun x hx => by
  simp only [List.mem_cons, List.not_mem_nil, or_false] at hx
  rcases hx with rfl | rfl | rfl
  · exact ⟨.inl rfl, a1_ok, by decide⟩
  · exact ⟨.inr rfl, dash_ok, by decide⟩
  · exact ⟨.inl rfl, (lx3 o ho).2.2.1, by show 3 ≤ 512; decide⟩) (by simp only [List.length_cons, List.length_nil]; omega)
theorem rp3 {o : Str} (ho : o ∈ oths) : ∃ s, o1 reprB [.lst ([tri "word" (("a1" : Str) ++ o) 0].map lexD)] = some (.imm (.str s)) := repr_lexs (fun x hx => by
  simp only [List.mem_cons, List.not_mem_nil, or_false] at hx
  subst hx
  exact ⟨.inl rfl, (lx3 o ho).2.1, by show 0 ≤ 512; decide⟩) (by simp only [List.length_cons, List.length_nil]; omega)
theorem rp4 : ∃ s, o1 reprB [.lst [.list [], .list [], .int 2, .int 0]] = some (.imm (.str s)) := by
  refine ⟨PyData.shown (.list [.list [], .list [], .int 2, .int 0]), ?_⟩
  have h : reprOk (.list [.list [], .list [], .int 2, .int 0]) = true := by decide +kernel
  show (if reprOk (.list [.list [], .list [], .int 2, .int 0]) = true then some (Bd.imm (.str (PyData.shown (.list [.list [], .list [], .int 2, .int 0])))) else none) = _
  rw [if_pos h]
theorem le0 : lexA "" ((("" : Str).length) + 1) 0 [] = .inl [] := by decide +kernel
theorem le1 : lexA " \n" (((" \n" : Str).length) + 1) 0 [] = .inl [] := by decide +kernel
theorem le2 : lexA "a;(" ((("a;(" : Str).length) + 1) 0 [] = .inr 2 := by decide +kernel
theorem le3 : lexA "(a" ((("(a" : Str).length) + 1) 0 [] = .inr 0 := by decide +kernel
def expsL : List PyData := [.list [], .list [], .int 2, .int 0]
theorem nbM {v2 v3 v4 : Option Bd} {a b : PyData} (h2 : NI v2) (h3 : NI v3) (h4 : NI v4) : nbE [none, some .src, v2, v3, v4, some (.imm a), some (.imm b)] = true := by
  rcases h2 with rfl | ⟨d2, rfl⟩ <;> rcases h3 with rfl | ⟨d3, rfl⟩ <;> rcases h4 with rfl | ⟨d4, rfl⟩ <;> rfl
theorem plain_law (S : Src) : ∃ ρ S', g_law (none :: some .src :: List.replicate 5 none) S = .ok (.rt (.imm (.bool true))) ρ S' := by
  suffices h : (g_law (none :: some .src :: List.replicate 5 none) S).Post fun fl ρ' S' => fl = .rt (.imm (.bool true)) by
    obtain ⟨fl, ρ', S', e, rfl⟩ := h.get
    exact ⟨_, _, e⟩
  unfold g_law
  (repeat (first | with_reducible refine p_seq ?_ | with_reducible refine nx_nx ?_ | with_reducible refine nx_rt ?_ | with_reducible refine p_if ?_ | with_reducible refine p_asg ?_ | with_reducible refine p_par ?_ | with_reducible refine p_parN ?_ | with_reducible refine p_ret ?_ | with_reducible refine p_retN ?_ | with_reducible refine p_next ?_ | with_reducible refine p_brk ?_ | with_reducible refine p_cnt ?_ | with_reducible refine p_drop ?_ | with_reducible refine p_appE ?_ | with_reducible refine p_lenE ?_ | with_reducible refine p_setI ?_ | with_reducible refine p_dput ?_ | with_reducible refine p_for ?_ | with_reducible refine p_varE ?_ | with_reducible refine p_frzE ?_ | with_reducible refine p_movE ?_ | with_reducible refine p_c ?_ | with_reducible refine p_op ?_ | with_reducible refine p_un ?_ | with_reducible refine p_ar ?_ | with_reducible refine p_me ?_ | with_reducible refine p_ife ?_ | with_reducible refine p_nil ?_ | with_reducible refine p_cons ?_ | with_reducible refine p_call ?_ | with_reducible refine p_lc ?_ | with_reducible refine p_sl ?_ | with_reducible refine p_on ?_ | with_reducible refine p_os ?_ | with_reducible refine p_fis ?_ | with_reducible refine p_rng1 ?_ | with_reducible refine p_rng2 ?_ | with_reducible refine p_fia ?_ | with_reducible refine p_din ?_ | with_reducible refine p_newT ?_ | with_reducible refine p_newK ?_ | with_reducible refine p_test ?_ | with_reducible refine p_band ?_ | with_reducible refine p_bor ?_ | with_reducible refine p_bnot ?_ | with_reducible refine p_yes ?_ | with_reducible refine p_or ?_ | with_reducible refine p_and ?_ | with_reducible refine p_not ?_ | with_reducible refine bh_t ?_ | with_reducible refine bh_f ?_ | with_reducible refine bh_nt ?_ | with_reducible refine bh_nf ?_ | ((with_reducible refine bh_r ?_); refine Exists.intro _ (And.intro rfl ?_)) | ((with_reducible refine ex_id ?_); first | refine Exists.intro _ (And.intro rfl ?_) | refine Exists.intro _ (Exists.intro _ (And.intro rfl ?_))) | ((with_reducible refine and_id ?_); refine And.intro rfl ?_)))
  refine ⟨by omega, rfl, ?_⟩
  refine p_forS (fun i ρ => LJ ρ) ⟨none, none, none, rfl, .inl rfl, .inl rfl, .inl rfl⟩ ?_ ?_
  · rintro i d ρ S hd ⟨v2, v3, v4, rfl, h2, h3, h4⟩
    obtain ⟨hi, rfl⟩ := rangeD_get hd
    exact ⟨_, rfl, lap_ok h3 h4⟩
  · rintro ρ S ⟨v2, v3, v4, rfl, h2, h3, h4⟩
    (repeat (first | with_reducible refine p_seq ?_ | with_reducible refine nx_nx ?_ | with_reducible refine nx_rt ?_ | with_reducible refine p_if ?_ | with_reducible refine p_asg ?_ | with_reducible refine p_par ?_ | with_reducible refine p_parN ?_ | with_reducible refine p_ret ?_ | with_reducible refine p_retN ?_ | with_reducible refine p_next ?_ | with_reducible refine p_brk ?_ | with_reducible refine p_cnt ?_ | with_reducible refine p_drop ?_ | with_reducible refine p_appE ?_ | with_reducible refine p_lenE ?_ | with_reducible refine p_setI ?_ | with_reducible refine p_dput ?_ | with_reducible refine p_for ?_ | with_reducible refine p_varE ?_ | with_reducible refine p_frzE ?_ | with_reducible refine p_movE ?_ | with_reducible refine p_c ?_ | with_reducible refine p_op ?_ | with_reducible refine p_un ?_ | with_reducible refine p_ar ?_ | with_reducible refine p_me ?_ | with_reducible refine p_ife ?_ | with_reducible refine p_nil ?_ | with_reducible refine p_cons ?_ | with_reducible refine p_call ?_ | with_reducible refine p_lc ?_ | with_reducible refine p_sl ?_ | with_reducible refine p_on ?_ | with_reducible refine p_os ?_ | with_reducible refine p_fis ?_ | with_reducible refine p_rng1 ?_ | with_reducible refine p_rng2 ?_ | with_reducible refine p_fia ?_ | with_reducible refine p_din ?_ | with_reducible refine p_newT ?_ | with_reducible refine p_newK ?_ | with_reducible refine p_test ?_ | with_reducible refine p_band ?_ | with_reducible refine p_bor ?_ | with_reducible refine p_bnot ?_ | with_reducible refine p_yes ?_ | with_reducible refine p_or ?_ | with_reducible refine p_and ?_ | with_reducible refine p_not ?_ | with_reducible refine bh_t ?_ | with_reducible refine bh_f ?_ | with_reducible refine bh_nt ?_ | with_reducible refine bh_nf ?_ | ((with_reducible refine bh_r ?_); refine Exists.intro _ (And.intro rfl ?_)) | ((with_reducible refine ex_id ?_); first | refine Exists.intro _ (And.intro rfl ?_) | refine Exists.intro _ (Exists.intro _ (And.intro rfl ?_))) | ((with_reducible refine and_id ?_); refine And.intro rfl ?_)))
    refine cp_ofS (xs := oths) rfl (.inr rfl) (fun h => nomatch h) (by decide) fun o S1 ho => ?_
    obtain ⟨l1, x1⟩ := lx1 o ho
    obtain ⟨l2, x2⟩ := lx2 o ho
    obtain ⟨l3, t3, to, x3⟩ := lx3 o ho
    obtain ⟨s1, r1⟩ := rp1 ho
    obtain ⟨s2, r2⟩ := rp2 ho
    obtain ⟨s3, r3⟩ := rp3 ho
    obtain ⟨s4, r4⟩ := rp4
    have ol := to.1
    have r1' : o1 reprB [.lst [.tuple [.str "word", .str "a1", .int 0], .tuple [.str "word", .str o, .int 3]]] = some (.imm (.str s1)) := r1
    have r2' : o1 reprB [.lst [.tuple [.str "word", .str "a1", .int 0], .tuple [.str "sign", .str "-", .int 2], .tuple [.str "word", .str o, .int 3]]] = some (.imm (.str s2)) := r2
    have r3' : o1 reprB [.lst [.tuple [.str "word", .str (("a1" : Str) ++ o), .int 0]]] = some (.imm (.str s3)) := r3
    have a1 : addB (.imm (.str "a1")) (.imm (.str "\n")) = some (.imm (.str (("a1" : Str) ++ ("\n" : Str)))) := add_st (by decide)
    have a2 : addB (.imm (.str (("a1" : Str) ++ ("\n" : Str)))) (.imm (.str o)) = some (.imm (.str (("a1" : Str) ++ ("\n" : Str) ++ o))) := add_st (by show 3 + o.length ≤ 1000000; omega)
    have a3 : addB (.imm (.str "a1")) (.imm (.str "-")) = some (.imm (.str (("a1" : Str) ++ ("-" : Str)))) := add_st (by decide)
    have a4 : addB (.imm (.str (("a1" : Str) ++ ("-" : Str)))) (.imm (.str o)) = some (.imm (.str (("a1" : Str) ++ ("-" : Str) ++ o))) := add_st (by show 3 + o.length ≤ 1000000; omega)
    have a5 : addB (.imm (.str "a1")) (.imm (.str o)) = some (.imm (.str (("a1" : Str) ++ o))) := add_st (by show 2 + o.length ≤ 1000000; omega)
    (repeat (first | with_reducible refine ⟨_, a1, ?_⟩ | with_reducible refine ⟨_, a2, ?_⟩ | with_reducible refine p_seq ?_ | with_reducible refine nx_nx ?_ | with_reducible refine nx_rt ?_ | with_reducible refine p_if ?_ | with_reducible refine p_asg ?_ | with_reducible refine p_par ?_ | with_reducible refine p_parN ?_ | with_reducible refine p_ret ?_ | with_reducible refine p_retN ?_ | with_reducible refine p_next ?_ | with_reducible refine p_brk ?_ | with_reducible refine p_cnt ?_ | with_reducible refine p_drop ?_ | with_reducible refine p_appE ?_ | with_reducible refine p_lenE ?_ | with_reducible refine p_setI ?_ | with_reducible refine p_dput ?_ | with_reducible refine p_for ?_ | with_reducible refine p_varE ?_ | with_reducible refine p_frzE ?_ | with_reducible refine p_movE ?_ | with_reducible refine p_c ?_ | with_reducible refine p_op ?_ | with_reducible refine p_un ?_ | with_reducible refine p_ar ?_ | with_reducible refine p_me ?_ | with_reducible refine p_ife ?_ | with_reducible refine p_nil ?_ | with_reducible refine p_cons ?_ | with_reducible refine p_call ?_ | with_reducible refine p_lc ?_ | with_reducible refine p_sl ?_ | with_reducible refine p_on ?_ | with_reducible refine p_os ?_ | with_reducible refine p_fis ?_ | with_reducible refine p_rng1 ?_ | with_reducible refine p_rng2 ?_ | with_reducible refine p_fia ?_ | with_reducible refine p_din ?_ | with_reducible refine p_newT ?_ | with_reducible refine p_newK ?_ | with_reducible refine p_test ?_ | with_reducible refine p_band ?_ | with_reducible refine p_bor ?_ | with_reducible refine p_bnot ?_ | with_reducible refine p_yes ?_ | with_reducible refine p_or ?_ | with_reducible refine p_and ?_ | with_reducible refine p_not ?_ | with_reducible refine bh_t ?_ | with_reducible refine bh_f ?_ | with_reducible refine bh_nt ?_ | with_reducible refine bh_nf ?_ | ((with_reducible refine bh_r ?_); refine Exists.intro _ (And.intro rfl ?_)) | ((with_reducible refine ex_id ?_); first | refine Exists.intro _ (And.intro rfl ?_) | refine Exists.intro _ (Exists.intro _ (And.intro rfl ?_))) | ((with_reducible refine and_id ?_); refine And.intro rfl ?_)))
    refine cp_lex (by omega) x1 fun S2 => ?_
    (repeat (first | with_reducible refine ⟨_, r1, ?_⟩ | with_reducible refine ⟨_, r1', ?_⟩ | with_reducible refine ⟨_, eq_same, ?_⟩ | with_reducible refine ⟨_, a3, ?_⟩ | with_reducible refine ⟨_, a4, ?_⟩ | with_reducible refine p_seq ?_ | with_reducible refine nx_nx ?_ | with_reducible refine nx_rt ?_ | with_reducible refine p_if ?_ | with_reducible refine p_asg ?_ | with_reducible refine p_par ?_ | with_reducible refine p_parN ?_ | with_reducible refine p_ret ?_ | with_reducible refine p_retN ?_ | with_reducible refine p_next ?_ | with_reducible refine p_brk ?_ | with_reducible refine p_cnt ?_ | with_reducible refine p_drop ?_ | with_reducible refine p_appE ?_ | with_reducible refine p_lenE ?_ | with_reducible refine p_setI ?_ | with_reducible refine p_dput ?_ | with_reducible refine p_for ?_ | with_reducible refine p_varE ?_ | with_reducible refine p_frzE ?_ | with_reducible refine p_movE ?_ | with_reducible refine p_c ?_ | with_reducible refine p_op ?_ | with_reducible refine p_un ?_ | with_reducible refine p_ar ?_ | with_reducible refine p_me ?_ | with_reducible refine p_ife ?_ | with_reducible refine p_nil ?_ | with_reducible refine p_cons ?_ | with_reducible refine p_call ?_ | with_reducible refine p_lc ?_ | with_reducible refine p_sl ?_ | with_reducible refine p_on ?_ | with_reducible refine p_os ?_ | with_reducible refine p_fis ?_ | with_reducible refine p_rng1 ?_ | with_reducible refine p_rng2 ?_ | with_reducible refine p_fia ?_ | with_reducible refine p_din ?_ | with_reducible refine p_newT ?_ | with_reducible refine p_newK ?_ | with_reducible refine p_test ?_ | with_reducible refine p_band ?_ | with_reducible refine p_bor ?_ | with_reducible refine p_bnot ?_ | with_reducible refine p_yes ?_ | with_reducible refine p_or ?_ | with_reducible refine p_and ?_ | with_reducible refine p_not ?_ | with_reducible refine bh_t ?_ | with_reducible refine bh_f ?_ | with_reducible refine bh_nt ?_ | with_reducible refine bh_nf ?_ | ((with_reducible refine bh_r ?_); refine Exists.intro _ (And.intro rfl ?_)) | ((with_reducible refine ex_id ?_); first | refine Exists.intro _ (And.intro rfl ?_) | refine Exists.intro _ (Exists.intro _ (And.intro rfl ?_))) | ((with_reducible refine and_id ?_); refine And.intro rfl ?_)))
    refine cp_lex (by omega) x2 fun S3 => ?_
    (repeat (first | with_reducible refine ⟨_, r2, ?_⟩ | with_reducible refine ⟨_, r2', ?_⟩ | with_reducible refine ⟨_, eq_same, ?_⟩ | with_reducible refine ⟨_, a5, ?_⟩ | with_reducible refine p_seq ?_ | with_reducible refine nx_nx ?_ | with_reducible refine nx_rt ?_ | with_reducible refine p_if ?_ | with_reducible refine p_asg ?_ | with_reducible refine p_par ?_ | with_reducible refine p_parN ?_ | with_reducible refine p_ret ?_ | with_reducible refine p_retN ?_ | with_reducible refine p_next ?_ | with_reducible refine p_brk ?_ | with_reducible refine p_cnt ?_ | with_reducible refine p_drop ?_ | with_reducible refine p_appE ?_ | with_reducible refine p_lenE ?_ | with_reducible refine p_setI ?_ | with_reducible refine p_dput ?_ | with_reducible refine p_for ?_ | with_reducible refine p_varE ?_ | with_reducible refine p_frzE ?_ | with_reducible refine p_movE ?_ | with_reducible refine p_c ?_ | with_reducible refine p_op ?_ | with_reducible refine p_un ?_ | with_reducible refine p_ar ?_ | with_reducible refine p_me ?_ | with_reducible refine p_ife ?_ | with_reducible refine p_nil ?_ | with_reducible refine p_cons ?_ | with_reducible refine p_call ?_ | with_reducible refine p_lc ?_ | with_reducible refine p_sl ?_ | with_reducible refine p_on ?_ | with_reducible refine p_os ?_ | with_reducible refine p_fis ?_ | with_reducible refine p_rng1 ?_ | with_reducible refine p_rng2 ?_ | with_reducible refine p_fia ?_ | with_reducible refine p_din ?_ | with_reducible refine p_newT ?_ | with_reducible refine p_newK ?_ | with_reducible refine p_test ?_ | with_reducible refine p_band ?_ | with_reducible refine p_bor ?_ | with_reducible refine p_bnot ?_ | with_reducible refine p_yes ?_ | with_reducible refine p_or ?_ | with_reducible refine p_and ?_ | with_reducible refine p_not ?_ | with_reducible refine bh_t ?_ | with_reducible refine bh_f ?_ | with_reducible refine bh_nt ?_ | with_reducible refine bh_nf ?_ | ((with_reducible refine bh_r ?_); refine Exists.intro _ (And.intro rfl ?_)) | ((with_reducible refine ex_id ?_); first | refine Exists.intro _ (And.intro rfl ?_) | refine Exists.intro _ (Exists.intro _ (And.intro rfl ?_))) | ((with_reducible refine and_id ?_); refine And.intro rfl ?_)))
    refine cp_lex (by omega) x3 fun S4 => ?_
    (repeat (first | with_reducible refine ⟨_, r3, ?_⟩ | with_reducible refine ⟨_, r3', ?_⟩ | with_reducible refine ⟨_, eq_same, ?_⟩ | with_reducible refine ⟨_, a5, ?_⟩ | with_reducible refine p_seq ?_ | with_reducible refine nx_nx ?_ | with_reducible refine nx_rt ?_ | with_reducible refine p_if ?_ | with_reducible refine p_asg ?_ | with_reducible refine p_par ?_ | with_reducible refine p_parN ?_ | with_reducible refine p_ret ?_ | with_reducible refine p_retN ?_ | with_reducible refine p_next ?_ | with_reducible refine p_brk ?_ | with_reducible refine p_cnt ?_ | with_reducible refine p_drop ?_ | with_reducible refine p_appE ?_ | with_reducible refine p_lenE ?_ | with_reducible refine p_setI ?_ | with_reducible refine p_dput ?_ | with_reducible refine p_for ?_ | with_reducible refine p_varE ?_ | with_reducible refine p_frzE ?_ | with_reducible refine p_movE ?_ | with_reducible refine p_c ?_ | with_reducible refine p_op ?_ | with_reducible refine p_un ?_ | with_reducible refine p_ar ?_ | with_reducible refine p_me ?_ | with_reducible refine p_ife ?_ | with_reducible refine p_nil ?_ | with_reducible refine p_cons ?_ | with_reducible refine p_call ?_ | with_reducible refine p_lc ?_ | with_reducible refine p_sl ?_ | with_reducible refine p_on ?_ | with_reducible refine p_os ?_ | with_reducible refine p_fis ?_ | with_reducible refine p_rng1 ?_ | with_reducible refine p_rng2 ?_ | with_reducible refine p_fia ?_ | with_reducible refine p_din ?_ | with_reducible refine p_newT ?_ | with_reducible refine p_newK ?_ | with_reducible refine p_test ?_ | with_reducible refine p_band ?_ | with_reducible refine p_bor ?_ | with_reducible refine p_bnot ?_ | with_reducible refine p_yes ?_ | with_reducible refine p_or ?_ | with_reducible refine p_and ?_ | with_reducible refine p_not ?_ | with_reducible refine bh_t ?_ | with_reducible refine bh_f ?_ | with_reducible refine bh_nt ?_ | with_reducible refine bh_nf ?_ | ((with_reducible refine bh_r ?_); refine Exists.intro _ (And.intro rfl ?_)) | ((with_reducible refine ex_id ?_); first | refine Exists.intro _ (And.intro rfl ?_) | refine Exists.intro _ (Exists.intro _ (And.intro rfl ?_))) | ((with_reducible refine and_id ?_); refine And.intro rfl ?_)))
    refine p_lcS (fun i acc ρ => ∃ v3, ρ = [none, some .src, v2, v3, v4, some (.imm (.str "a1")), some (.imm (.str o))] ∧ NI v3 ∧ acc = expsL.take i) ⟨v3, rfl, h3, rfl⟩ ?_ ?_
    · rintro i d acc ρ S hd ⟨v3, rfl, h3, rfl⟩
      rcases i with _ | _ | _ | _ | i
      · cases hd
        refine ⟨_, rfl, ?_⟩
        (repeat (first | with_reducible refine p_seq ?_ | with_reducible refine nx_nx ?_ | with_reducible refine nx_rt ?_ | with_reducible refine p_if ?_ | with_reducible refine p_asg ?_ | with_reducible refine p_par ?_ | with_reducible refine p_parN ?_ | with_reducible refine p_ret ?_ | with_reducible refine p_retN ?_ | with_reducible refine p_next ?_ | with_reducible refine p_brk ?_ | with_reducible refine p_cnt ?_ | with_reducible refine p_drop ?_ | with_reducible refine p_appE ?_ | with_reducible refine p_lenE ?_ | with_reducible refine p_setI ?_ | with_reducible refine p_dput ?_ | with_reducible refine p_for ?_ | with_reducible refine p_varE ?_ | with_reducible refine p_frzE ?_ | with_reducible refine p_movE ?_ | with_reducible refine p_c ?_ | with_reducible refine p_op ?_ | with_reducible refine p_un ?_ | with_reducible refine p_ar ?_ | with_reducible refine p_me ?_ | with_reducible refine p_ife ?_ | with_reducible refine p_nil ?_ | with_reducible refine p_cons ?_ | with_reducible refine p_call ?_ | with_reducible refine p_lc ?_ | with_reducible refine p_sl ?_ | with_reducible refine p_on ?_ | with_reducible refine p_os ?_ | with_reducible refine p_fis ?_ | with_reducible refine p_rng1 ?_ | with_reducible refine p_rng2 ?_ | with_reducible refine p_fia ?_ | with_reducible refine p_din ?_ | with_reducible refine p_newT ?_ | with_reducible refine p_newK ?_ | with_reducible refine p_test ?_ | with_reducible refine p_band ?_ | with_reducible refine p_bor ?_ | with_reducible refine p_bnot ?_ | with_reducible refine p_yes ?_ | with_reducible refine p_or ?_ | with_reducible refine p_and ?_ | with_reducible refine p_not ?_ | with_reducible refine bh_t ?_ | with_reducible refine bh_f ?_ | with_reducible refine bh_nt ?_ | with_reducible refine bh_nf ?_ | ((with_reducible refine bh_r ?_); refine Exists.intro _ (And.intro rfl ?_)) | ((with_reducible refine ex_id ?_); first | refine Exists.intro _ (And.intro rfl ?_) | refine Exists.intro _ (Exists.intro _ (And.intro rfl ?_))) | ((with_reducible refine and_id ?_); refine And.intro rfl ?_)))
        refine cp_told (by decide) fun S5 => ?_
        rw [le0]
        exact ⟨_, rfl, nbM h2 ni_some h4, by decide, _, rfl, ni_some, rfl⟩
      · cases hd
        refine ⟨_, rfl, ?_⟩
        (repeat (first | with_reducible refine p_seq ?_ | with_reducible refine nx_nx ?_ | with_reducible refine nx_rt ?_ | with_reducible refine p_if ?_ | with_reducible refine p_asg ?_ | with_reducible refine p_par ?_ | with_reducible refine p_parN ?_ | with_reducible refine p_ret ?_ | with_reducible refine p_retN ?_ | with_reducible refine p_next ?_ | with_reducible refine p_brk ?_ | with_reducible refine p_cnt ?_ | with_reducible refine p_drop ?_ | with_reducible refine p_appE ?_ | with_reducible refine p_lenE ?_ | with_reducible refine p_setI ?_ | with_reducible refine p_dput ?_ | with_reducible refine p_for ?_ | with_reducible refine p_varE ?_ | with_reducible refine p_frzE ?_ | with_reducible refine p_movE ?_ | with_reducible refine p_c ?_ | with_reducible refine p_op ?_ | with_reducible refine p_un ?_ | with_reducible refine p_ar ?_ | with_reducible refine p_me ?_ | with_reducible refine p_ife ?_ | with_reducible refine p_nil ?_ | with_reducible refine p_cons ?_ | with_reducible refine p_call ?_ | with_reducible refine p_lc ?_ | with_reducible refine p_sl ?_ | with_reducible refine p_on ?_ | with_reducible refine p_os ?_ | with_reducible refine p_fis ?_ | with_reducible refine p_rng1 ?_ | with_reducible refine p_rng2 ?_ | with_reducible refine p_fia ?_ | with_reducible refine p_din ?_ | with_reducible refine p_newT ?_ | with_reducible refine p_newK ?_ | with_reducible refine p_test ?_ | with_reducible refine p_band ?_ | with_reducible refine p_bor ?_ | with_reducible refine p_bnot ?_ | with_reducible refine p_yes ?_ | with_reducible refine p_or ?_ | with_reducible refine p_and ?_ | with_reducible refine p_not ?_ | with_reducible refine bh_t ?_ | with_reducible refine bh_f ?_ | with_reducible refine bh_nt ?_ | with_reducible refine bh_nf ?_ | ((with_reducible refine bh_r ?_); refine Exists.intro _ (And.intro rfl ?_)) | ((with_reducible refine ex_id ?_); first | refine Exists.intro _ (And.intro rfl ?_) | refine Exists.intro _ (Exists.intro _ (And.intro rfl ?_))) | ((with_reducible refine and_id ?_); refine And.intro rfl ?_)))
        refine cp_told (by decide) fun S5 => ?_
        rw [le1]
        exact ⟨_, rfl, nbM h2 ni_some h4, by decide, _, rfl, ni_some, rfl⟩
      · cases hd
        refine ⟨_, rfl, ?_⟩
        (repeat (first | with_reducible refine p_seq ?_ | with_reducible refine nx_nx ?_ | with_reducible refine nx_rt ?_ | with_reducible refine p_if ?_ | with_reducible refine p_asg ?_ | with_reducible refine p_par ?_ | with_reducible refine p_parN ?_ | with_reducible refine p_ret ?_ | with_reducible refine p_retN ?_ | with_reducible refine p_next ?_ | with_reducible refine p_brk ?_ | with_reducible refine p_cnt ?_ | with_reducible refine p_drop ?_ | with_reducible refine p_appE ?_ | with_reducible refine p_lenE ?_ | with_reducible refine p_setI ?_ | with_reducible refine p_dput ?_ | with_reducible refine p_for ?_ | with_reducible refine p_varE ?_ | with_reducible refine p_frzE ?_ | with_reducible refine p_movE ?_ | with_reducible refine p_c ?_ | with_reducible refine p_op ?_ | with_reducible refine p_un ?_ | with_reducible refine p_ar ?_ | with_reducible refine p_me ?_ | with_reducible refine p_ife ?_ | with_reducible refine p_nil ?_ | with_reducible refine p_cons ?_ | with_reducible refine p_call ?_ | with_reducible refine p_lc ?_ | with_reducible refine p_sl ?_ | with_reducible refine p_on ?_ | with_reducible refine p_os ?_ | with_reducible refine p_fis ?_ | with_reducible refine p_rng1 ?_ | with_reducible refine p_rng2 ?_ | with_reducible refine p_fia ?_ | with_reducible refine p_din ?_ | with_reducible refine p_newT ?_ | with_reducible refine p_newK ?_ | with_reducible refine p_test ?_ | with_reducible refine p_band ?_ | with_reducible refine p_bor ?_ | with_reducible refine p_bnot ?_ | with_reducible refine p_yes ?_ | with_reducible refine p_or ?_ | with_reducible refine p_and ?_ | with_reducible refine p_not ?_ | with_reducible refine bh_t ?_ | with_reducible refine bh_f ?_ | with_reducible refine bh_nt ?_ | with_reducible refine bh_nf ?_ | ((with_reducible refine bh_r ?_); refine Exists.intro _ (And.intro rfl ?_)) | ((with_reducible refine ex_id ?_); first | refine Exists.intro _ (And.intro rfl ?_) | refine Exists.intro _ (Exists.intro _ (And.intro rfl ?_))) | ((with_reducible refine and_id ?_); refine And.intro rfl ?_)))
        refine cp_told (by decide) fun S5 => ?_
        rw [le2]
        exact ⟨_, rfl, nbM h2 ni_some h4, by decide, _, rfl, ni_some, rfl⟩
      · cases hd
        refine ⟨_, rfl, ?_⟩
        (repeat (first | with_reducible refine p_seq ?_ | with_reducible refine nx_nx ?_ | with_reducible refine nx_rt ?_ | with_reducible refine p_if ?_ | with_reducible refine p_asg ?_ | with_reducible refine p_par ?_ | with_reducible refine p_parN ?_ | with_reducible refine p_ret ?_ | with_reducible refine p_retN ?_ | with_reducible refine p_next ?_ | with_reducible refine p_brk ?_ | with_reducible refine p_cnt ?_ | with_reducible refine p_drop ?_ | with_reducible refine p_appE ?_ | with_reducible refine p_lenE ?_ | with_reducible refine p_setI ?_ | with_reducible refine p_dput ?_ | with_reducible refine p_for ?_ | with_reducible refine p_varE ?_ | with_reducible refine p_frzE ?_ | with_reducible refine p_movE ?_ | with_reducible refine p_c ?_ | with_reducible refine p_op ?_ | with_reducible refine p_un ?_ | with_reducible refine p_ar ?_ | with_reducible refine p_me ?_ | with_reducible refine p_ife ?_ | with_reducible refine p_nil ?_ | with_reducible refine p_cons ?_ | with_reducible refine p_call ?_ | with_reducible refine p_lc ?_ | with_reducible refine p_sl ?_ | with_reducible refine p_on ?_ | with_reducible refine p_os ?_ | with_reducible refine p_fis ?_ | with_reducible refine p_rng1 ?_ | with_reducible refine p_rng2 ?_ | with_reducible refine p_fia ?_ | with_reducible refine p_din ?_ | with_reducible refine p_newT ?_ | with_reducible refine p_newK ?_ | with_reducible refine p_test ?_ | with_reducible refine p_band ?_ | with_reducible refine p_bor ?_ | with_reducible refine p_bnot ?_ | with_reducible refine p_yes ?_ | with_reducible refine p_or ?_ | with_reducible refine p_and ?_ | with_reducible refine p_not ?_ | with_reducible refine bh_t ?_ | with_reducible refine bh_f ?_ | with_reducible refine bh_nt ?_ | with_reducible refine bh_nf ?_ | ((with_reducible refine bh_r ?_); refine Exists.intro _ (And.intro rfl ?_)) | ((with_reducible refine ex_id ?_); first | refine Exists.intro _ (And.intro rfl ?_) | refine Exists.intro _ (Exists.intro _ (And.intro rfl ?_))) | ((with_reducible refine and_id ?_); refine And.intro rfl ?_)))
        refine cp_told (by decide) fun S5 => ?_
        rw [le3]
        exact ⟨_, rfl, nbM h2 ni_some h4, by decide, _, rfl, ni_some, rfl⟩
      · cases hd
    · rintro acc ρ S ⟨v3, rfl, h3, ha⟩
      have ha : acc = [.list [], .list [], .int 2, .int 0] := ha
      subst ha
      (repeat (first | with_reducible refine ⟨_, r4, ?_⟩ | with_reducible refine ⟨_, eqF_same, ?_⟩ | with_reducible refine p_seq ?_ | with_reducible refine nx_nx ?_ | with_reducible refine nx_rt ?_ | with_reducible refine p_if ?_ | with_reducible refine p_asg ?_ | with_reducible refine p_par ?_ | with_reducible refine p_parN ?_ | with_reducible refine p_ret ?_ | with_reducible refine p_retN ?_ | with_reducible refine p_next ?_ | with_reducible refine p_brk ?_ | with_reducible refine p_cnt ?_ | with_reducible refine p_drop ?_ | with_reducible refine p_appE ?_ | with_reducible refine p_lenE ?_ | with_reducible refine p_setI ?_ | with_reducible refine p_dput ?_ | with_reducible refine p_for ?_ | with_reducible refine p_varE ?_ | with_reducible refine p_frzE ?_ | with_reducible refine p_movE ?_ | with_reducible refine p_c ?_ | with_reducible refine p_op ?_ | with_reducible refine p_un ?_ | with_reducible refine p_ar ?_ | with_reducible refine p_me ?_ | with_reducible refine p_ife ?_ | with_reducible refine p_nil ?_ | with_reducible refine p_cons ?_ | with_reducible refine p_call ?_ | with_reducible refine p_lc ?_ | with_reducible refine p_sl ?_ | with_reducible refine p_on ?_ | with_reducible refine p_os ?_ | with_reducible refine p_fis ?_ | with_reducible refine p_rng1 ?_ | with_reducible refine p_rng2 ?_ | with_reducible refine p_fia ?_ | with_reducible refine p_din ?_ | with_reducible refine p_newT ?_ | with_reducible refine p_newK ?_ | with_reducible refine p_test ?_ | with_reducible refine p_band ?_ | with_reducible refine p_bor ?_ | with_reducible refine p_bnot ?_ | with_reducible refine p_yes ?_ | with_reducible refine p_or ?_ | with_reducible refine p_and ?_ | with_reducible refine p_not ?_ | with_reducible refine bh_t ?_ | with_reducible refine bh_f ?_ | with_reducible refine bh_nt ?_ | with_reducible refine bh_nf ?_ | ((with_reducible refine bh_r ?_); refine Exists.intro _ (And.intro rfl ?_)) | ((with_reducible refine ex_id ?_); first | refine Exists.intro _ (And.intro rfl ?_) | refine Exists.intro _ (Exists.intro _ (And.intro rfl ?_))) | ((with_reducible refine and_id ?_); refine And.intro rfl ?_)))
      rfl
end Lw
set_option maxRecDepth 100000
set_option maxHeartbeats 4000000
namespace Lw
open PySem PySem.Spec PyProof.Rows L2 DL
theorem all_mk {l : PySem.W.OpenLaw} {w : World} {K : PySem.W.Frag} {h : Heap} {mg : Str → Option Value} {fa f0 f1 f2 f3 f4 f5 f6 f7 f8 f9 f10 f11 f12 f13 : Addr} (X : K.In h) (G : h.Ns mainGlobals mg) (hfa : mg "law" = some (.ref fa))
    {od0 an0 od1 an1 od2 an2 od3 an3 od4 an4 od5 an5 od6 an6 od7 an7 od8 an8 od9 an9 od10 an10 od11 an11 od12 an12 od13 an13 : Option Addr} {sl0 sl1 sl2 sl3 sl4 sl5 sl6 sl7 sl8 sl9 sl10 sl11 sl12 sl13 : Array (Option Value)} {oc0 kV0 dc0 pm0 cd0 ct0 oc1 kV1 dc1 pm1 cd1 ct1 oc2 kV2 dc2 pm2 cd2 ct2 oc3 kV3 dc3 pm3 cd3 ct3 oc4 kV4 dc4 pm4 cd4 ct4 oc5 kV5 dc5 pm5 cd5 ct5 oc6 kV6 dc6 pm6 cd6 ct6 oc7 kV7 dc7 pm7 cd7 ct7 oc8 kV8 dc8 pm8 cd8 ct8 oc9 kV9 dc9 pm9 cd9 ct9 oc10 kV10 dc10 pm10 cd10 ct10 oc11 kV11 dc11 pm11 cd11 ct11 oc12 kV12 dc12 pm12 cd12 ct12 oc13 kV13 dc13 pm13 cd13 ct13 : Value}
    {tk0 tk1 tk2 tk3 tk4 : Tok}
    {ta0 : Addr} {tod0 : Option Addr} {its0 : Array Value} {tn0 : Nat} {tsl0 : Array (Option Value)}
    {eAC eAcc eAcda eAfI eANn eAB eANB : Addr} {nmB qB : Str} {bsB bmB : List Value} {hdB : Bool} {snB : List Str} {subB : List Value} {abB : Bool} {colB : Option Bool} {ddB : Option Addr} {n0 n1 n2 n3 n5 : Option Value} {nwB : String} {nm qq : Str} {bs bm : List Value} {sn : List Str} {sub : List Value} {ab : Bool} {col : Option Bool} {dd : Option Addr} {m0 m1 m2 m3 m5 : Option Value} {ocI dcI pmI ctI : Value} {odI anI : Option Addr} {slI : Array (Option Value)} {ccl cl : Value} {cdd cld : Option Addr} {vs : Array Value} {ccs csl : Array (Option Value)} {fl : Str} {tf : Tok}
    (a0 : PySem.W.nsIn K mainGlobals "_law_source" = some (some (.ref f0))) (l0 : K.lookup f0 = some ⟨oc0, od0, .func (PySem.W.fnOf "_law_source" "_law_source" (defArgs s__law_source) (defBody s__law_source) (defScope s__law_source) .none kV0 dc0 pm0 an0 cd0 ct0), sl0⟩) (c0 : PySem.W.codeIn K cd0 "_law_source" = true) (k0 : PySem.W.keepIn K (.ref f0) = true)
    (a1 : PySem.W.nsIn K mainGlobals "_law_pick" = some (some (.ref f1))) (l1 : K.lookup f1 = some ⟨oc1, od1, .func (PySem.W.fnOf "_law_pick" "_law_pick" (defArgs s__law_pick) (defBody s__law_pick) (defScope s__law_pick) .none kV1 dc1 pm1 an1 cd1 ct1), sl1⟩) (c1 : PySem.W.codeIn K cd1 "_law_pick" = true) (k1 : PySem.W.keepIn K (.ref f1) = true)
    (a2 : PySem.W.nsIn K mainGlobals "_law_of" = some (some (.ref f2))) (l2 : K.lookup f2 = some ⟨oc2, od2, .func (PySem.W.fnOf "_law_of" "_law_of" (defArgs s__law_of) (defBody s__law_of) (defScope s__law_of) .none kV2 dc2 pm2 an2 cd2 ct2), sl2⟩) (c2 : PySem.W.codeIn K cd2 "_law_of" = true) (k2 : PySem.W.keepIn K (.ref f2) = true)
    (a3 : PySem.W.nsIn K mainGlobals "run_behind" = some (some (.ref f3))) (l3 : K.lookup f3 = some ⟨oc3, od3, .func (PySem.W.fnOf "run_behind" "run_behind" (defArgs s_run_behind) (defBody s_run_behind) (defScope s_run_behind) .none kV3 dc3 pm3 an3 cd3 ct3), sl3⟩) (c3 : PySem.W.codeIn K cd3 "run_behind" = true) (k3 : PySem.W.keepIn K (.ref f3) = true)
    (a4 : PySem.W.nsIn K mainGlobals "lexeme_from" = some (some (.ref f4))) (l4 : K.lookup f4 = some ⟨oc4, od4, .func (PySem.W.fnOf "lexeme_from" "lexeme_from" (defArgs s_lexeme_from) (defBody s_lexeme_from) (defScope s_lexeme_from) .none kV4 dc4 pm4 an4 cd4 ct4), sl4⟩) (c4 : PySem.W.codeIn K cd4 "lexeme_from" = true) (k4 : PySem.W.keepIn K (.ref f4) = true)
    (a5 : PySem.W.nsIn K mainGlobals "lexemes" = some (some (.ref f5))) (l5 : K.lookup f5 = some ⟨oc5, od5, .func (PySem.W.fnOf "lexemes" "lexemes" (defArgs s_lexemes) (defBody s_lexemes) (defScope s_lexemes) .none kV5 dc5 pm5 an5 cd5 ct5), sl5⟩) (c5 : PySem.W.codeIn K cd5 "lexemes" = true) (k5 : PySem.W.keepIn K (.ref f5) = true)
    (a6 : PySem.W.nsIn K mainGlobals "_law_piece" = some (some (.ref f6))) (l6 : K.lookup f6 = some ⟨oc6, od6, .func (PySem.W.fnOf "_law_piece" "_law_piece" (defArgs s__law_piece) (defBody s__law_piece) (defScope s__law_piece) .none kV6 dc6 pm6 an6 cd6 ct6), sl6⟩) (c6 : PySem.W.codeIn K cd6 "_law_piece" = true) (k6 : PySem.W.keepIn K (.ref f6) = true)
    (a7 : PySem.W.nsIn K mainGlobals "is_name" = some (some (.ref f7))) (l7 : K.lookup f7 = some ⟨oc7, od7, .func (PySem.W.fnOf "is_name" "is_name" (defArgs s_is_name) (defBody s_is_name) (defScope s_is_name) .none kV7 dc7 pm7 an7 cd7 ct7), sl7⟩) (c7 : PySem.W.codeIn K cd7 "is_name" = true) (k7 : PySem.W.keepIn K (.ref f7) = true)
    (a8 : PySem.W.nsIn K mainGlobals "_law_kept" = some (some (.ref f8))) (l8 : K.lookup f8 = some ⟨oc8, od8, .func (PySem.W.fnOf "_law_kept" "_law_kept" (defArgs s__law_kept) (defBody s__law_kept) (defScope s__law_kept) .none kV8 dc8 pm8 an8 cd8 ct8), sl8⟩) (c8 : PySem.W.codeIn K cd8 "_law_kept" = true) (k8 : PySem.W.keepIn K (.ref f8) = true)
    (a9 : PySem.W.nsIn K mainGlobals "_law_names_right" = some (some (.ref f9))) (l9 : K.lookup f9 = some ⟨oc9, od9, .func (PySem.W.fnOf "_law_names_right" "_law_names_right" (defArgs s__law_names_right) (defBody s__law_names_right) (defScope s__law_names_right) .none kV9 dc9 pm9 an9 cd9 ct9), sl9⟩) (c9 : PySem.W.codeIn K cd9 "_law_names_right" = true) (k9 : PySem.W.keepIn K (.ref f9) = true)
    (a10 : PySem.W.nsIn K mainGlobals "_law_told" = some (some (.ref f10))) (l10 : K.lookup f10 = some ⟨oc10, od10, .func (PySem.W.fnOf "_law_told" "_law_told" (defArgs s__law_told) (defBody s__law_told) (defScope s__law_told) .none kV10 dc10 pm10 an10 cd10 ct10), sl10⟩) (c10 : PySem.W.codeIn K cd10 "_law_told" = true) (k10 : PySem.W.keepIn K (.ref f10) = true)
    (a11 : PySem.W.nsIn K mainGlobals "_law_odd" = some (some (.ref f11))) (l11 : K.lookup f11 = some ⟨oc11, od11, .func (PySem.W.fnOf "_law_odd" "_law_odd" (defArgs s__law_odd) (defBody s__law_odd) (defScope s__law_odd) .none kV11 dc11 pm11 an11 cd11 ct11), sl11⟩) (c11 : PySem.W.codeIn K cd11 "_law_odd" = true) (k11 : PySem.W.keepIn K (.ref f11) = true)
    (a12 : PySem.W.nsIn K mainGlobals "_law_read" = some (some (.ref f12))) (l12 : K.lookup f12 = some ⟨oc12, od12, .func (PySem.W.fnOf "_law_read" "_law_read" (defArgs s__law_read) (defBody s__law_read) (defScope s__law_read) .none kV12 dc12 pm12 an12 cd12 ct12), sl12⟩) (c12 : PySem.W.codeIn K cd12 "_law_read" = true) (k12 : PySem.W.keepIn K (.ref f12) = true)
    (a13 : PySem.W.nsIn K mainGlobals "law" = some (some (.ref f13))) (l13 : K.lookup f13 = some ⟨oc13, od13, .func (PySem.W.fnOf "law" "law" (defArgs s_law) (defBody s_law) (defScope s_law) .none kV13 dc13 pm13 an13 cd13 ct13), sl13⟩) (c13 : PySem.W.codeIn K cd13 "law" = true) (k13 : PySem.W.keepIn K (.ref f13) = true)
    (z0 : PySem.W.nsIn K mainGlobals "abs" = some none)
    (z1 : PySem.W.nsIn K mainGlobals "all" = some none)
    (z2 : PySem.W.nsIn K mainGlobals "enumerate" = some none)
    (z3 : PySem.W.nsIn K mainGlobals "int" = some none)
    (z4 : PySem.W.nsIn K mainGlobals "isinstance" = some none)
    (z5 : PySem.W.nsIn K mainGlobals "len" = some none)
    (z6 : PySem.W.nsIn K mainGlobals "max" = some none)
    (z7 : PySem.W.nsIn K mainGlobals "range" = some none)
    (z8 : PySem.W.nsIn K mainGlobals "repr" = some none)
    (z9 : PySem.W.nsIn K mainGlobals "str" = some none)
    (uc0 : PySem.W.nsIn K mainGlobals "BLANKS" = some (some (.str " \n" tk0)))
    (uc1 : PySem.W.nsIn K mainGlobals "FIGURES" = some (some (.str "0123456789" tk1)))
    (uc2 : PySem.W.nsIn K mainGlobals "MOST_LETTERS" = some (some (.int 12 tk2)))
    (uc3 : PySem.W.nsIn K mainGlobals "SIGNS" = some (some (.str ",:;-" tk3)))
    (uc4 : PySem.W.nsIn K mainGlobals "SMALL" = some (some (.str "abcdefghijklmnopqrstuvwxyz" tk4)))
    (ut0 : PySem.W.nsIn K mainGlobals "KEPT" = some (some (.ref ta0))) (wl0 : K.lookup ta0 = some ⟨.type "tuple", tod0, .seq its0 tn0, tsl0⟩) (wv0 : strsV its0.toList = some c_KEPT)
    (eC : PySem.W.nsIn K mainGlobals "BadText" = some (some (.ref eAC)))
    (eL : K.lookup eAC = some (excClassObj nm qq eAC eANn bs bm true sn sub ab col dd m0 m1 m2 m3 m5 "ValueError.__new__"))
    (eV : PySem.HandSPX.refsVE bm = true)
    (eSa : PySem.W.findIn K (.ref eAC) "__setattr__" = some (some (.builtin "object.__setattr__")))
    (eGa : PySem.W.findIn K (.ref eAC) "__getattribute__" = some (some (.builtin "BaseException.__getattribute__")))
    (eGg : PySem.W.findIn K (.ref eAC) "__getattr__" = some none)
    (eNo : PySem.W.findIn K (.ref eAC) "place" = some none)
    (eI : PySem.W.findIn K (.ref eAC) "__init__" = some (some (.ref eAfI)))
    (eT : PySem.W.typeIn K (.ref eAfI) = some (.type "function"))
    (eF : K.lookup eAfI = some ⟨ocI, odI, .func (PySem.W.fnX "__init__" "BadText.__init__" (defArgs (iniSt (topS 2))) (defBody (iniSt (topS 2))) (defScope (iniSt (topS 2))) [(("__class__" : Str), eAcc)] .none .none dcI pmI anI (.ref eAcda) ctI), slI⟩)
    (eCd : PySem.W.codeIn K (.ref eAcda) "BadText.__init__" = true)
    (eK : K.lookup eAcda = some ⟨ccl, cdd, .fields vs, ccs⟩)
    (eVs : vs[2]? = some (.str fl tf))
    (eFl : ((l.prog.main.file : Str) == fl) = true)
    (eTop : (l.prog.main.scope.names.lookup ("super" : Str)).isSome = false)
    (eCell : K.lookup eAcc = some ⟨cl, cld, .cell (some (.ref eAC)), csl⟩)
    (eMro : PySem.W.mroIn K eAC (.ref eAC) = some true)
    (eOpq : PySem.W.nsIn K cStatics "thirdparty.any" = some none)
    (eBm : bm = .ref eAB :: bmB)
    (eLB : K.lookup eAB = some (excClassObj nmB qB eAB eANB bsB bmB hdB snB subB abB colB ddB n0 n1 n2 n3 n5 nwB))
    (eBi : PySem.W.findIn K (.ref eAB) "__init__" = some (some (.builtin "ValueError.__init__")))
    (eSv : PySem.W.subIn K (.ref eAC) (.type "ValueError") = some true)
    (eSup : PySem.W.nsIn K mainGlobals "super" = some none)
    (eKp : PySem.W.keepIn K (.ref eAC) = true)
    (eBe : PySem.W.subIn K (.ref eAC) (.type "BaseException") = some true)
    (eTy : PySem.W.typeIn K (.ref eAC) = some (.type "type"))
    (eHd : PySem.W.hasDictIn K eAC = true)
    (eCl : PySem.W.isClsIn K eAC = true)
    (eSs : PySem.W.subIn K (.ref eAC) (.ref eAC) = some true)
    : ∃ fd : FuncData, (∀ (s : Shared) (v : Value), BindsTo s fd ⟨[v], []⟩ [("script", v)]) ∧ ∀ base : Heap, K.In base → base.Ns mainGlobals mg → FnG l.prog w K mg base 5 fa fd ["script"] (spLaw K) := by
  have e := hfa.symm.trans (PySem.W.mg_of X G a13)
  cases e
  have F0 := fun_mk (st := s__law_source) l0 c0 k0
  have b0 := F0.binds (ps := ["script"]) fun _ _ _ _ _ _ us hl => match us, hl with | [_], _ => rfl
  have F1 := fun_mk (st := s__law_pick) l1 c1 k1
  have b1 := F1.binds (ps := ["source", "many"]) fun _ _ _ _ _ _ us hl => match us, hl with | [_, _], _ => rfl
  have F2 := fun_mk (st := s__law_of) l2 c2 k2
  have b2 := F2.binds (ps := ["source", "some"]) fun _ _ _ _ _ _ us hl => match us, hl with | [_, _], _ => rfl
  have F3 := fun_mk (st := s_run_behind) l3 c3 k3
  have b3 := F3.binds (ps := ["text", "place", "signs"]) fun _ _ _ _ _ _ us hl => match us, hl with | [_, _, _], _ => rfl
  have F4 := fun_mk (st := s_lexeme_from) l4 c4 k4
  have b4 := F4.binds (ps := ["text", "place"]) fun _ _ _ _ _ _ us hl => match us, hl with | [_, _], _ => rfl
  have F5 := fun_mk (st := s_lexemes) l5 c5 k5
  have b5 := F5.binds (ps := ["text"]) fun _ _ _ _ _ _ us hl => match us, hl with | [_], _ => rfl
  have F6 := fun_mk (st := s__law_piece) l6 c6 k6
  have b6 := F6.binds (ps := ["source"]) fun _ _ _ _ _ _ us hl => match us, hl with | [_], _ => rfl
  have F7 := fun_mk (st := s_is_name) l7 c7 k7
  have b7 := F7.binds (ps := ["value"]) fun _ _ _ _ _ _ us hl => match us, hl with | [_], _ => rfl
  have F8 := fun_mk (st := s__law_kept) l8 c8 k8
  have b8 := F8.binds (ps := []) fun _ _ _ _ _ _ us hl => match us, hl with | [], _ => rfl
  have F9 := fun_mk (st := s__law_names_right) l9 c9 k9
  have b9 := F9.binds (ps := ["source"]) fun _ _ _ _ _ _ us hl => match us, hl with | [_], _ => rfl
  have F10 := fun_mk (st := s__law_told) l10 c10 k10
  have b10 := F10.binds (ps := ["text"]) fun _ _ _ _ _ _ us hl => match us, hl with | [_], _ => rfl
  have F11 := fun_mk (st := s__law_odd) l11 c11 k11
  have b11 := F11.binds (ps := ["source"]) fun _ _ _ _ _ _ us hl => match us, hl with | [_], _ => rfl
  have F12 := fun_mk (st := s__law_read) l12 c12 k12
  have b12 := F12.binds (ps := ["text"]) fun _ _ _ _ _ _ us hl => match us, hl with | [_], _ => rfl
  have F13 := fun_mk (st := s_law) l13 c13 k13
  have b13 := F13.binds (ps := ["script"]) fun _ _ _ _ _ _ us hl => match us, hl with | [_], _ => rfl
  have err := err_mk (P := l.prog) (c := topS 2) (pI := ⟨⟨6, 17, 6, 21⟩, ⟨6, 23, 6, 28⟩, ⟨7, 8, 7, 13⟩, ⟨7, 8, 7, 15⟩, ⟨7, 8, 7, 24⟩, ⟨7, 25, 7, 30⟩, ⟨7, 8, 7, 31⟩, ⟨7, 8, 7, 31⟩, ⟨8, 8, 8, 12⟩, ⟨8, 8, 8, 18⟩, ⟨8, 21, 8, 26⟩, ⟨8, 8, 8, 26⟩⟩) X G eC eL eV eSa eGa eGg eNo eI eT eF eCd eK eVs eFl eTop eCell eMro eOpq (nxt_of eL eLB eBm eBi) eSv eSup eKp eBe eTy eHd eCl eSs rfl rfl (NdefX.nscope_by (by decide +kernel)) (by decide +kernel) (by decide +kernel) (by decide +kernel) (by decide +kernel) (fun L => rfl)
  let t : TD := ⟨ta0, eAC, eAfI, (PySem.W.fnX "__init__" "BadText.__init__" (defArgs (iniSt (topS 2))) (defBody (iniSt (topS 2))) (defScope (iniSt (topS 2))) [(("__class__" : Str), eAcc)] .none .none dcI pmI anI (.ref eAcda) ctI), f0, (PySem.W.fnOf "_law_source" "_law_source" (defArgs s__law_source) (defBody s__law_source) (defScope s__law_source) .none kV0 dc0 pm0 an0 cd0 ct0), f1, (PySem.W.fnOf "_law_pick" "_law_pick" (defArgs s__law_pick) (defBody s__law_pick) (defScope s__law_pick) .none kV1 dc1 pm1 an1 cd1 ct1), f2, (PySem.W.fnOf "_law_of" "_law_of" (defArgs s__law_of) (defBody s__law_of) (defScope s__law_of) .none kV2 dc2 pm2 an2 cd2 ct2), f3, (PySem.W.fnOf "run_behind" "run_behind" (defArgs s_run_behind) (defBody s_run_behind) (defScope s_run_behind) .none kV3 dc3 pm3 an3 cd3 ct3), f4, (PySem.W.fnOf "lexeme_from" "lexeme_from" (defArgs s_lexeme_from) (defBody s_lexeme_from) (defScope s_lexeme_from) .none kV4 dc4 pm4 an4 cd4 ct4), f5, (PySem.W.fnOf "lexemes" "lexemes" (defArgs s_lexemes) (defBody s_lexemes) (defScope s_lexemes) .none kV5 dc5 pm5 an5 cd5 ct5), f6, (PySem.W.fnOf "_law_piece" "_law_piece" (defArgs s__law_piece) (defBody s__law_piece) (defScope s__law_piece) .none kV6 dc6 pm6 an6 cd6 ct6), f7, (PySem.W.fnOf "is_name" "is_name" (defArgs s_is_name) (defBody s_is_name) (defScope s_is_name) .none kV7 dc7 pm7 an7 cd7 ct7), f8, (PySem.W.fnOf "_law_kept" "_law_kept" (defArgs s__law_kept) (defBody s__law_kept) (defScope s__law_kept) .none kV8 dc8 pm8 an8 cd8 ct8), f9, (PySem.W.fnOf "_law_names_right" "_law_names_right" (defArgs s__law_names_right) (defBody s__law_names_right) (defScope s__law_names_right) .none kV9 dc9 pm9 an9 cd9 ct9), f10, (PySem.W.fnOf "_law_told" "_law_told" (defArgs s__law_told) (defBody s__law_told) (defScope s__law_told) .none kV10 dc10 pm10 an10 cd10 ct10), f11, (PySem.W.fnOf "_law_odd" "_law_odd" (defArgs s__law_odd) (defBody s__law_odd) (defScope s__law_odd) .none kV11 dc11 pm11 an11 cd11 ct11), f12, (PySem.W.fnOf "_law_read" "_law_read" (defArgs s__law_read) (defBody s__law_read) (defScope s__law_read) .none kV12 dc12 pm12 an12 cd12 ct12), fa, (PySem.W.fnOf "law" "law" (defArgs s_law) (defBody s_law) (defScope s_law) .none kV13 dc13 pm13 an13 cd13 ct13)⟩
  have T : Tx l.prog K mg t := ⟨F0, PySem.W.mg_of X G a0, b0, F1, PySem.W.mg_of X G a1, b1, F2, PySem.W.mg_of X G a2, b2, F3, PySem.W.mg_of X G a3, b3, F4, PySem.W.mg_of X G a4, b4, F5, PySem.W.mg_of X G a5, b5, F6, PySem.W.mg_of X G a6, b6, F7, PySem.W.mg_of X G a7, b7, F8, PySem.W.mg_of X G a8, b8, F9, PySem.W.mg_of X G a9, b9, F10, PySem.W.mg_of X G a10, b10, F11, PySem.W.mg_of X G a11, b11, F12, PySem.W.mg_of X G a12, b12, F13, PySem.W.mg_of X G a13, b13, PySem.W.mg_none_of X G z0, PySem.W.mg_none_of X G z1, PySem.W.mg_none_of X G z2, PySem.W.mg_none_of X G z3, PySem.W.mg_none_of X G z4, PySem.W.mg_none_of X G z5, PySem.W.mg_none_of X G z6, PySem.W.mg_none_of X G z7, PySem.W.mg_none_of X G z8, PySem.W.mg_none_of X G z9, ⟨_, PySem.W.mg_of X G uc0⟩, ⟨_, PySem.W.mg_of X G uc1⟩, ⟨_, PySem.W.mg_of X G uc2⟩, ⟨_, PySem.W.mg_of X G uc3⟩, ⟨_, PySem.W.mg_of X G uc4⟩, PySem.W.mg_of X G ut0, strTup_of wl0 wv0, err⟩
  exact ⟨(PySem.W.fnOf "law" "law" (defArgs s_law) (defBody s_law) (defScope s_law) .none kV13 dc13 pm13 an13 cd13 ct13), fun s v => .of_eq rfl, fun base _ _ => d_law T plain_law⟩
end Lw
open PySem PySem.W PyProof.Rows
set_option maxRecDepth 100000 in
set_option maxHeartbeats 0 in
theorem PySem.Challenge.cw_camefrom_k01_lexemes_holds : PySem.Challenge.rw_camefrom_k01_lexemes.Holds := by
  w_on; o_law; k_head; (case hw => w_witness2)
  k_fill
  refine DL.walkG (l := PySem.Challenge.rw_camefrom_k01_lexemes) (n := 63) (k := 5) (x := "script") (sp := DL.spLaw) rfl (by decide) rfl ⟨rfl, by decide, by decide⟩ (fun w h Y => PySem.W.kIn_of Y) ?F DL.spLaw_in
  case F =>
    intro w mg fa h KX G hmg
    refine' Lw.all_mk KX G hmg ?a0 ?l0 ?c0 ?k0 ?a1 ?l1 ?c1 ?k1 ?a2 ?l2 ?c2 ?k2 ?a3 ?l3 ?c3 ?k3 ?a4 ?l4 ?c4 ?k4 ?a5 ?l5 ?c5 ?k5 ?a6 ?l6 ?c6 ?k6 ?a7 ?l7 ?c7 ?k7 ?a8 ?l8 ?c8 ?k8 ?a9 ?l9 ?c9 ?k9 ?a10 ?l10 ?c10 ?k10 ?a11 ?l11 ?c11 ?k11 ?a12 ?l12 ?c12 ?k12 ?a13 ?l13 ?c13 ?k13 ?z0 ?z1 ?z2 ?z3 ?z4 ?z5 ?z6 ?z7 ?z8 ?z9 ?uc0 ?uc1 ?uc2 ?uc3 ?uc4 ?ut0 ?wl0 ?wv0 ?eC ?eL ?eV ?eSa ?eGa ?eGg ?eNo ?eI ?eT ?eF ?eCd ?eK ?eVs ?eFl ?eTop ?eCell ?eMro ?eOpq ?eBm ?eLB ?eBi ?eSv ?eSup ?eKp ?eBe ?eTy ?eHd ?eCl ?eSs
    (case a0 => k_is); (case l0 => k_is); (case c0 => k_is); (case k0 => k_is); (case a1 => k_is); (case l1 => k_is); (case c1 => k_is); (case k1 => k_is); (case a2 => k_is); (case l2 => k_is); (case c2 => k_is); (case k2 => k_is); (case a3 => k_is); (case l3 => k_is); (case c3 => k_is); (case k3 => k_is); (case a4 => k_is); (case l4 => k_is); (case c4 => k_is); (case k4 => k_is); (case a5 => k_is); (case l5 => k_is); (case c5 => k_is); (case k5 => k_is); (case a6 => k_is); (case l6 => k_is); (case c6 => k_is); (case k6 => k_is); (case a7 => k_is); (case l7 => k_is); (case c7 => k_is); (case k7 => k_is); (case a8 => k_is); (case l8 => k_is); (case c8 => k_is); (case k8 => k_is); (case a9 => k_is); (case l9 => k_is); (case c9 => k_is); (case k9 => k_is); (case a10 => k_is); (case l10 => k_is); (case c10 => k_is); (case k10 => k_is); (case a11 => k_is); (case l11 => k_is); (case c11 => k_is); (case k11 => k_is); (case a12 => k_is); (case l12 => k_is); (case c12 => k_is); (case k12 => k_is); (case a13 => k_is); (case l13 => k_is); (case c13 => k_is); (case k13 => k_is); (case z0 => k_is); (case z1 => k_is); (case z2 => k_is); (case z3 => k_is); (case z4 => k_is); (case z5 => k_is); (case z6 => k_is); (case z7 => k_is); (case z8 => k_is); (case z9 => k_is); (case uc0 => k_is); (case uc1 => k_is); (case uc2 => k_is); (case uc3 => k_is); (case uc4 => k_is); (case ut0 => k_is); (case wl0 => k_is); (case wv0 => first | rfl | kernel_rfl | decide +kernel); (case eC => k_is); (case eL => k_is); (case eV => first | rfl | kernel_rfl | decide +kernel); (case eSa => k_is); (case eGa => k_is); (case eGg => k_is); (case eNo => k_is); (case eI => k_is); (case eT => k_is); (case eF => k_is); (case eCd => k_is); (case eK => k_is); (case eVs => first | rfl | kernel_rfl | decide +kernel); (case eFl => first | rfl | kernel_rfl | decide +kernel); (case eTop => first | rfl | kernel_rfl | decide +kernel); (case eCell => k_is); (case eMro => k_is); (case eOpq => k_is); (case eBm => first | rfl | k_is); (case eLB => k_is); (case eBi => k_is); (case eSv => k_is); (case eSup => k_is); (case eKp => k_is); (case eBe => k_is); (case eTy => k_is); (case eHd => k_is); (case eCl => k_is); (case eSs => k_is)
