import PyProof.Rows.All
import Wide.All
import OpenK.AllK
import Wide.FinOn
import HandS.ForMost
import HandS.IsInst
import HandS.Codes
import HandS.Walk
import HandS.Deep
import HandS.Strs
import HandS.SetFor
import HandS.TupAny
import KE.KDictKeyed
import KE.KDictDisplayH
import HandS.RevRange
import HandS.SuiteRaise
import HandS.ExcOwn
import HandS.WordsExc
import KE.KExcIs
import HandS.Lambda
import HandS.HotCalls
import HandS.ExcField
import HandS.ExcCtx
import HandS.ExcInit
import HandS.EndOwn
import HandS.Nested
import KE.KNestM
import PyProof.EnumFor
import PyProof.EnumMake
import KE.GoesMore
import PyProof.Draws
import HandS.More
import PySem.Challenge.RW_knobturn_k01_knobs_and_readers_refused
set_option Elab.async false
set_option linter.all false
set_option maxRecDepth 100000
/-! # Heaps with some places hidden, data read off a heap, calls in short -/
namespace KT
open PySem L2

/-! ### heaps with some places hidden -/
def Fz (ps : List Addr) (H : Hp) : Hp := fun a => if a ∈ ps then none else H a
section
variable {ps qs : List Addr} {H H' H1 H2 : Hp} {a b p : Addr} {o : HO} {K : PySem.W.Frag}
theorem fz_out (h : a ∉ ps) : Fz ps H a = H a := if_neg h
theorem fz_in (h : a ∈ ps) : Fz ps H a = none := if_pos h
theorem fz_some : Fz ps H a = some o ↔ a ∉ ps ∧ H a = some o := by
  unfold Fz
  by_cases h : a ∈ ps
  · rw [if_pos h]; simp [h]
  · rw [if_neg h]; simp [h]
theorem fz_nil : Fz [] H = H := by funext a; exact fz_out (by simp)
theorem fz_le : Same (Fz ps H) H := fun b o h => (fz_some.mp h).2
theorem fz_less (h : ∀ a ∈ ps, a ∈ qs) : Same (Fz qs H) (Fz ps H) := fun b o e => by
  obtain ⟨n, e⟩ := fz_some.mp e
  exact fz_some.mpr ⟨fun z => n (h b z), e⟩
theorem fz_tail : Same (Fz (a :: ps) H) (Fz ps H) := fz_less fun _ h => List.mem_cons_of_mem _ h
theorem fz_mono (h : Same H H') : Same (Fz ps H) (Fz ps H') := fun b o e => by
  obtain ⟨n, e⟩ := fz_some.mp e
  exact fz_some.mpr ⟨n, h b o e⟩
/-- a store at a hidden place -/
theorem fz_set (h : a ∈ ps) : Fz ps (upd H a o) = Fz ps H := by
  funext b
  by_cases hb : b ∈ ps
  · rw [fz_in hb, fz_in hb]
  · rw [fz_out hb, fz_out hb, upd_ne (fun z : b = a => hb (by rw [z]; exact h))]
theorem same_new (h : H a = none) : Same H (upd H a o) := fun b u e => by
  rw [upd_ne (ne_of_none e h)]
  exact e
theorem same_put (h : H a = none) (e : Same H H') : Same H (upd H' a o) := fun b u q => by
  rw [upd_ne (ne_of_none q h)]
  exact e b u q
def Live (ps : List Addr) (H : Hp) : Prop := ∀ p ∈ ps, H p ≠ none
theorem live_nil : Live [] H := fun _ h => by cases h
theorem live_cons (h : H a = some o) (l : Live ps H) : Live (a :: ps) H := fun p hp => by
  rcases List.mem_cons.mp hp with rfl | hp
  · rw [h]; exact fun z => by cases z
  · exact l p hp
theorem Live.tail (l : Live (a :: ps) H) : Live ps H := fun p hp => l p (List.mem_cons_of_mem _ hp)
theorem Live.new (l : Live ps H) (h : H a = none) : a ∉ ps := fun z => l a z h
theorem Live.mono (l : Live ps H) (e : Same H H') : Live ps H' := fun p hp z => by
  cases q : H p with
  | none => exact l p hp q
  | some o => rw [e p o q] at z; cases z
theorem Live.upd (l : Live ps H) : Live ps (upd H a o) := fun p hp z => by
  by_cases h : p = a
  · rw [h, upd_same] at z; cases z
  · rw [upd_ne h] at z; exact l p hp z
theorem fz_new (h : a ∉ ps) : Fz ps (upd H a o) = upd (Fz ps H) a o := by
  funext b
  by_cases hb : b = a
  · rw [hb, fz_out h, upd_same, upd_same]
  · rw [upd_ne hb]
    by_cases hp : b ∈ ps
    · rw [fz_in hp, fz_in hp]
    · rw [fz_out hp, fz_out hp, upd_ne hb]
theorem same_fz (h : ∀ p ∈ ps, H p = none) (e : Same H H') : Same H (Fz ps H') := fun b o q => fz_some.mpr ⟨(fun z => by rw [h b z] at q; cases q), e b o q⟩
/-- all but the hidden places is as it was -/
def Frm (ps : List Addr) (H H' : Hp) : Prop := ∀ b o, b ∉ ps → H b = some o → H' b = some o
theorem Frm.refl : Frm ps H H := fun _ _ _ h => h
theorem Frm.trans (a : Frm ps H H1) (b : Frm ps H1 H2) : Frm ps H H2 := fun c o n h => b c o n (a c o n h)
theorem Frm.fz (a : Frm ps H H') : Same (Fz ps H) (Fz ps H') := fun b o e => by
  obtain ⟨n, e⟩ := fz_some.mp e
  exact fz_some.mpr ⟨n, a b o n e⟩
theorem Frm.of_same (a : Same H H') : Frm ps H H' := fun b o _ h => a b o h
theorem Frm.mono (h : ∀ a ∈ ps, a ∈ qs) (a : Frm ps H H') : Frm qs H H' := fun b o n e => a b o (fun z => n (h b z)) e
theorem Frm.set (h : a ∈ ps) : Frm ps H (upd H a o) := fun b u n e => by
  rw [upd_ne (fun z : b = a => n (by rw [z]; exact h))]
  exact e
theorem Frm.new (h : H a = none) : Frm ps H (upd H a o) := Frm.of_same (same_new h)
/-- what is new may change -/
theorem Frm.off (e : Frm (a :: ps) H H') (h : H a = none) : Frm ps H H' := fun b o n q => e b o (fun z => by
  rcases List.mem_cons.mp z with rfl | z
  · rw [h] at q; cases q
  · exact n z) q
theorem Frm.same (e : Frm [] H H') : Same H H' := fun b o h => e b o (by simp) h
theorem same_seqT {xs : List V} (e : Same H H') (h : SqT K H a xs) : SqT K H' a xs := by
  rcases h with (h | ⟨o, h⟩) | h
  · exact .inl (.inl (e _ _ h))
  · exact .inl (.inr ⟨o, e _ _ h⟩)
  · exact .inr h
end

/-! ### lists -/
theorem int_at {ns : List Int} {i : Nat} {y : V} (h : (ns.map V.int)[i]? = some y) : ∃ z, ns[i]? = some z ∧ y = V.int z := by
  rw [List.getElem?_map] at h
  cases e : ns[i]? with
  | none => rw [e] at h; cases h
  | some z => rw [e] at h; exact ⟨z, rfl, (Option.some.inj h).symm⟩
theorem ixN_nat {n j : Nat} (h : j < n) : ixN n (j : Int) = some j := by
  unfold ixN
  simp [h]
theorem seqIndex_nat {n j : Nat} (h : j < n) : seqIndex? (j : Int) n = some j := by
  have e : ¬ ((j : Int) < 0) := by omega
  unfold seqIndex?
  simp [h, e]
theorem upd_id {H : Hp} {a : Addr} {o : HO} (h : H a = some o) : upd H a o = H := by
  funext b
  by_cases e : b = a
  · rw [e, upd_same, h]
  · rw [upd_ne e]
theorem min2 (a b : Int) : min a b = if b < a then b else a := by
  rw [Int.min_def]
  by_cases h : b < a
  · rw [if_pos h, if_neg (by omega)]
  · rw [if_neg h, if_pos (by omega)]
/-! ### tests -/
theorem iteNT {c A B : Prop} [Decidable c] (hc : ¬ c) (h : A) : if (!decide c) = true then A else B := by
  rw [decide_eq_false hc]
  exact iteT h
theorem iteDT {c A B : Prop} [Decidable c] (hc : c) (h : A) : if decide c = true then A else B := by
  rw [decide_eq_true hc]
  exact iteT h
theorem iteDF {c A B : Prop} [Decidable c] (hc : ¬ c) (h : B) : if decide c = true then A else B := by
  rw [decide_eq_false hc]
  exact iteF h
theorem iteBT {b : Bool} {A B : Prop} (hb : b = true) (h : A) : if b = true then A else B := by rw [if_pos hb]; exact h
theorem iteBF {b : Bool} {A B : Prop} (hb : b = false) (h : B) : if b = true then A else B := by rw [hb]; exact iteF h
theorem iteB {b : Bool} {A B : Prop} (h1 : b = true → A) (h2 : b = false → B) : if b = true then A else B := by
  cases b with
  | true => exact iteT (h1 rfl)
  | false => exact iteF (h2 rfl)
theorem vint_ne {i j : Int} (h : i ≠ j) : V.int i ≠ V.int j := fun e => h (V.int.inj e)
theorem vint_eq {i j : Int} (h : i = j) : V.int i = V.int j := congrArg V.int h
/-! ### data -/
section
variable {K : PySem.W.Frag} {H H' : Hp} {ps : List Addr}
mutual
theorem dp_same (e : Same H H') : ∀ {v : V} {d : PyData}, Dp K H v d → Dp K H' v d
  | _, _, .non => .non
  | _, _, .bl b => .bl b
  | _, _, .int i => .int i
  | _, _, .str x => .str x
  | _, _, .lst h a => .lst (e.seq h) (dpa_same e a)
  | _, _, .tup h a => .tup (same_seqT e h) (dpa_same e a)
theorem dpa_same (e : Same H H') : ∀ {vs : List V} {ds : List PyData}, DpAll K H vs ds → DpAll K H' vs ds
  | _, _, .nil => .nil
  | _, _, .cons h t => .cons (dp_same e h) (dpa_same e t)
end
theorem dp_fz {v : V} {d : PyData} (h : Dp K (Fz ps H) v d) : Dp K H v d := dp_same fz_le h
theorem dpa_length : ∀ {vs : List V} {ds : List PyData}, DpAll K H vs ds → vs.length = ds.length
  | _, _, .nil => rfl
  | _, _, .cons _ t => congrArg (· + 1) (dpa_length t)
theorem dpa_get : ∀ {vs : List V} {ds : List PyData} {i : Nat} {v : V}, DpAll K H vs ds → vs[i]? = some v → ∃ d, ds[i]? = some d ∧ Dp K H v d
  | _, _, _, _, .nil, e => by simp at e
  | _, _, 0, _, .cons h _, e => by simp at e; subst e; exact ⟨_, rfl, h⟩
  | _, _, i + 1, v, .cons _ t, e => by
    obtain ⟨d, h1, h2⟩ := dpa_get (i := i) (v := v) t (by simpa using e)
    exact ⟨d, by simpa using h1, h2⟩
theorem dpa_at : ∀ {vs : List V} {ds : List PyData} {i : Nat} {d : PyData}, DpAll K H vs ds → ds[i]? = some d → ∃ v, vs[i]? = some v ∧ Dp K H v d
  | _, _, _, _, .nil, e => by simp at e
  | _, _, 0, _, .cons h _, e => by simp at e; subst e; exact ⟨_, rfl, h⟩
  | _, _, i + 1, d, .cons _ t, e => by
    obtain ⟨v, h1, h2⟩ := dpa_at (i := i) (d := d) t (by simpa using e)
    exact ⟨v, by simpa using h1, h2⟩
theorem dpa_append : ∀ {vs us : List V} {ds es : List PyData}, DpAll K H vs ds → DpAll K H us es → DpAll K H (vs ++ us) (ds ++ es)
  | _, _, _, _, .nil, t => t
  | _, _, _, _, .cons h t, u => .cons h (dpa_append t u)
theorem dpa_snoc {vs : List V} {ds : List PyData} {v : V} {d : PyData} (h : DpAll K H vs ds) (q : Dp K H v d) : DpAll K H (vs ++ [v]) (ds ++ [d]) := dpa_append h (.cons q .nil)
theorem dpa_take : ∀ {vs : List V} {ds : List PyData} (n : Nat), DpAll K H vs ds → DpAll K H (vs.take n) (ds.take n)
  | _, _, 0, _ => by simp; exact .nil
  | _, _, _ + 1, .nil => by simp; exact .nil
  | _, _, n + 1, .cons h t => .cons h (dpa_take n t)
theorem dpa_drop : ∀ {vs : List V} {ds : List PyData} (n : Nat), DpAll K H vs ds → DpAll K H (vs.drop n) (ds.drop n)
  | _, _, 0, h => h
  | _, _, _ + 1, .nil => by simp; exact .nil
  | _, _, n + 1, .cons _ t => dpa_drop n t
theorem dpa_ints : ∀ (ns : List Int), DpAll K H (ns.map V.int) (ns.map PyData.int)
  | [] => .nil
  | n :: r => .cons (.int n) (dpa_ints r)
theorem dpa_ints_eq : ∀ {ns : List Int} {vs : List V}, DpAll K H vs (ns.map PyData.int) → vs = ns.map V.int
  | [], _, h => by cases h; rfl
  | n :: r, _, h => by
    cases h with
    | cons q t => cases q; rw [dpa_ints_eq t]; rfl
theorem dpa_map {α : Type} {f : α → PyData} : ∀ {l : List α} {vs : List V}, (∀ (i : Nat) (v : V), vs[i]? = some v → ∃ x, l[i]? = some x ∧ Dp K H v (f x)) → vs.length = l.length → DpAll K H vs (l.map f)
  | [], [], _, _ => .nil
  | [], _ :: _, _, e => by simp at e
  | _ :: _, [], _, e => by simp at e
  | x :: l, v :: vs, h, e => by
    obtain ⟨y, h1, h2⟩ := h 0 v rfl
    have : x = y := Option.some.inj h1
    subst this
    exact .cons h2 (dpa_map (fun i u q => h (i + 1) u q) (by simpa using e))
theorem dpa_map_at {α : Type} {f : α → PyData} {l : List α} {vs : List V} {i : Nat} {v : V} (h : DpAll K H vs (l.map f)) (e : vs[i]? = some v) : ∃ x, l[i]? = some x ∧ Dp K H v (f x) := by
  obtain ⟨d, h1, h2⟩ := dpa_get h e
  rw [List.getElem?_map] at h1
  cases q : l[i]? with
  | none => rw [q] at h1; cases h1
  | some x => rw [q] at h1; cases h1; exact ⟨x, rfl, h2⟩
theorem dp_int {v : V} {i : Int} (h : Dp K H v (.int i)) : v = .int i := by cases h; rfl
theorem dp_bl {v : V} {b : Bool} (h : Dp K H v (.bool b)) : v = .bl b := by cases h; rfl
theorem dp_str {v : V} {x : Str} (h : Dp K H v (.str x)) : v = .str x := by cases h; rfl
theorem dp_non {v : V} (h : Dp K H v .none) : v = .non := by cases h; rfl
theorem dp_lst {v : V} {ds : List PyData} (h : Dp K H v (.list ds)) : ∃ a xs, v = .ref a ∧ SqL K H a xs ∧ DpAll K H xs ds := by
  cases h with | lst h a => exact ⟨_, _, rfl, h, a⟩
theorem dp_tup {v : V} {ds : List PyData} (h : Dp K H v (.tuple ds)) : ∃ a xs, v = .ref a ∧ SqT K H a xs ∧ DpAll K H xs ds := by
  cases h with | tup h a => exact ⟨_, _, rfl, h, a⟩
/-- a pair of plain things -/
theorem dp_two {v : V} {d e : PyData} (h : Dp K H v (.tuple [d, e])) : ∃ a x y, v = .ref a ∧ SqT K H a [x, y] ∧ Dp K H x d ∧ Dp K H y e := by
  obtain ⟨a, xs, rfl, h, t⟩ := dp_tup h
  cases t with
  | cons h1 t =>
    cases t with
    | cons h2 t => cases t; exact ⟨a, _, _, rfl, h, h1, h2⟩
theorem dp_ii {v : V} {i j : Int} (h : Dp K H v (.tuple [.int i, .int j])) : ∃ a, v = .ref a ∧ SqT K H a [.int i, .int j] := by
  obtain ⟨a, x, y, rfl, h, h1, h2⟩ := dp_two h
  rw [dp_int h1, dp_int h2] at h
  exact ⟨a, rfl, h⟩
theorem dp_ib {v : V} {i : Int} {b : Bool} (h : Dp K H v (.tuple [.int i, .bool b])) : ∃ a, v = .ref a ∧ SqT K H a [.int i, .bl b] := by
  obtain ⟨a, x, y, rfl, h, h1, h2⟩ := dp_two h
  rw [dp_int h1, dp_bl h2] at h
  exact ⟨a, rfl, h⟩
/-- a new tuple, a new list -/
theorem dp_newT {a : Addr} {xs : List V} {ds : List PyData} (l : Live ps H) (h : H a = none) (t : DpAll K (Fz ps H) xs ds) : Dp K (Fz ps (upd H a (.tup xs))) (.ref a) (.tuple ds) := by
  rw [fz_new (l.new h)]
  refine .tup (SqT.of upd_same) (dpa_same (same_new ?_) t)
  rw [fz_out (l.new h)]; exact h
theorem dp_newL {a : Addr} {xs : List V} {ds : List PyData} (l : Live ps H) (h : H a = none) (t : DpAll K (Fz ps H) xs ds) : Dp K (Fz ps (upd H a (.lst xs))) (.ref a) (.list ds) := by
  rw [fz_new (l.new h)]
  refine .lst (SqL.of upd_same) (dpa_same (same_new ?_) t)
  rw [fz_out (l.new h)]; exact h
/-- a list that was being made is let go -/
theorem dp_doneL {a : Addr} {xs : List V} {ds : List PyData} (n : a ∉ ps) (h : H a = some (.lst xs)) (t : DpAll K (Fz (a :: ps) H) xs ds) : Dp K (Fz ps H) (.ref a) (.list ds) :=
  .lst (SqL.of (by rw [fz_out n]; exact h)) (dpa_same fz_tail t)
/-- found.append((..)), found hidden -/
theorem dpa_push {a t : Addr} {o : HO} {xs ys : List V} {ds es : List PyData} (l : Live (a :: ps) H) (ht : H t = none) (h : DpAll K (Fz (a :: ps) H) xs ds) (q : DpAll K (Fz (a :: ps) H) ys es) :
    DpAll K (Fz (a :: ps) (upd (upd H t (.tup ys)) a o)) (xs ++ [.ref t]) (ds ++ [.tuple es]) := by
  rw [fz_set (List.mem_cons_self ..)]
  exact dpa_snoc (dpa_same (fz_mono (same_new ht)) h) (dp_newT l ht q)
theorem dpa_put {a : Addr} {o : HO} {v : V} {d : PyData} {xs : List V} {ds : List PyData} (h : DpAll K (Fz (a :: ps) H) xs ds) (q : Dp K (Fz (a :: ps) H) v d) :
    DpAll K (Fz (a :: ps) (upd H a o)) (xs ++ [v]) (ds ++ [d]) := by
  rw [fz_set (List.mem_cons_self ..)]
  exact dpa_snoc h q
theorem dpa_ii (i j : Int) : DpAll K H [.int i, .int j] [.int i, .int j] := .cons (.int i) (.cons (.int j) .nil)
theorem dpa_ib (i : Int) (b : Bool) : DpAll K H [.int i, .bl b] [.int i, .bool b] := .cons (.int i) (.cons (.bl b) .nil)
/-- the types that isinstance sees -/
theorem ty_lst {a : Addr} {xs : List V} (h : SqL K H a xs) : TyX K H (.ref a) (.type "list") := by
  rcases h with (h | ⟨o, h⟩) | ⟨o, its, n, h, c, _⟩
  · exact .base (.lst h)
  · exact .base (.frz h)
  · exact .kList h c
theorem ty_tup {a : Addr} {xs : List V} (h : SqT K H a xs) : TyX K H (.ref a) (.type "tuple") := by
  rcases h with (h | ⟨o, h⟩) | ⟨o, its, n, h, c, _⟩
  · exact .base (.tup h)
  · exact .fTuple h
  · exact .kTuple h c
end

/-! ### calls in short -/
/-- a def of the module: it keeps sp -/
def Cal (P : Program) (w : World) (K : PySem.W.Frag) (mg : Str → Option Value) (base : Heap) (k : Nat) (x : Str) (ps : List Str) (sp : Sp) : Prop :=
  ∃ f fd, FnOk P w K mg base CX0 k f fd ps sp ∧ mg x = some (.ref f) ∧ PySem.W.keepIn K (.ref f) = true ∧ Binds K fd ps []
/-- a method of the class at C -/
def Mtd (P : Program) (w : World) (K : PySem.W.Frag) (mg : Str → Option Value) (base : Heap) (k : Nat) (C : Addr) (m : Str) (ps : List Str) (sp : Sp) : Prop :=
  ∃ f fd, FnOk P w K mg base CX0 k f fd ps sp ∧ Meth K C m f ∧ Binds K fd ps []
/-- a class that is called -/
def Mkr (P : Program) (w : World) (K : PySem.W.Frag) (mg : Str → Option Value) (base : Heap) (k : Nat) (C : Addr) (x : Str) (ps : List Str) (sp : Sp) : Prop :=
  ∃ f fd, FnOk P w K mg base CX0 k f fd ps sp ∧ mg x = some (.ref C) ∧ Mk K C f ∧ Binds K fd ps []
section
variable {X : Cx} {k : Nat} {C : Addr} {x m : Str} {qs : List Str} {sp : Sp} {p pos apos : Pos} {e o : Expr} {es : List Expr} {t : TA} {ta : TE}
/-! rules whose readings name K plainly (within a comprehension X.K does not do) -/
def rLenQ (K : PySem.W.Frag) : List V → Hp → VK → Prop := fun xs H Q => ∃ p ys, xs = [.ref p] ∧ (SqL K H p ys ∨ SqT K H p ys) ∧ Q (.int ys.length) H
theorem call_lenQ : CallR X (.builtin "len") (rLenQ X.K) := call_len_seq
def rListQ (K : PySem.W.Frag) : List V → Hp → VK → Prop := fun xs H Q => ∃ p ys, xs = [.ref p] ∧ (SqL K H p ys ∨ SqT K H p ys) ∧ ∀ l, H l = none → Q (.ref l) (upd H l (.lst ys))
theorem call_listQ : CallR X (.type "list") (rListQ X.K) := call_list_of
def rTupleQ (K : PySem.W.Frag) : List V → Hp → VK → Prop := fun xs H Q => ∃ p ys, xs = [.ref p] ∧ ((SqL K H p ys ∧ ∀ l, H l = none → Q (.ref l) (upd H l (.tup ys))) ∨ (SqT K H p ys ∧ Q (.ref p) H))
theorem call_tupleQ : CallR X (.type "tuple") (rTupleQ X.K) := call_tuple_of
theorem pe_fldK {K : PySem.W.Frag} {f : Str} (hK : X.K = K) (he : PE X e ta) (hb : attributeBase e f X.env (eval e X.env) = eval e X.env := by rfl) : PE X (.Attribute e f pos) (tFld K ta f) := by
  subst hK
  exact pe_fld he hb
/-- a word between an expression and what follows -/
def tCutE (t : TE) : TE := fun σ H Q => ∃ R : VK, t σ H R ∧ ∀ v H', R v H' → Q v H'
theorem pe_cut {t : TE} (h : PE X e t) : PE X e (tCutE t) := ⟨fun pins s σ H Q I ⟨R, h1, h2⟩ => thn (h.run pins s σ H R I h1) fun v s1 ⟨x, H1, I1, r1, q1⟩ => ⟨x, H1, I1, r1, h2 _ _ q1⟩⟩
def tCutT (t : TT) : TT := fun σ H Q => ∃ R : Bool → Hp → Prop, t σ H R ∧ ∀ v H', R v H' → Q v H'
theorem pt_cut {t : TT} (h : PT X e t) : PT X e (tCutT t) := ⟨fun pins s σ H Q I ⟨R, h1, h2⟩ => thn (h.run pins s σ H R I h1) fun v s1 ⟨H1, I1, q1⟩ => ⟨H1, I1, h2 _ _ q1⟩⟩
theorem pe_cal (c : Cal X.prog X.w X.K X.mg X.base k x qs sp) (hr : Room k X.A) (ha : PA X (e :: es) t) (hg : Gl X x := by rfl) (hdb : (x == ("__debug__" : Str)) = false := by decide)
    (he : starEach (e :: es) X.env = (false, eval e X.env) :: starEach es X.env := by rfl) (hpl : (backTo pos (starEach es X.env)).any (·.1) = false := by rfl) : PE X (.Call (.Name x p) (e :: es) [] pos) (tCall sp [] E0 t) := by
  obtain ⟨f, fd, F, hm, hk, hb⟩ := c
  exact pe_call F hr hg hm hk hb .nil pass0 ha hdb he hpl
theorem pe_cal0 (c : Cal X.prog X.w X.K X.mg X.base k x qs sp) (hr : Room k X.A) (hg : Gl X x := by rfl) (hdb : (x == ("__debug__" : Str)) = false := by decide) : PE X (.Call (.Name x p) [] [] pos) (tCall sp [] E0 tNil) := by
  obtain ⟨f, fd, F, hm, hk, hb⟩ := c
  exact pe_call0 F hr hg hm hk hb .nil pass0 hdb
theorem pe_mtd {pl : Sem Bool} (c : Mtd X.prog X.w X.K X.mg X.base k C m qs sp) (cl : Cls X.K C) (hr : Room k X.A) (he : PE X o ta) (ha : PA X (e :: es) t)
    (hst : starEach (e :: es) X.env = (false, eval e X.env) :: starEach es X.env := by rfl) (hpl : (backTo pos (starEach es X.env)).any (·.1) = false := by rfl)
    (ht : eval (.Call (.Attribute o m apos) (e :: es) [] pos) X.env = (do
      let ov ← eval o X.env
      standAt apos.atName
      let (f, first) ← holding [ov] (getMethod ov m pl)
      callWith pos f first (backTo pos (starEach (e :: es) X.env)) (backToKw pos (keywordEach [] X.env))) := by rfl) :
    PE X (.Call (.Attribute o m apos) (e :: es) [] pos) (tMeth C m sp [] E0 ta t) := by
  obtain ⟨f, fd, F, hm, hb⟩ := c
  exact pe_meth he cl hm F hr hb .nil pass0 ha hst hpl ht
theorem pe_mtd0 {pl : Sem Bool} (c : Mtd X.prog X.w X.K X.mg X.base k C m qs sp) (cl : Cls X.K C) (hr : Room k X.A) (he : PE X o ta)
    (ht : eval (.Call (.Attribute o m apos) [] [] pos) X.env = (do
      let ov ← eval o X.env
      standAt apos.atName
      let (f, first) ← holding [ov] (getMethod ov m pl)
      callWith pos f first (backTo pos (starEach [] X.env)) (backToKw pos (keywordEach [] X.env))) := by rfl) :
    PE X (.Call (.Attribute o m apos) [] [] pos) (tMeth C m sp [] E0 ta tNil) := by
  obtain ⟨f, fd, F, hm, hb⟩ := c
  exact pe_meth0 he cl hm F hr hb .nil pass0 ht
theorem pe_mkr (c : Mkr X.prog X.w X.K X.mg X.base k C x qs sp) (hr : Room (k + 1) X.A) (ha : PA X (e :: es) t) (hg : Gl X x := by rfl) (hdb : (x == ("__debug__" : Str)) = false := by decide)
    (he : starEach (e :: es) X.env = (false, eval e X.env) :: starEach es X.env := by rfl) (hpl : (backTo pos (starEach es X.env)).any (·.1) = false := by rfl) : PE X (.Call (.Name x p) (e :: es) [] pos) (tMake C sp [] E0 t) := by
  obtain ⟨f, fd, F, hm, M, hb⟩ := c
  exact pe_make M F hr hg hm hb .nil pass0 ha hdb he hpl
end
/-! ### t.index(x) of data at any depth -/
theorem hu65 {k : Nat} {A : Around} (r : Room k A) : A.units + 65 < cLine := by have := r.un; omega
def rTupIndexD (K : PySem.W.Frag) : V → List V → Hp → VK → Prop := fun x xs H Q => ∃ (a : Addr) (y : V) (d : PyData) (ds : List PyData) (j : Nat) (z : PyData), x = V.ref a ∧ xs = [y] ∧ Dp K H (V.ref a) (.tuple ds) ∧ Dp K H y d ∧
  SeqAt.shaped (.tuple ds) = true ∧ SeqAt.shaped d = true ∧ ds[j]? = some z ∧ PyData.eqv z d = true ∧ (∀ (m : Nat) (z' : PyData), m < j → ds[m]? = some z' → PyData.eqv z' d = false) ∧ Q (.int (j : Nat)) H
theorem mt_tup_indexD {X : Cx} (hu : X.A.units + 65 < cLine) : MtR X "tuple.index" (rTupIndexD X.K) := by
  intro pins s σ H x xs v us Q I rx rxs h
  obtain ⟨a, y, d, ds, j, z, rfl, rfl, hl, hy, sl, sd, hz, hzj, hno, q⟩ := h
  cases rx
  cases rxs with
  | cons ry rt =>
    rename_i uy ut
    cases rt
    obtain ⟨bs, r1⟩ := Dp.reads I d y uy hy ry
    have hxs : PyData.canLayAll0 ds = true := by
      have := SeqAt.canLay_of_shaped sl
      simpa [PyData.canLay0] using this
    have hroom : X.A.units + 1 + min (PyData.depthAll ds) d.depth < cLine := PyProof.Rows.room_in_shaped sd hu
    cases hl with
    | tup hs ha =>
      obtain ⟨its, rv, ⟨⟨cls, dd, dt, sls⟩, ho, hc, n, hdt⟩, hlen⟩ := I.tuple hs
      simp only at hc hdt
      subst hc hdt
      obtain ⟨as, h4⟩ := Dp.readsAll I ds _ its ha rv
      have hn : its.length = ds.length := SeqAt.ReadsAll.length ds its as h4
      have hmap : its.map (SeqAt.readOf s.heap) = ds := SeqAt.readsAll_map ds its as hxs h4
      obtain ⟨hjd, _⟩ := List.getElem?_eq_some_iff.mp hz
      have hjl : j < its.length := by omega
      have hj : j < its.toArray.size := by simpa using hjl
      have at_ : ∀ (m : Nat) (hm : m < its.toArray.size) (z' : PyData), ds[m]? = some z' → SeqAt.readOf s.heap its.toArray[m] = z' := by
        intro m hm z' hz'
        have hml : m < its.length := by simpa using hm
        rw [← hmap, List.getElem?_map, List.getElem?_eq_getElem hml] at hz'
        have e1 : SeqAt.readOf s.heap its[m] = z' := Option.some.inj (show some (SeqAt.readOf s.heap its[m]) = some z' from hz')
        simpa using e1
      refine call_meets PySem.F.slot_tuple_index ⟨_, ho, rfl⟩ PySem.F.entry_tuple_index (PySem.F.args_tuple_index_2 _ _)
        (TI.tuple_indexAt a its.toArray n dd sls uy (fun u => PyData.eqv (SeqAt.readOf s.heap u) d) j hj ?_ ?_) ⟨ho, SeqAt.items_eqAt (vs := its.toArray) (show ReadsAll s.heap its.toArray.toList ds as from h4) r1 hxs (SeqAt.canLay_of_shaped sd) hroom, ?_⟩
      · show PyData.eqv (SeqAt.readOf s.heap its.toArray[j]) d = true
        rw [at_ j hj z hz]
        exact hzj
      · intro m hm hmj
        have hmd : m < ds.length := by omega
        have hz' : ds[m]? = some ds[m] := List.getElem?_eq_getElem hmd
        show PyData.eqv (SeqAt.readOf s.heap its.toArray[m]) d = false
        rw [at_ m hm _ hz']
        exact hno m _ hmj hz'
      · exact ⟨.int (j : Nat), H, I.tok _, ⟨_, rfl⟩, q⟩
theorem few {α : Type} {fs : List α} (n : Nat) (h : fs.length = n) (hn : n < 1000 := by decide) : fs.length < 1000 := by omega
theorem iteD {c A B : Prop} [Decidable c] (h1 : c → A) (h2 : ¬ c → B) : if decide c = true then A else B := by
  by_cases h : c
  · exact iteDT h (h1 h)
  · exact iteDF h (h2 h)
/-- o.f = .., among several targets -/
def gFld (K : PySem.W.Frag) (to : TE) (f : Str) : TG := fun v σ H Q => to σ H fun x H1 => ∃ a C dx fs, x = .ref a ∧ H1 a = some (.ins C dx fs) ∧ Cls K C ∧ NoAttr K C f ∧ fs.length < 1000 ∧ Q σ (upd H1 a (.ins C dx (putF f v fs)))
theorem pg_fld {X : Cx} {o : Expr} {to : TE} {f : Str} {pos : Pos} (ho : PE X o to) : PG X (.Attribute o f pos) (gFld X.K to f) := by
  refine ⟨fun pins s σ H v u Q I r h => ?_⟩
  rw [arm_assign_Attribute]
  refine wpAny_bind (wpAny_holding (thn (ho.run pins s σ H _ I h) fun ov s1 ⟨x, H1, I1, r1, a, C, dx, fs, ex, ea, c, n, l, q⟩ => ?_))
  subst ex
  obtain rfl : ov = Value.ref a := r1
  refine wpAny_bind (wpAny_standAt (wpAny_bind (wpAny_holding (setattr_ok I1 ea c n l r fun s2 I2 => ?_))))
  exact wpAny_release ⟨σ, _, I2, q⟩
end KT

namespace KT
open PySem L2
def top (i : Nat) : Stmt := PySem.Challenge.pw_knobturn_k01_knobs_and_readers_refused.main.body.getD i (.Pass ⟨0, 0, 0, 0⟩)
/-! ### rows: what a knob can go -/
abbrev Mv := Int × Bool
/-- moments since the latest turn (at most gap), whether it ever turned; one moment on -/
def stp (gap : Int) (s : Int × Bool) (m : Mv) : Int × Bool := (min gap ((if m.1 = 0 then s.1 else 0) + 1), s.2 || decide (m.1 ≠ 0))
def rst (gap : Int) (row : List Mv) : Int × Bool := row.foldl (stp gap) (gap, false)
structure OkM (gap bounce : Int) (s : Int × Bool) (m : Mv) : Prop where
  turn : m.1 = -1 ∨ m.1 = 0 ∨ m.1 = 1
  soon : m.1 ≠ 0 → gap ≤ s.1
  old : m.2 = true → (s.2 = true ∨ m.1 ≠ 0) ∧ (if m.1 = 0 then s.1 else 0) < bounce
structure Good (gap bounce : Int) (row : List Mv) : Prop where
  len : row.length ≤ 200
  ok : ∀ (i : Nat) (m : Mv), row[i]? = some m → OkM gap bounce (rst gap (row.take i)) m
theorem take_snoc {α : Type} {l : List α} {i : Nat} {x : α} (h : l[i]? = some x) : l.take (i + 1) = l.take i ++ [x] := by
  rw [List.take_add_one, h]
  rfl
theorem rst_snoc {gap : Int} {row : List Mv} {i : Nat} {m : Mv} (h : row[i]? = some m) : rst gap (row.take (i + 1)) = stp gap (rst gap (row.take i)) m := by
  unfold rst
  rw [take_snoc h, List.foldl_append]
  rfl
theorem rst_app {gap : Int} {row : List Mv} {m : Mv} : rst gap (row ++ [m]) = stp gap (rst gap row) m := by
  unfold rst
  rw [List.foldl_append]
  rfl
theorem good_snoc {gap bounce : Int} {row : List Mv} {m : Mv} (h : Good gap bounce row) (hl : row.length < 200) (hm : OkM gap bounce (rst gap row) m) : Good gap bounce (row ++ [m]) := by
  refine ⟨by rw [List.length_append, List.length_singleton]; omega, fun i x hx => ?_⟩
  by_cases hi : i < row.length
  · rw [List.getElem?_append_left hi] at hx
    rw [List.take_append_of_le_length (by omega)]
    exact h.ok i x hx
  · have hi2 : i = row.length := by
      have := (List.getElem?_eq_some_iff.mp hx).1
      rw [List.length_append, List.length_singleton] at this
      omega
    subst hi2
    simp at hx
    subst hx
    rw [List.take_append_of_le_length (Nat.le_refl _), List.take_length]
    exact hm
theorem good_nil {gap bounce : Int} : Good gap bounce [] := ⟨by simp, fun i m h => by simp at h⟩
def mvD (m : Mv) : PyData := .tuple [.int m.1, .bool m.2]
def rowD (row : List Mv) : PyData := .list (row.map mvD)
def knD (g b : Int) : PyData := .tuple [.int g, .int b]
/-- (where the knob is, which the latest turn was) -/
def pst (s : Int × Int) (m : Mv) : Int × Int := (s.1 + m.1, if m.1 = 0 then s.2 else m.1)
def pas (row : List Mv) : Int × Int := row.foldl pst (0, 0)
/-- what is told of a moment: where the knob is, where it is seen to be -/
def seenOf (s : Int × Int) (old : Bool) : Int × Int := (s.1, if old then s.1 - s.2 else s.1)
def plcs (row : List Mv) : List (Int × Int) := (List.range row.length).map fun i => match row[i]? with
  | some m => seenOf (pas (row.take (i + 1))) m.2
  | none => (0, 0)
theorem pas_snoc {row : List Mv} {i : Nat} {m : Mv} (h : row[i]? = some m) : pas (row.take (i + 1)) = pst (pas (row.take i)) m := by
  unfold pas
  rw [take_snoc h, List.foldl_append]
  rfl
theorem plcs_take {row : List Mv} {i : Nat} (hi : i ≤ row.length) : plcs (row.take i) = (plcs row).take i := by
  unfold plcs
  rw [List.length_take, Nat.min_eq_left hi, ← List.map_take, List.take_range, Nat.min_eq_left hi]
  refine List.map_congr_left fun j hj => ?_
  have hj : j < i := List.mem_range.mp hj
  rw [List.getElem?_take, if_pos hj, List.take_take, Nat.min_eq_left hj]
theorem plcs_snoc {row : List Mv} {i : Nat} {m : Mv} (h : row[i]? = some m) : plcs (row.take (i + 1)) = plcs (row.take i) ++ [seenOf (pst (pas (row.take i)) m) m.2] := by
  have hi := (List.getElem?_eq_some_iff.mp h).1
  rw [plcs_take hi, plcs_take (Nat.le_of_lt hi), List.take_add_one]
  have e : (plcs row)[i]? = some (seenOf (pst (pas (row.take i)) m) m.2) := by
    unfold plcs
    rw [List.getElem?_map, List.getElem?_range hi, Option.map_some, h]
    show some (seenOf (pas (row.take (i + 1))) m.2) = _
    rw [pas_snoc h]
  rw [e]
  rfl
theorem plcs_length (row : List Mv) : (plcs row).length = row.length := by unfold plcs; simp
def ppD (p : Int × Int) : PyData := .tuple [.int p.1, .int p.2]
/-- what both wires show in a place -/
def pr (z : Int) : Int × Int := if z % 4 = 0 then (0, 0) else if z % 4 = 1 then (0, 1) else if z % 4 = 2 then (1, 1) else (1, 0)
theorem mod4 (z : Int) : z % 4 = 0 ∨ z % 4 = 1 ∨ z % 4 = 2 ∨ z % 4 = 3 := by omega
/-- lists and tuples at most n deep, of bounded length -/
def Nest : Nat → PyData → Prop
  | _, .none => True
  | _, .bool _ => True
  | _, .int _ => True
  | _, .str x => PyData.strOk x = true
  | n + 1, .list ds => ds.length ≤ 1000000 ∧ ∀ d ∈ ds, Nest n d
  | n + 1, .tuple ds => ds.length ≤ 1000000 ∧ ∀ d ∈ ds, Nest n d
  | _, _ => False
/-! ### the keys of a dict of the module; a text's signs with their places -/
section
open PySem PySem.Spec PyProof.Rows L2
def ItW (zs : List Str) : It := ⟨fun i _ => i < zs.length, fun i H v H' => H' = H ∧ ∃ z, zs[i]? = some z ∧ v = .str z, fun i _ => zs.length ≤ i⟩
/-- the dict's keys are these texts -/
def KKeys (es : Array DictEntry) (zs : List Str) : Prop := es.size = zs.length ∧ ∀ (i : Nat) (z : Str), zs[i]? = some z → ∃ en t, es[i]? = some en ∧ en.key = .str z t
theorem turn_kd {P : Program} {w : World} {K : PySem.W.Frag} {tg : Expr} {d it : Addr} {es : Array DictEntry} {n : Nat} {zs : List Str} (hl : K.lookup d = some ⟨.type "dict", none, .dict es n, #[]⟩) (hk : KKeys es zs) :
    Turn P w K tg (ItW zs) [it] it (fun i h => h.IsKeyIter it d i zs.length n) := by
  refine ⟨by simp, fun i h st b hb => ?_, fun i h h' st k => st.at fun oi e => k it (by simp) oi e, ?_, ?_, fun A i s Q E st h => wpAny_pyIter_keyiter st h⟩
  · have e : b = it := by simpa using hb
    obtain ⟨oi, e1, _, dd⟩ := st
    exact ⟨oi, by rw [e]; exact e1, fun v z => by rw [dd] at z; cases z⟩
  · intro X hP hw hK hc i pins s σ H E I hf st hi
    subst hP hw hK
    have hi : i < zs.length := hi
    obtain ⟨f0, f1, _, f3, f4, f5⟩ := hf it (by simp)
    have hgd := I.kIn _ _ hl
    obtain ⟨en, t, h1, h2⟩ := hk.2 i zs[i] (List.getElem?_eq_getElem hi)
    refine next_key_item st hgd rfl hk.1 h1 fun h' st' sb => ?_
    have J := I.turned (t' := s.toks) (h' := h') (fun b ob hb e => (sb.2 b hb).trans e) f0 f1 f3 f4 f5
    obtain ⟨oi, e, c, dd⟩ := id st'
    exact ⟨en.key, rfl, go_of (s := { s with heap := h' }) e c dd (by decide) ⟨.str zs[i], H, J, ⟨t, h2⟩, ⟨rfl, zs[i], List.getElem?_eq_getElem hi, rfl⟩, st', fun b hb => (hf b hb).1⟩⟩
  · intro X hP hw hK hc i pins s σ H E I hf st hi
    subst hP hw hK
    have hi : zs.length ≤ i := hi
    obtain ⟨f0, f1, _, f3, f4, f5⟩ := hf it (by simp)
    exact next_key_end (I.ok.hd hc) st (I.kIn _ _ hl) rfl hk.1 hi fun h' eb => ⟨rfl, I.turned (t' := s.toks) (fun b ob hb e => eb b ob hb e) f0 f1 f3 f4 f5⟩
def iKd (d : Addr) (zs : List Str) (td : TE) : TI := fun σ H R => td σ H fun x H1 => x = .ref d ∧ R (ItW zs) H1
theorem pi_kd {X : Cx} {tg e : Expr} {td : TE} {d : Addr} {es : Array DictEntry} {n : Nat} {zs : List Str} (D : KDict X.K X.w d es n) (hk : KKeys es zs) (he : PE X e td) : PI X tg e (iKd d zs td) := by
  refine ⟨fun pins s σ H R I h => thn (he.run pins s σ H _ I h) fun u s1 ⟨x, H1, I1, rx, ex, q⟩ => ?_⟩
  subst ex
  obtain rfl : u = Value.ref d := rx
  refine iter_keys D.low (I1.kIn _ _ D.at_) ⟨rfl, rfl, rfl⟩ rfl (pi_one (tk := s1.toks) I1 _ (turn_kd D.at_ hk) ⟨_, Heap.get?_push_size _ rfl, rfl, ?_⟩ q)
  rw [hk.1] <;> rfl
theorem walk_kd {zs : List Str} : Walk (ItW zs) zs.length (fun _ => True) (fun i H v H' => H' = H ∧ ∃ z, zs[i]? = some z ∧ v = .str z) :=
  ⟨fun _ _ hi _ => hi, fun _ _ => Nat.le_refl _, fun _ _ _ _ _ _ y => y⟩
/-- for i, c in enumerate(text) -/
def ItU (x : Str) : It := ⟨fun i _ => i < x.cps.size, fun i H v H' => ∃ T c, v = .ref T ∧ H T = none ∧ x.cps[i]? = some c ∧ H' = upd H T (.tup [.int (i : Nat), .str ⟨#[c]⟩]), fun i _ => i = x.cps.size⟩
theorem turn_enumU {P : Program} {w : World} {K : PySem.W.Frag} {elts : List Expr} {kk : Nat} {tpos : Pos} (x : Str) (t : Tok) (e it : Addr) :
    Turn P w K (.Tuple elts kk tpos) (ItU x) [e, it] e (fun i h => (∃ old, IsEnum h e it ((i : Nat) : Int) old) ∧ h.IsStrIter it (strIterType x) x t i ∧ e ≠ it) := by
  refine ⟨by simp, fun i h st b hb => ?_, fun i h h' st k => ?_, ?_, ?_, fun A i s Q E st h => let ⟨⟨_, he⟩, _⟩ := st; wpAny_pyIter_enum he h⟩
  · obtain ⟨⟨old, he⟩, ⟨o, ho, hc, hd⟩, _⟩ := st
    rcases (show b = e ∨ b = it by simpa using hb) with z | z
    · subst z; exact ⟨_, he, fun v q => nomatch q⟩
    · exact ⟨o, by rw [z]; exact ho, fun v q => by rw [hd] at q; cases q⟩
  · obtain ⟨⟨old, he⟩, ⟨o, ho, r⟩, hne⟩ := st
    exact ⟨⟨old, k e (by simp) _ he⟩, ⟨o, k it (by simp) o ho, r⟩, hne⟩
  · intro X hP hw hK hc i pins s σ H E I hf st hi
    subst hP hw hK
    have hi : i < x.cps.size := hi
    obtain ⟨⟨old, he⟩, hit, hne⟩ := st
    have hel : e < s.heap.objs.size := Heap.lt_size he
    have hil : it < s.heap.objs.size := by obtain ⟨_, q, _⟩ := id hit; exact Heap.lt_size q
    refine wpAny_pyNext_enum_itemD (Draws.text (A := X.A.in1) (I.ok.hd hc) it x t) he hit hi hne (by simpa using hne) fun u h' tk hu ho hit' hT hsz hk => ?_
    obtain ⟨c, tu, hc1, rfl⟩ := hu
    refine ⟨_, rfl, wpAny_letOwnedTupleGo_enum (s := { s with heap := h', toks := tk + 1 }) ho fun h'' he' sb => ?_⟩
    have hT2 := (sb.2 _ (Nat.ne_of_gt hel)).trans hT
    have new : ObjOk X.prog X.w (upd H s.heap.objs.size (.tup [.int (i : Nat), .str ⟨#[c]⟩])) h'' s.heap.objs.size (.tup [.int (i : Nat), .str ⟨#[c]⟩]) :=
      ⟨by show 2 ≤ sizeLine; decide, [.int i tk, .str ⟨#[c]⟩ tu], .cons ⟨_, rfl⟩ (.cons ⟨_, rfl⟩ .nil), ⟨_, hT2, rfl, _, rfl⟩⟩
    have J : Inv X pins σ (upd H s.heap.objs.size (.tup [.int (i : Nat), .str ⟨#[c]⟩])) { s with heap := h'', toks := tk + 1 } :=
      I.turnedNew (ch := [e, it]) (fun b ob hb q => (sb.2 b (fun z => hb (by simp [z]))).trans (hk b ob (fun z => hb (by simp [z])) (fun z => hb (by simp [z])) q)) hf (Nat.le_refl _) new
    refine ⟨.ref s.heap.objs.size, _, J, rfl, ⟨_, c, rfl, I.hok.fresh (Nat.le_refl _), hc1, rfl⟩, ⟨⟨.str ⟨#[c]⟩ tu, ?_⟩, ?_, hne⟩, fun b hb => ?_⟩
    · rw [show ((i + 1 : Nat) : Int) = (i : Int) + 1 by omega]; exact he'
    · obtain ⟨o, ho2, r⟩ := hit'
      exact ⟨o, (sb.2 it (Ne.symm hne)).trans ho2, r⟩
    · have hb' : b < s.heap.objs.size := by
        rcases (show b = e ∨ b = it by simpa using hb) with z | z <;> rw [z] <;> assumption
      rw [upd_ne (Nat.ne_of_lt hb')]
      exact (hf b hb).1
  · intro X hP hw hK hc i pins s σ H E I hf st hi
    subst hP hw hK
    have hi : i = x.cps.size := hi
    subst hi
    obtain ⟨⟨old, he⟩, hit, hne⟩ := st
    obtain ⟨f0, f1, _, f3, f4, f5⟩ := hf it (by simp)
    exact wpAny_pyNext_enum_endD (Draws.text (A := X.A.in1) (I.ok.hd hc) it x t) he hit fun h' eb => ⟨rfl, I.turned (t' := s.toks) (fun b o hb q => eb b o hb q) f0 f1 f3 f4 f5⟩
def iEnumU (ta : TA) : TI := fun σ H R => ta σ H fun vs H1 => ∃ x, vs = [.str x] ∧ R (ItU x) H1
theorem pi_enumU {X : Cx} {e : Expr} {ta : TA} {p pos tpos : Pos} {elts : List Expr} {kk : Nat} (hg : Gl X "enumerate") (hm : X.mg "enumerate" = none) (ha : PA X [e] ta) (hs : starEach [e] X.env = [(false, eval e X.env)] := by rfl) :
    PI X (.Tuple elts kk tpos) (.Call (.Name "enumerate" p) [e] [] pos) (iEnumU ta) := by
  refine ⟨fun pins s σ H R I h => Call_ (ld_blt I hg hm boot_enumerate (PyProof.Rows.callWith_type1 (thn (ha.run pos pins s σ H _ I h) fun us s1 ⟨vs, H1, I1, r1, q1⟩ => ?_) hs rfl))⟩
  obtain ⟨x, rfl, q⟩ := q1
  cases r1 with
  | cons r rr =>
    cases rr
    obtain ⟨t, rfl⟩ := r
    refine call_enumerate_str fun h' he hit hsz hk => wpAny_pyIter_enum he ?_
    refine ⟨s1.heap.objs.size + 1, [s1.heap.objs.size + 1, s1.heap.objs.size], _, _, H1, rfl, I1.kept (t' := s1.toks) hk, turn_enumU x t (s1.heap.objs.size + 1) s1.heap.objs.size, ⟨⟨.none, he⟩, hit, Nat.succ_ne_self _⟩, fun b hb => ?_, q⟩
    have hle : s1.heap.objs.size ≤ b := by
      rcases (show b = s1.heap.objs.size + 1 ∨ b = s1.heap.objs.size by simpa using hb) with z | z <;> rw [z]
      · exact Nat.le_add_right _ _
      · exact Nat.le_refl _
    exact I1.fpOk hle (I1.hok.fresh hle)
theorem walk_enumU {x : Str} : Walk (ItU x) x.cps.size (fun _ => True) (fun i H v H' => ∃ T c, v = .ref T ∧ H T = none ∧ x.cps[i]? = some c ∧ H' = upd H T (.tup [.int (i : Nat), .str ⟨#[c]⟩])) :=
  ⟨fun _ _ hi _ => hi, fun _ _ => rfl, fun _ _ _ _ _ _ y => y⟩
end
/-! ### the signs of moments -/
def sgs : List Str := [".", "+", "-", ",", "p", "m"]
def sgM : List Mv := [(0, false), (1, false), (-1, false), (0, true), (1, true), (-1, true)]
structure SignsK (K : PySem.W.Frag) (w : World) (a : Addr) : Prop where
  d : ∃ es n, KDict K w a es n ∧ KKeys es sgs
  val : ∀ (i : Nat) (z : Str) (m : Mv), sgs[i]? = some z → sgM[i]? = some m → ∃ q, PySem.W.nsIn K a z = some (some (.ref q)) ∧ ∀ H, SqT K H q [.int m.1, .bl m.2]
  no : ∀ z, z ∉ sgs → PySem.W.nsIn K a z = some none
theorem signs_of {K : PySem.W.Frag} {w : World} {a q0 q1 q2 q3 q4 q5 : Addr} {t0 t1 t2 t3 t4 t5 : Tok} {n : Nat} (low : (a == sysModules) = false)
    (hl : K.lookup a = some ⟨.type "dict", none, .dict #[⟨PyData.keyHash w.params ".", .str "." t0, .ref q0⟩, ⟨PyData.keyHash w.params "+", .str "+" t1, .ref q1⟩, ⟨PyData.keyHash w.params "-", .str "-" t2, .ref q2⟩, ⟨PyData.keyHash w.params ",", .str "," t3, .ref q3⟩, ⟨PyData.keyHash w.params "p", .str "p" t4, .ref q4⟩, ⟨PyData.keyHash w.params "m", .str "m" t5, .ref q5⟩] n, #[]⟩)
    (h0 : ∀ H, SqT K H q0 [.int 0, .bl false]) (h1 : ∀ H, SqT K H q1 [.int 1, .bl false]) (h2 : ∀ H, SqT K H q2 [.int (-1), .bl false]) (h3 : ∀ H, SqT K H q3 [.int 0, .bl true]) (h4 : ∀ H, SqT K H q4 [.int 1, .bl true]) (h5 : ∀ H, SqT K H q5 [.int (-1), .bl true]) : SignsK K w a := by
  refine ⟨⟨_, _, ⟨hl, ⟨⟨_, _, rfl, rfl⟩, ⟨_, _, rfl, rfl⟩, ⟨_, _, rfl, rfl⟩, ⟨_, _, rfl, rfl⟩, ⟨_, _, rfl, rfl⟩, ⟨_, _, rfl, rfl⟩, trivial⟩, low⟩, rfl, fun i z hz => ?_⟩, fun i z m hz hm => ?_, fun z hz => ?_⟩
  · have hi : i < 6 := (List.getElem?_eq_some_iff.mp hz).1
    have : i = 0 ∨ i = 1 ∨ i = 2 ∨ i = 3 ∨ i = 4 ∨ i = 5 := by omega
    rcases this with rfl | rfl | rfl | rfl | rfl | rfl <;> cases hz <;> exact ⟨_, _, rfl, rfl⟩
  · have hi : i < 6 := (List.getElem?_eq_some_iff.mp hz).1
    have e : ∀ x r, PySem.W.nsIn K a x = r ↔ (match ([⟨PyData.keyHash w.params ".", .str "." t0, .ref q0⟩, ⟨PyData.keyHash w.params "+", .str "+" t1, .ref q1⟩, ⟨PyData.keyHash w.params "-", .str "-" t2, .ref q2⟩, ⟨PyData.keyHash w.params ",", .str "," t3, .ref q3⟩, ⟨PyData.keyHash w.params "p", .str "p" t4, .ref q4⟩, ⟨PyData.keyHash w.params "m", .str "m" t5, .ref q5⟩] : List DictEntry).find? (·.key.isStr x) with
      | some e => some (some e.val)
      | none => some none) = r := by
      intro x r
      unfold PySem.W.nsIn
      rw [hl]
      rfl
    have : i = 0 ∨ i = 1 ∨ i = 2 ∨ i = 3 ∨ i = 4 ∨ i = 5 := by omega
    rcases this with rfl | rfl | rfl | rfl | rfl | rfl <;> cases hz <;> cases hm
    · exact ⟨q0, (e _ _).mpr rfl, h0⟩
    · exact ⟨q1, (e _ _).mpr rfl, h1⟩
    · exact ⟨q2, (e _ _).mpr rfl, h2⟩
    · exact ⟨q3, (e _ _).mpr rfl, h3⟩
    · exact ⟨q4, (e _ _).mpr rfl, h4⟩
    · exact ⟨q5, (e _ _).mpr rfl, h5⟩
  · unfold sgs at hz
    simp only [List.mem_cons, List.not_mem_nil, or_false, not_or] at hz
    have ne : ∀ x : Str, ¬ z = x → (x == z) = false := fun x h => by simpa using fun e : x = z => h e.symm
    unfold PySem.W.nsIn
    rw [hl]
    dsimp only
    rw [List.find?_cons, List.find?_cons, List.find?_cons, List.find?_cons, List.find?_cons, List.find?_cons, List.find?_nil]
    simp only [Value.isStr, ne _ hz.1, ne _ hz.2.1, ne _ hz.2.2.1, ne _ hz.2.2.2.1, ne _ hz.2.2.2.2.1, ne _ hz.2.2.2.2.2]
    rfl
theorem SignsK.get {K : PySem.W.Frag} {w : World} {a : Addr} (k : SignsK K w a) {i : Nat} {z : Str} {m : Mv} (hz : sgs[i]? = some z) (hm : sgM[i]? = some m) : ∃ q, KDct K w a z (.ref q) ∧ ∀ H, SqT K H q [.int m.1, .bl m.2] := by
  obtain ⟨es, n, D, _⟩ := k.d
  obtain ⟨q, h1, h2⟩ := k.val i z m hz hm
  exact ⟨q, ⟨es, n, .ref q, D.at_, D.lit, h1, rfl⟩, h2⟩
/-- z not in SIGNS -/
def rNotInS (K : PySem.W.Frag) (a : Addr) : R2 := fun x y H Q => ∃ (z : Str) (r : Option Value), x = .str z ∧ y = .ref a ∧ PySem.W.nsIn K a z = some r ∧ Q (.bl (!r.isSome)) H
theorem op_notInS {X : Cx} {a : Addr} {es : Array DictEntry} {n : Nat} (D : KDict X.K X.w a es n) : OpR X (compareOp .NotIn) (rNotInS X.K a) := op_notIn_kd D
/-! ### texts of rows -/
def sgC (m : Mv) : Nat := if m.2 = true then (if m.1 = 0 then 44 else if m.1 = 1 then 112 else 109) else (if m.1 = 0 then 46 else if m.1 = 1 then 43 else 45)
def txt (row : List Mv) : Str := ⟨(row.map sgC).toArray⟩
theorem txt_snoc (row : List Mv) (m : Mv) : txt (row ++ [m]) = txt row ++ ⟨#[sgC m]⟩ := by
  show (⟨((row ++ [m]).map sgC).toArray⟩ : Str) = ⟨(row.map sgC).toArray ++ #[sgC m]⟩
  rw [List.map_append]
  simp
theorem txt_len (row : List Mv) : (txt row).length = row.length := by
  show ((row.map sgC).toArray).size = _
  simp
/-- the sign of a moment -/
theorem sg_at {m : Mv} (h : m.1 = -1 ∨ m.1 = 0 ∨ m.1 = 1) : ∃ i : Nat, sgs[i]? = some (⟨#[sgC m]⟩ : Str) ∧ sgM[i]? = some m := by
  obtain ⟨t, o⟩ := m
  dsimp only at h
  rcases h with rfl | rfl | rfl <;> cases o
  · exact ⟨2, by decide +kernel, rfl⟩
  · exact ⟨5, by decide +kernel, rfl⟩
  · exact ⟨0, by decide +kernel, rfl⟩
  · exact ⟨3, by decide +kernel, rfl⟩
  · exact ⟨1, by decide +kernel, rfl⟩
  · exact ⟨4, by decide +kernel, rfl⟩
theorem eqv_mv (x m : Mv) : PyData.eqv (mvD x) (mvD m) = decide (x = m) := by
  obtain ⟨a, b⟩ := x
  obtain ⟨c, d⟩ := m
  by_cases h1 : a = c
  · subst h1
    cases b <;> cases d <;> simp [mvD, PyData.eqv, PyData.eqvAll]
  · cases b <;> cases d <;> simp [mvD, PyData.eqv, PyData.eqvAll, h1]
/-! ### the dice -/
/-- the numbers of the dice: a number below 2 ^ 31, what is left of a great number, great numbers -/
def Dice (ns : List Int) : Prop := ∃ (a b : Int) (r : List Int), ns = a :: b :: r ∧ 0 ≤ a ∧ a < 2147483647 ∧ 0 ≤ b ∧ (∀ x ∈ r, 0 < x) ∧ r.length ≤ 63
def spDice (K : PySem.W.Frag) : Sp := fun vs H Q _ => ∃ (a : Addr) (ns : List Int), vs = [.ref a, .int 0] ∧ SqL K H a (ns.map V.int) ∧ ns.length ≤ 63 ∧
  ∀ (p : Addr) (ms : List Int) (H' : Hp), H p = none → Same H H' → H' p = some (.lst (ms.map V.int)) → Dice ms → Q (.ref p) H'
/-- a draw below m: any -/
def spOff : Sp := fun vs H Q _ => ∃ (d : Addr) (ns : List Int) (m : Int), vs = [.ref d, .int m] ∧ H d = some (.lst (ns.map V.int)) ∧ Dice ns ∧ 0 < m ∧ m < 1073741824 ∧
  ∀ (v : Int) (ms : List Int), 0 ≤ v → v < m → Dice ms → Q (.int v) (upd H d (.lst (ms.map V.int)))
section
variable {P : Program} {w : World} {K : PySem.W.Frag} {mg : Str → Option Value} {base : Heap}
theorem sc_dice : FnScope ["_law_script", "_law_k", "_law_found", "_law_cell"] ["_law_script", "_law_k"] (defScope (top 32)) := ⟨rfl, rfl, rfl, by decide +kernel, rfl, by decide +kernel, by decide +kernel⟩
theorem ok_dice {f : Addr} {fd : FuncData} (F : Fun K "_law_dice" "_law_dice" (top 32) f fd) (n_abs : mg "abs" = none) : FnOk P w K mg base CX0 1 f fd ["_law_script", "_law_k"] (spDice K) := by
  have sc := sc_dice
  refine F.ok sc (fun vs H Q E h => ?_) (fun cdv A outer s H vs Q E hr h => ?_)
  · obtain ⟨a, ns, rfl, _⟩ := h
    rfl
  · obtain ⟨a, ns, rfl, hS, hlen, k⟩ := h
    refine ⟨_, (pss_cons (ps_set (i := 2) sc.nd rfl (Or.inl rfl) (pv 1))
(pss_cons (ps_for PassesOwn.never rfl (pi_list (pv 0)) (pg_name (i := 3) sc.nd rfl (Or.inl rfl))
(pss_one (ps_set (i := 2) sc.nd rfl (Or.inl rfl) (pe_op op_mod (pe_op op_add (pe_op op_mul (pv 2) pe_int) (pe_callB call_abs (by rfl) n_abs (by decide +kernel) (pa_cons (pv 3) pa_nil))) pe_int))))
(pss_one (ps_ret (pe_op op_cat (pe_lst (pa_cons (pv 2) (pa_cons pe_int pa_nil))) (pe_lc (own := [("_law_cell", 3)]) (g := gName 3) rfl sc.nd (pi_list (pv 0)) (blkOk_by (own := [("_law_cell", 3)]) (N := ["_law_script", "_law_k", "_law_found", "_law_cell"]) (sc := defScope (top 32)) (by decide +kernel)) (fun _ _ _ _ _ => (pg_name (i := 3) sc.nd rfl (Or.inl rfl))) (fun _ _ _ _ _ => (pts_one (pt_cmpR op_ge (pv 3) (pe_op op_pow pe_int pe_int) (nomark _)))) (fun _ _ _ _ _ => (pv 3)))))))), ?_⟩
    refine ⟨_, rfl, _, rfl, a, rfl, ⟨_, hS⟩, for_list (K := K) (a := a) (xs := ns.map V.int) (fun i σ H' => ∃ (f : Int) (v : Option V), σ = [some (.ref a), some (.int 0), some (.int f), v] ∧ 0 ≤ f ∧ f < 2147483647 ∧ H' = H)
      ⟨0, none, rfl, by omega, by omega, rfl⟩ (fun i σ H' _ ⟨_, _, _, _, _, e⟩ => by rw [e]; exact hS) ?_ ?_⟩
    · rintro i y σ H' hi ⟨f, v, rfl, f0, f1, rfl⟩
      obtain ⟨z, _, rfl⟩ := int_at hi
      refine ⟨_, rfl, _, _, rfl, rfl, .inl ⟨by omega, by omega⟩, _, rfl, _, rfl, _, _, rfl, rfl, _, _, rfl, rfl, (by show (0 : Int) < 2147483647; decide), ?_⟩
      exact ⟨_, _, rfl, Int.emod_nonneg _ (by decide), Int.emod_lt_of_pos _ (by decide), rfl⟩
    · rintro σ H' ⟨f, v, rfl, f0, f1, rfl⟩
      refine ⟨_, rfl, (by show 2 ≤ sizeLine; decide), fun l hl => ?_⟩
      have s1 : Same H' (upd H' l (.lst [.int f, .int 0])) := same_new hl
      refine ⟨_, rfl, a, rfl, ⟨_, s1.seq hS⟩, fun D hD => lc_list (K := K) (a := a) (xs := ns.map V.int) (fun i H2 => ∃ ms : List Int, H2 = upd (upd H' l (.lst [.int f, .int 0])) D (.lst (ms.map V.int)) ∧ (∀ x ∈ ms, 0 < x) ∧ ms.length ≤ i)
        ⟨[], rfl, by simp, by simp⟩ (fun i H2 _ ⟨ms, e, _⟩ => by rw [e]; exact (s1.trans (same_new hD)).seq hS) ?_ ?_⟩
      · rintro i y H2 hi ⟨ms, rfl, hp, hm⟩
        obtain ⟨z, hz, rfl⟩ := int_at hi
        have hil := (List.getElem?_eq_some_iff.mp hz).1
        refine ⟨rfl, _, rfl, _, _, rfl, rfl, ⟨by decide, by decide, by decide⟩, _, _, rfl, rfl, _, rfl, ?_⟩
        by_cases c : (10 : Int) ^ (18 : Int).toNat ≤ z
        · rw [decide_eq_true c]
          refine iteT ⟨_, rfl, ms.map V.int, upd_same, ?_, ms ++ [z], ?_, ?_, ?_⟩
          · rw [List.length_map]; exact small1000 (by omega)
          · rw [upd_upd, List.map_append]; rfl
          · intro x hx
            rcases List.mem_append.mp hx with hx | hx
            · exact hp x hx
            · rw [List.mem_singleton.mp hx]
              have : (10 : Int) ^ (18 : Int).toNat = 1000000000000000000 := by decide
              omega
          · rw [List.length_append, List.length_singleton]; omega
        · rw [decide_eq_false c]
          exact iteF ⟨ms, rfl, hp, by omega⟩
      · rintro H2 ⟨ms, rfl, hms, hm⟩
        rw [List.length_map] at hm
        have nl : l ≠ D := fun z => by rw [z, upd_same] at hD; cases hD
        refine ⟨l, D, [.int f, .int 0], ms.map V.int, rfl, rfl, (by rw [upd_ne nl, upd_same]), upd_same, ?_, fun p hp => ?_⟩
        · rw [List.length_map]
          exact Nat.le_of_lt (small1000 (by show 2 + ms.length ≤ 1000; omega))
        · have s2 : Same H' (upd (upd H' l (.lst [.int f, .int 0])) D (.lst (ms.map V.int))) := s1.trans (same_new hD)
          exact k p (f :: 0 :: ms) _ (s2.free hp) (s2.trans (same_new hp)) upd_same ⟨f, 0, ms, rfl, f0, f1, by omega, hms, by omega⟩
theorem sc_off : FnScope ["_law_d", "_law_most", "_law_found"] ["_law_d", "_law_most"] (defScope (top 33)) := ⟨rfl, rfl, rfl, by decide +kernel, rfl, by decide +kernel, by decide +kernel⟩
theorem ok_off {f : Addr} {fd : FuncData} (F : Fun K "_law_off" "_law_off" (top 33) f fd) (n_len : mg "len" = none) : FnOk P w K mg base CX0 1 f fd ["_law_d", "_law_most"] spOff := by
  have sc := sc_off
  refine F.ok sc (fun vs H Q E h => ?_) (fun cdv A outer s H vs Q E hr h => ?_)
  · obtain ⟨d, ns, m, rfl, _⟩ := h
    rfl
  · obtain ⟨d, ns, m, rfl, hd, hD, m0, m1, k⟩ := h
    refine ⟨_, (C8.pss_cut (ps_if (PW.pt (pw_and (pt_cmpR op_eq (pe_ix (r := rIxL K) ix_list (pv 0) pe_int (fun _ _ => rfl)) pe_int (nomark _)) (pw_and1 (pt_cmpR op_gt (pe_callB (r := rLenQ K) call_lenQ (by rfl) n_len PySem.boot_len (pa_cons (pv 0) pa_nil)) pe_int (nomark _)))))
(pss_one (ps_asg (pe_bm PySem.F.plainAttrs_list PySem.F.slot_list_pop PySem.F.type_list_pop mt_popAt (pv 0) (pa_cons pe_int pa_nil)) (pg_sub (pv 0) pe_int set_list)))
pss_nil)
(pss_cons (ps_if (pt_cmpR op_gt (pe_ix (r := rIxL K) ix_list (pv 0) pe_int (fun _ _ => rfl)) pe_int (nomark _))
(pss_cons (ps_set (i := 2) sc.nd rfl (Or.inl rfl) (pe_op op_mod (pe_ix (r := rIxL K) ix_list (pv 0) pe_int (fun _ _ => rfl)) (pv 1)))
(pss_cons (ps_asg (pe_op op_fdiv (pe_ix (r := rIxL K) ix_list (pv 0) pe_int (fun _ _ => rfl)) (pv 1)) (pg_sub (pv 0) pe_int set_list))
(pss_one (ps_ret (pv 2)))))
pss_nil)
(pss_cons (ps_asg (pe_op op_mod (pe_op op_add (pe_op op_mul (pe_ix (r := rIxL K) ix_list (pv 0) pe_int (fun _ _ => rfl)) pe_int) pe_int) pe_int) (pg_sub (pv 0) pe_int set_list))
(pss_one (ps_ret (pe_op op_mod (pe_op op_fdiv (pe_ix (r := rIxL K) ix_list (pv 0) pe_int (fun _ _ => rfl)) pe_int) (pv 1))))))), ?_⟩
    refine ⟨fun σ H' => ∃ ms : List Int, σ = [some (.ref d), some (.int m), none] ∧ H' = upd H d (.lst (ms.map V.int)) ∧ Dice ms, ?_, ?_⟩
    · obtain ⟨a, b, r, rfl, a0, a1, b0, hr', rl⟩ := hD
      refine ⟨_, rfl, d, _, _, _, rfl, rfl, SqL.of hd, at_of (j := 1) rfl rfl, rfl, _, rfl, ?_⟩
      refine ite2 (fun c => ?_) (fun c => ?_)
      · refine ⟨_, rfl, d, _, rfl, .inl (SqL.of hd), _, _, rfl, rfl, _, rfl, ?_⟩
        refine ite2 (fun c2 => ?_) (fun c2 => ?_)
        · cases r with
          | nil => simp at c2
          | cons x r =>
            refine ⟨_, rfl, .inl ⟨rfl, _, SqL.of hd⟩, d, _, 2, 2, _, rfl, rfl, hd, by decide, by decide, ?_, rfl, ?_⟩
            · show seqIndex? 2 ((a :: b :: x :: r).map V.int).length = some 2
              rw [List.length_map]
              exact seqIndex_nat (by simp)
            · refine ⟨_, rfl, d, _, 1, 1, rfl, rfl, upd_same, ixN_nat (by simp), ?_⟩
              refine ⟨a :: x :: r, rfl, by rw [upd_upd]; rfl, a, x, r, rfl, a0, a1, Int.le_of_lt (hr' x (by simp)), fun y hy => hr' y (by simp [hy]), by simp at rl; omega⟩
        · exact ⟨_, rfl, (upd_id hd).symm, a, b, r, rfl, a0, a1, b0, hr', rl⟩
      · exact ⟨_, rfl, (upd_id hd).symm, a, b, r, rfl, a0, a1, b0, hr', rl⟩
    · rintro σ H' ⟨ms, rfl, rfl, hD2⟩
      obtain ⟨a, b, r, rfl, a0, a1, b0, hr', rl⟩ := hD2
      refine ⟨_, rfl, d, _, _, _, rfl, rfl, SqL.of upd_same, at_of (j := 1) rfl rfl, _, _, rfl, rfl, _, rfl, ?_⟩
      refine ite2 (fun c => ?_) (fun c => ?_)
      · refine ⟨_, rfl, d, _, _, _, rfl, rfl, SqL.of upd_same, at_of (j := 1) rfl rfl, _, rfl, _, _, rfl, rfl, m0, ?_⟩
        refine ⟨_, rfl, d, _, _, _, rfl, rfl, SqL.of upd_same, at_of (j := 1) rfl rfl, _, rfl, _, _, rfl, rfl, ⟨m0, m1⟩, _, rfl, d, _, 1, 1, rfl, rfl, upd_same, ixN_nat (by simp), ?_⟩
        refine ⟨_, rfl, ?_⟩
        rw [upd_upd]
        exact k (b % m) (a :: b / m :: r) (Int.emod_nonneg _ (by omega)) (Int.emod_lt_of_pos _ m0) ⟨a, b / m, r, rfl, a0, a1, Int.ediv_nonneg b0 (by omega), hr', rl⟩
      · refine ⟨_, rfl, d, _, _, _, rfl, rfl, SqL.of upd_same, at_of (j := 0) rfl rfl, _, _, rfl, rfl, .inl ⟨by omega, by omega⟩, _, _, rfl, rfl, _, _, rfl, rfl, (by show (0 : Int) < 2147483647; decide), _, rfl, d, _, 0, 0, rfl, rfl, upd_same, ixN_nat (by simp), ?_⟩
        rw [upd_upd]
        refine ⟨_, rfl, d, _, _, _, rfl, rfl, SqL.of upd_same, at_of (j := 0) rfl rfl, _, _, rfl, rfl, ⟨by decide, by decide⟩, _, rfl, _, _, rfl, rfl, m0, ?_⟩
        exact k _ (((a * 48271 + 11) % 2147483647) :: b :: r) (Int.emod_nonneg _ (by omega)) (Int.emod_lt_of_pos _ m0) ⟨_, b, r, rfl, Int.emod_nonneg _ (by decide), Int.emod_lt_of_pos _ (by decide), b0, hr', rl⟩
end
/-! ### a knob -/
def spKnob : Sp := fun vs H Q _ => ∃ (d : Addr) (ns : List Int), vs = [.ref d] ∧ H d = some (.lst (ns.map V.int)) ∧ Dice ns ∧
  ∀ (g b : Int) (ms : List Int) (p : Addr), 1 ≤ g → g ≤ 6 → 0 ≤ b → b ≤ g → Dice ms → H p = none → Q (.ref p) (upd (upd H d (.lst (ms.map V.int))) p (.tup [.int g, .int b]))
section
variable {P : Program} {w : World} {K : PySem.W.Frag} {mg : Str → Option Value} {base : Heap}
theorem sc_knob : FnScope ["_law_d", "_law_gap"] ["_law_d"] (defScope (top 36)) := ⟨rfl, rfl, rfl, by decide +kernel, rfl, by decide +kernel, by decide +kernel⟩
theorem ok_knob {f : Addr} {fd : FuncData} (F : Fun K "_law_knob" "_law_knob" (top 36) f fd) (c__law_off : Cal P w K mg base 1 "_law_off" ["_law_d", "_law_most"] spOff) : FnOk P w K mg base CX0 2 f fd ["_law_d"] spKnob := by
  have sc := sc_knob
  refine F.ok sc (fun vs H Q E h => ?_) (fun cdv A outer s H vs Q E hr h => ?_)
  · obtain ⟨d, ns, rfl, _⟩ := h
    rfl
  · obtain ⟨d, ns, rfl, hd, hD, k⟩ := h
    refine ⟨_, (pss_cons (ps_set (i := 1) sc.nd rfl (Or.inl rfl) (pe_op op_add pe_int (pe_cal c__law_off (hr.mono (by first | decide | omega)) (pa_cons (pv 0) (pa_cons pe_int pa_nil)))))
(pss_one (ps_ret (pe_tup (pa_cons (pv 1) (pa_cons (pe_cal c__law_off (hr.mono (by first | decide | omega)) (pa_cons (pv 0) (pa_cons (pe_op op_add (pv 1) pe_int) pa_nil))) pa_nil)))))), ?_⟩
    refine ⟨_, rfl, d, ns, 6, rfl, hd, hD, by decide, by decide, fun v ms v0 v1 hD1 => ?_⟩
    refine ⟨_, _, rfl, rfl, ?_⟩
    refine ⟨_, rfl, _, rfl, _, rfl, _, _, rfl, rfl, d, ms, 1 + v + 1, rfl, upd_same, hD1, by omega, by omega, fun u ms2 u0 u1 hD2 => ?_⟩
    refine ⟨(by show 2 ≤ sizeLine; decide), fun p hp => ?_⟩
    rw [upd_upd] at hp ⊢
    exact k (1 + v) u ms2 p (by omega) (by omega) u0 (by omega) hD2 (by
      have n : p ≠ d := fun z => by rw [z, upd_same] at hp; cases hp
      rw [upd_ne n] at hp; exact hp)
end
/-! ### a reader -/
def spReader : Sp := fun vs H Q _ => ∃ (d : Addr) (ns : List Int), vs = [.ref d] ∧ H d = some (.lst (ns.map V.int)) ∧ Dice ns ∧
  ∀ (a s : Int) (ms : List Int) (p : Addr), 1 ≤ a → a ≤ 6 → 1 ≤ s → s ≤ 3 → Dice ms → H p = none → Q (.ref p) (upd (upd H d (.lst (ms.map V.int))) p (.tup [.int a, .int s]))
section
variable {P : Program} {w : World} {K : PySem.W.Frag} {mg : Str → Option Value} {base : Heap}
theorem sc_reader : FnScope ["_law_d"] ["_law_d"] (defScope (top 37)) := ⟨rfl, rfl, rfl, by decide +kernel, rfl, by decide +kernel, by decide +kernel⟩
theorem ok_reader {f : Addr} {fd : FuncData} (F : Fun K "_law_reader" "_law_reader" (top 37) f fd) (c__law_off : Cal P w K mg base 1 "_law_off" ["_law_d", "_law_most"] spOff) : FnOk P w K mg base CX0 2 f fd ["_law_d"] spReader := by
  have sc := sc_reader
  refine F.ok sc (fun vs H Q E h => ?_) (fun cdv A outer s H vs Q E hr h => ?_)
  · obtain ⟨d, ns, rfl, _⟩ := h
    rfl
  · obtain ⟨d, ns, rfl, hd, hD, k⟩ := h
    refine ⟨_, (pss_one (ps_ret (pe_tup (pa_cons (pe_op op_add pe_int (pe_cal c__law_off (hr.mono (by first | decide | omega)) (pa_cons (pv 0) (pa_cons pe_int pa_nil)))) (pa_cons (pe_op op_add pe_int (pe_cal c__law_off (hr.mono (by first | decide | omega)) (pa_cons (pv 0) (pa_cons pe_int pa_nil)))) pa_nil))))), ?_⟩
    refine ⟨_, rfl, d, ns, 6, rfl, hd, hD, by decide, by decide, fun v ms v0 v1 hD1 => ?_⟩
    refine ⟨_, _, rfl, rfl, _, rfl, d, ms, 3, rfl, upd_same, hD1, by decide, by decide, fun u ms2 u0 u1 hD2 => ?_⟩
    refine ⟨_, _, rfl, rfl, (by show 2 ≤ sizeLine; decide), fun p hp => ?_⟩
    rw [upd_upd] at hp ⊢
    exact k (1 + v) (1 + u) ms2 p (by omega) (by omega) (by omega) (by omega) hD2 (by
      have n : p ≠ d := fun z => by rw [z, upd_same] at hp; cases hp
      rw [upd_ne n] at hp; exact hp)
end
/-! ### what is alike itself by == -/
theorem lay_nest : ∀ (n : Nat) (d : PyData), Nest n d → d.canLay0 = true ∧ d.depth ≤ n := by
  have all : ∀ (n : Nat) (ds : List PyData), (∀ d ∈ ds, d.canLay0 = true ∧ d.depth ≤ n) → PyData.canLayAll0 ds = true ∧ PyData.depthAll ds ≤ n := by
    intro n ds
    induction ds with
    | nil => intro _; exact ⟨rfl, Nat.zero_le _⟩
    | cons d ds ih =>
      intro h
      obtain ⟨h1, h2⟩ := h d (by simp)
      obtain ⟨h3, h4⟩ := ih fun x hx => h x (by simp [hx])
      refine ⟨by simp [PyData.canLayAll0, h1, h3], ?_⟩
      show max d.depth (PyData.depthAll ds) ≤ n
      omega
  intro n
  induction n with
  | zero =>
    intro d h
    cases d with
    | none => exact ⟨rfl, Nat.le_refl _⟩
    | bool _ => exact ⟨rfl, Nat.le_refl _⟩
    | int _ => exact ⟨rfl, Nat.le_refl _⟩
    | str _ => exact ⟨h, Nat.le_refl _⟩
    | list _ => exact h.elim
    | tuple _ => exact h.elim
    | dict _ => exact h.elim
  | succ n ih =>
    intro d h
    cases d with
    | none => exact ⟨rfl, Nat.zero_le _⟩
    | bool _ => exact ⟨rfl, Nat.zero_le _⟩
    | int _ => exact ⟨rfl, Nat.zero_le _⟩
    | str _ => exact ⟨h, Nat.zero_le _⟩
    | list ds =>
      obtain ⟨h1, h2⟩ := all n ds fun d hd => ih d (h.2 d hd)
      exact ⟨by simpa [PyData.canLay0] using h1, Nat.succ_le_succ h2⟩
    | tuple ds =>
      obtain ⟨h1, h2⟩ := all n ds fun d hd => ih d (h.2 d hd)
      exact ⟨by simpa [PyData.canLay0] using h1, Nat.succ_le_succ h2⟩
    | dict _ => exact h.elim
theorem shaped_nest {n : Nat} {d : PyData} (h : Nest n d) (hn : n ≤ 64) : SeqAt.shaped d = true := by
  obtain ⟨h1, h2⟩ := lay_nest n d h
  unfold SeqAt.shaped
  rw [h1, decide_eq_true (Nat.le_trans h2 hn)]
  rfl
theorem eqv_nest {n : Nat} {d : PyData} (h : Nest n d) : PyData.eqv d d = true := SeqAt.eqv_refl d (lay_nest n d h).1
theorem nest_row {row : List Mv} (h : row.length ≤ 1000000) : Nest 2 (rowD row) := by
  refine ⟨by rw [List.length_map]; exact h, fun d hd => ?_⟩
  obtain ⟨m, _, rfl⟩ := List.mem_map.mp hd
  refine ⟨by show 2 ≤ 1000000; decide, fun x hx => ?_⟩
  simp at hx
  rcases hx with rfl | rfl <;> trivial
theorem nest_pairs {l : List (Int × Int)} (h : l.length ≤ 1000000) : Nest 2 (.list (l.map ppD)) := by
  refine ⟨by rw [List.length_map]; exact h, fun d hd => ?_⟩
  obtain ⟨m, _, rfl⟩ := List.mem_map.mp hd
  refine ⟨by show 2 ≤ 1000000; decide, fun x hx => ?_⟩
  simp at hx
  rcases hx with rfl | rfl <;> trivial
theorem smallM {n : Nat} (h : n ≤ 1000000) : n < sizeLine := by rw [sizeLine_eq]; omega
/-! ### slices, lists of ints as data -/
theorem cut_from {xs : List V} {i : Int} (h : 0 ≤ i) : cutV xs (some i) none = xs.drop i.toNat := by
  unfold cutV
  obtain ⟨n, rfl⟩ := Int.eq_ofNat_of_zero_le h
  rw [show (some (n : Int)) = some ((n : Nat) : Int) from rfl, HT.sIx_nat, HT.sIx_none, Int.toNat_natCast]
  by_cases q : n ≤ xs.length
  · rw [Nat.min_eq_left q, List.take_of_length_le (by rw [List.length_drop]; omega)]
  · rw [Nat.min_eq_right (by omega), Nat.sub_self, List.take_zero, List.drop_eq_nil_of_le (by omega)]
theorem cut_last {xs : List V} {i : Int} (h : 0 < i) : cutV xs (some (0 - i)) none = xs.drop (xs.length - i.toNat) := by
  unfold cutV
  have e : HT.sIx xs.length 0 (some (0 - i)) = xs.length - i.toNat := by
    show (if (0 - i) < 0 then ((0 - i) + (xs.length : Int)).toNat else _) = _
    rw [if_pos (by omega)]; omega
  rw [e, HT.sIx_none, List.take_of_length_le (by rw [List.length_drop]; omega)]
theorem cut_to {xs : List V} {i : Int} (h : 0 ≤ i) : cutV xs none (some i) = xs.take i.toNat := by
  unfold cutV
  obtain ⟨n, rfl⟩ := Int.eq_ofNat_of_zero_le h
  rw [show (some (n : Int)) = some ((n : Nat) : Int) from rfl, HT.sIx_nat, HT.sIx_none, Int.toNat_natCast, Nat.sub_zero, List.drop_zero]
  by_cases q : n ≤ xs.length
  · rw [Nat.min_eq_left q]
  · rw [Nat.min_eq_right (by omega), List.take_of_length_le (by omega), List.take_of_length_le (by omega)]
theorem cut_mid {xs : List V} {i j : Int} (h : 0 ≤ i) (hj : 0 ≤ j) : cutV xs (some i) (some j) = (xs.drop i.toNat).take (j.toNat - i.toNat) := by
  unfold cutV
  obtain ⟨n, rfl⟩ := Int.eq_ofNat_of_zero_le h
  obtain ⟨m, rfl⟩ := Int.eq_ofNat_of_zero_le hj
  rw [show (some (n : Int)) = some ((n : Nat) : Int) from rfl, show (some (m : Int)) = some ((m : Nat) : Int) from rfl, HT.sIx_nat, HT.sIx_nat, Int.toNat_natCast, Int.toNat_natCast]
  by_cases q : n ≤ xs.length
  · rw [Nat.min_eq_left q]
    by_cases q2 : m ≤ xs.length
    · rw [Nat.min_eq_left q2]
    · rw [Nat.min_eq_right (by omega), List.take_of_length_le (by rw [List.length_drop]; omega), List.take_of_length_le (by rw [List.length_drop]; omega)]
  · rw [show min n xs.length = xs.length by omega, List.drop_eq_nil_of_le (Nat.le_refl _), List.drop_eq_nil_of_le (show xs.length ≤ n by omega)]; simp
theorem nest_ints {ns : List Int} (h : ns.length ≤ 1000000) : Nest 1 (.list (ns.map PyData.int)) := by
  refine ⟨by rw [List.length_map]; exact h, fun d hd => ?_⟩
  obtain ⟨m, _, rfl⟩ := List.mem_map.mp hd
  trivial
theorem eqv_nil (ds : List PyData) : PyData.eqv (.list ds) (.list []) = ds.isEmpty := by
  cases ds with
  | nil => rfl
  | cons d ds => rfl
theorem dp_ints {K : PySem.W.Frag} {H : Hp} {a : Addr} {ns : List Int} (h : SqL K H a (ns.map V.int)) : Dp K H (.ref a) (.list (ns.map PyData.int)) := .lst h (dpa_ints ns)
theorem dp_nilL {K : PySem.W.Frag} {H : Hp} {a : Addr} (h : SqL K H a []) : Dp K H (.ref a) (.list []) := .lst h .nil
/-! ### isinstance -/
section
variable {K : PySem.W.Frag} {H : Hp} {σ : St} {x : V} {i : Nat} {t T : String} {b : Bool}
theorem e_isi {Q : VK} (h : σ[i]? = some (some x)) (ty : TyX K H x (.type t)) (e : kitB t T = some b) (q : Q (.bl b) H) : tCB (rIsi K) (tCons (tVar i) (tCons (tC (.ty T)) tNil)) σ H Q :=
  ⟨x, h, x, .ty T, .type t, .type T, b, rfl, .ty T, ty, kit_ty e, q⟩
theorem t_isi {Q : Bool → Hp → Prop} (h : σ[i]? = some (some x)) (ty : TyX K H x (.type t)) (e : kitB t T = some b) (q : Q b H) : tB (tCB (rIsi K) (tCons (tVar i) (tCons (tC (.ty T)) tNil))) σ H Q :=
  e_isi h ty e ⟨b, rfl, q⟩
theorem t_isi2 {Q : Bool → Hp → Prop} {j : Nat} {y : V} (h : σ[i]? = some (some x)) (h' : σ[j]? = some (some y)) (ty : TyX K H x (.type t)) (ty' : TyX K H y (.type t)) (e : kitB t T = some b) (q : Q false H) :
    tTest (tOp rNe (tCB (rIsi K) (tCons (tVar i) (tCons (tC (.ty T)) tNil))) (tCB (rIsi K) (tCons (tVar j) (tCons (tC (.ty T)) tNil)))) σ H Q := by
  refine e_isi h ty e (e_isi h' ty' e ⟨rfl, _, rfl, ?_⟩)
  rw [decide_eq_true rfl]
  exact q
end
/-! ### data that are alike -/
/-- alike of two readings of one thing -/
def spAlike (K : PySem.W.Frag) : Nat → Sp
  | 0 => fun _ _ _ _ => False
  | n + 1 => fun vs H Q _ => ∃ (v u : V) (d : PyData), vs = [v, u] ∧ Dp K H v d ∧ Dp K H u d ∧ Nest n d ∧ ∀ H', Same H H' → Q (.bl true) H'
section
variable {P : Program} {w : World} {K : PySem.W.Frag} {mg : Str → Option Value} {base : Heap}
theorem sc_alike : FnScope ["_law_found", "_law_due", "_law_k"] ["_law_found", "_law_due"] (defScope (top 34)) := ⟨rfl, rfl, rfl, by decide +kernel, rfl, by decide +kernel, by decide +kernel⟩
theorem ok_alike0 {f : Addr} {fd : FuncData} (F : Fun K "_law_alike" "_law_alike" (top 34) f fd) : FnOk P w K mg base CX0 1 f fd ["_law_found", "_law_due"] (spAlike K 0) :=
  F.ok sc_alike (fun vs H Q E h => h.elim) (fun cdv A outer s H vs Q E hr h => h.elim)
theorem ok_alikeS {f : Addr} {fd : FuncData} {n : Nat} (F : Fun K "_law_alike" "_law_alike" (top 34) f fd) (c__law_alike : Cal P w K mg base (n + 1) "_law_alike" ["_law_found", "_law_due"] (spAlike K n))
    (n_isinstance : mg "isinstance" = none) (n_bool : mg "bool" = none) (n_int : mg "int" = none) (n_str : mg "str" = none) (n_tuple : mg "tuple" = none) (n_list : mg "list" = none) (n_len : mg "len" = none) (n_all : mg "all" = none) (n_range : mg "range" = none) :
    FnOk P w K mg base CX0 (n + 2) f fd ["_law_found", "_law_due"] (spAlike K (n + 1)) := by
  have sc := sc_alike
  refine F.ok sc (fun vs H Q E h => ?_) (fun cdv A outer s H vs Q E hr h => ?_)
  · obtain ⟨v, u, d, rfl, _⟩ := h
    rfl
  · obtain ⟨v, u, d, rfl, hv, hu, hN, k⟩ := h
    refine ⟨_, (pss_cons (ps_if (pt_cmpR op_isN (pv 1) pe_non (nomark _))
(pss_one (ps_ret (pe_cmpR op_isN (pv 0) pe_non (nomark _))))
pss_nil)
(pss_cons (ps_if (pt_val (pe_callB (r := rIsi K) call_isi (by rfl) n_isinstance (by decide +kernel) (pa_cons (pv 1) (pa_cons (pe_bltn (v := .ty "bool") (by rfl) n_bool (by decide +kernel) rfl) pa_nil))))
(pss_one (ps_ret (pe_and (pe_callB (r := rIsi K) call_isi (by rfl) n_isinstance (by decide +kernel) (pa_cons (pv 0) (pa_cons (pe_bltn (v := .ty "bool") (by rfl) n_bool (by decide +kernel) rfl) pa_nil))) (pe_one (pe_cmpR op_eq (pv 0) (pv 1) (nomark _))))))
pss_nil)
(pss_cons (ps_if (pt_val (pe_callB (r := rIsi K) call_isi (by rfl) n_isinstance (by decide +kernel) (pa_cons (pv 1) (pa_cons (pe_bltn (v := .ty "int") (by rfl) n_int (by decide +kernel) rfl) pa_nil))))
(pss_one (ps_ret (pe_and (pe_callB (r := rIsi K) call_isi (by rfl) n_isinstance (by decide +kernel) (pa_cons (pv 0) (pa_cons (pe_bltn (v := .ty "int") (by rfl) n_int (by decide +kernel) rfl) pa_nil))) (pe_and (pe_not (pe_callB (r := rIsi K) call_isi (by rfl) n_isinstance (by decide +kernel) (pa_cons (pv 0) (pa_cons (pe_bltn (v := .ty "bool") (by rfl) n_bool (by decide +kernel) rfl) pa_nil)))) (pe_one (pe_cmpR op_eq (pv 0) (pv 1) (nomark _)))))))
pss_nil)
(pss_cons (ps_if (pt_val (pe_callB (r := rIsi K) call_isi (by rfl) n_isinstance (by decide +kernel) (pa_cons (pv 1) (pa_cons (pe_bltn (v := .ty "str") (by rfl) n_str (by decide +kernel) rfl) pa_nil))))
(pss_one (ps_ret (pe_and (pe_callB (r := rIsi K) call_isi (by rfl) n_isinstance (by decide +kernel) (pa_cons (pv 0) (pa_cons (pe_bltn (v := .ty "str") (by rfl) n_str (by decide +kernel) rfl) pa_nil))) (pe_one (pe_cmpR op_eq (pv 0) (pv 1) (nomark _))))))
pss_nil)
(pss_cons (ps_if (PW.pt (pw_or (pt_cmpR op_ne (pe_callB (r := rIsi K) call_isi (by rfl) n_isinstance (by decide +kernel) (pa_cons (pv 1) (pa_cons (pe_bltn (v := .ty "tuple") (by rfl) n_tuple (by decide +kernel) rfl) pa_nil))) (pe_callB (r := rIsi K) call_isi (by rfl) n_isinstance (by decide +kernel) (pa_cons (pv 0) (pa_cons (pe_bltn (v := .ty "tuple") (by rfl) n_tuple (by decide +kernel) rfl) pa_nil))) (nomark _)) (pw_or1 (pt_cmpR op_ne (pe_callB (r := rIsi K) call_isi (by rfl) n_isinstance (by decide +kernel) (pa_cons (pv 1) (pa_cons (pe_bltn (v := .ty "list") (by rfl) n_list (by decide +kernel) rfl) pa_nil))) (pe_callB (r := rIsi K) call_isi (by rfl) n_isinstance (by decide +kernel) (pa_cons (pv 0) (pa_cons (pe_bltn (v := .ty "list") (by rfl) n_list (by decide +kernel) rfl) pa_nil))) (nomark _)))))
(pss_one (ps_ret pe_bl))
pss_nil)
(pss_cons (ps_if (pt_cmpR op_ne (pe_callB (r := rLenQ K) call_lenQ (by rfl) n_len PySem.boot_len (pa_cons (pv 0) pa_nil)) (pe_callB (r := rLenQ K) call_lenQ (by rfl) n_len PySem.boot_len (pa_cons (pv 1) pa_nil)) (nomark _))
(pss_one (ps_ret pe_bl))
pss_nil)
(pss_one (ps_ret (pe_callB (r := rAll K) (cr_all rfl) (by rfl) n_all (by decide +kernel) (pa_cons (pe_lc (own := [("_law_k", 2)]) (g := gName 2) rfl sc.nd (pi_range1 rfl n_range (pa_cons (pe_callB (r := rLenQ K) call_lenQ (by rfl) n_len PySem.boot_len (pa_cons (pv 1) pa_nil)) pa_nil)) (blkOk_by (own := [("_law_k", 2)]) (N := ["_law_found", "_law_due", "_law_k"]) (sc := defScope (top 34)) (by decide +kernel)) (fun _ _ _ _ _ => (pg_name (i := 2) sc.nd rfl (Or.inl rfl))) (fun _ _ _ _ _ => pts_nil) (fun _ _ _ _ _ => (pe_cal c__law_alike (hr.mono (by first | decide | omega)) (pa_cons (pe_ix (r := rIx K) ix_seq (pv 0) (pv 2) (fun _ _ => rfl)) (pa_cons (pe_ix (r := rIx K) ix_seq (pv 1) (pv 2) (fun _ _ => rfl)) pa_nil))))) pa_nil)))))))))), ?_⟩
    refine ⟨_, rfl, rfl, _, rfl, ?_⟩
    cases d with
    | none =>
      cases hv; cases hu
      exact iteDT rfl ⟨_, rfl, rfl, by rw [decide_eq_true rfl]; exact k H (Same.refl H)⟩
    | bool b =>
      cases hv; cases hu
      refine iteDF (by simp) (t_isi (t := "bool") (b := true) rfl (.base (.bl b)) (by decide +kernel) (iteT ?_))
      refine e_isi (t := "bool") (b := true) rfl (.base (.bl b)) (by decide +kernel) ⟨_, rfl, iteT ⟨_, rfl, _, rfl, rfl, ?_⟩⟩
      rw [decide_eq_true rfl]; exact k H (Same.refl H)
    | int b =>
      cases hv; cases hu
      refine iteDF (by simp) (t_isi (t := "int") (b := false) rfl (.base (.int b)) (by decide +kernel) (iteF ?_))
      refine t_isi (t := "int") (b := true) rfl (.base (.int b)) (by decide +kernel) (iteT ?_)
      refine e_isi (t := "int") (b := true) rfl (.base (.int b)) (by decide +kernel) ⟨_, rfl, iteT ?_⟩
      refine e_isi (t := "int") (b := false) rfl (.base (.int b)) (by decide +kernel) ⟨_, rfl, _, rfl, iteT ⟨_, rfl, _, rfl, rfl, ?_⟩⟩
      rw [decide_eq_true rfl]; exact k H (Same.refl H)
    | str b =>
      cases hv; cases hu
      refine iteDF (by simp) (t_isi (t := "str") (b := false) rfl (.base (.str b)) (by decide +kernel) (iteF ?_))
      refine t_isi (t := "str") (b := false) rfl (.base (.str b)) (by decide +kernel) (iteF ?_)
      refine t_isi (t := "str") (b := true) rfl (.base (.str b)) (by decide +kernel) (iteT ?_)
      refine e_isi (t := "str") (b := true) rfl (.base (.str b)) (by decide +kernel) ⟨_, rfl, iteT ⟨_, rfl, _, rfl, rfl, ?_⟩⟩
      rw [decide_eq_true rfl]; exact k H (Same.refl H)
    | list ds =>
      obtain ⟨a, xs, rfl, hL, hX⟩ := dp_lst hv
      obtain ⟨b, ys, rfl, hM, hY⟩ := dp_lst hu
      have ta := ty_lst hL
      have tb := ty_lst hM
      have lx := dpa_length hX
      have ly := dpa_length hY
      refine iteDF (by simp) (t_isi (t := "list") (b := false) rfl tb (by decide +kernel) (iteF ?_))
      refine t_isi (t := "list") (b := false) rfl tb (by decide +kernel) (iteF ?_)
      refine t_isi (t := "list") (b := false) rfl tb (by decide +kernel) (iteF ?_)
      refine t_isi2 (t := "list") (b := false) rfl rfl tb ta (by decide +kernel) (iteF ?_)
      refine t_isi2 (t := "list") (b := true) rfl rfl tb ta (by decide +kernel) (iteF ?_)
      refine ⟨_, rfl, a, xs, rfl, .inl hL, _, rfl, b, ys, rfl, .inl hM, rfl, _, rfl, iteNS (vint_eq (by omega)) ?_⟩
      match n, hN, c__law_alike, hr with
      | n + 1, hN, c__law_alike, hr =>
      obtain ⟨hl, hN⟩ := hN
      refine ⟨_, rfl, b, ys, rfl, .inl hM, _, rfl, by omega, by omega, fun D hD => lc_range (lo := 0) (n := ((ys.length : Nat) : Int).toNat) (fun i H' => Same H H' ∧ H' D = some (.lst (List.replicate i (V.bl true)))) ⟨same_new hD, upd_same⟩ ?_ ?_⟩
      · rintro i H1 hi ⟨hs, hd1⟩
        have hiy : i < ys.length := by omega
        have hix : i < xs.length := by omega
        obtain ⟨d1, e1, q1⟩ := dpa_get hX (List.getElem?_eq_getElem hix)
        obtain ⟨d2, e2, q2⟩ := dpa_get hY (List.getElem?_eq_getElem hiy)
        rw [e1] at e2
        cases e2
        refine ⟨rfl, _, rfl, _, rfl, .inl ⟨a, xs, _, _, rfl, rfl, hs.seq hL, at_of (j := i) (by omega) (List.getElem?_eq_getElem hix), _, rfl, _, rfl, .inl ⟨b, ys, _, _, rfl, rfl, hs.seq hM, at_of (j := i) (by omega) (List.getElem?_eq_getElem hiy), ?_⟩⟩⟩
        refine ⟨_, _, d1, rfl, dp_same hs q1, dp_same hs q2, hN d1 (List.mem_of_getElem? e1), fun H2 hs2 => ?_⟩
        refine ⟨_, hs2 _ _ hd1, smallM (by rw [List.length_replicate]; omega), same_put hD (hs.trans hs2), ?_⟩
        rw [upd_same, List.replicate_succ']
      · rintro H1 ⟨hs, hd1⟩
        refine ⟨D, List.replicate ((ys.length : Nat) : Int).toNat true, rfl, SqL.of (by rw [hd1, List.map_replicate]), ?_⟩
        rw [List.all_replicate]
        show Q (.bl (if _ then true else true)) _
        rw [ite_self]
        exact k _ hs
    | tuple ds =>
      obtain ⟨a, xs, rfl, hL, hX⟩ := dp_tup hv
      obtain ⟨b, ys, rfl, hM, hY⟩ := dp_tup hu
      have ta := ty_tup hL
      have tb := ty_tup hM
      have lx := dpa_length hX
      have ly := dpa_length hY
      refine iteDF (by simp) (t_isi (t := "tuple") (b := false) rfl tb (by decide +kernel) (iteF ?_))
      refine t_isi (t := "tuple") (b := false) rfl tb (by decide +kernel) (iteF ?_)
      refine t_isi (t := "tuple") (b := false) rfl tb (by decide +kernel) (iteF ?_)
      refine t_isi2 (t := "tuple") (b := true) rfl rfl tb ta (by decide +kernel) (iteF ?_)
      refine t_isi2 (t := "tuple") (b := false) rfl rfl tb ta (by decide +kernel) (iteF ?_)
      refine ⟨_, rfl, a, xs, rfl, .inr hL, _, rfl, b, ys, rfl, .inr hM, rfl, _, rfl, iteNS (vint_eq (by omega)) ?_⟩
      match n, hN, c__law_alike, hr with
      | n + 1, hN, c__law_alike, hr =>
      obtain ⟨hl, hN⟩ := hN
      refine ⟨_, rfl, b, ys, rfl, .inr hM, _, rfl, by omega, by omega, fun D hD => lc_range (lo := 0) (n := ((ys.length : Nat) : Int).toNat) (fun i H' => Same H H' ∧ H' D = some (.lst (List.replicate i (V.bl true)))) ⟨same_new hD, upd_same⟩ ?_ ?_⟩
      · rintro i H1 hi ⟨hs, hd1⟩
        have hiy : i < ys.length := by omega
        have hix : i < xs.length := by omega
        obtain ⟨d1, e1, q1⟩ := dpa_get hX (List.getElem?_eq_getElem hix)
        obtain ⟨d2, e2, q2⟩ := dpa_get hY (List.getElem?_eq_getElem hiy)
        rw [e1] at e2
        cases e2
        refine ⟨rfl, _, rfl, _, rfl, .inr (.inl ⟨a, xs, _, _, rfl, rfl, same_seqT hs hL, at_of (j := i) (by omega) (List.getElem?_eq_getElem hix), _, rfl, _, rfl, .inr (.inl ⟨b, ys, _, _, rfl, rfl, same_seqT hs hM, at_of (j := i) (by omega) (List.getElem?_eq_getElem hiy), ?_⟩)⟩)⟩
        refine ⟨_, _, d1, rfl, dp_same hs q1, dp_same hs q2, hN d1 (List.mem_of_getElem? e1), fun H2 hs2 => ?_⟩
        refine ⟨_, hs2 _ _ hd1, smallM (by rw [List.length_replicate]; omega), same_put hD (hs.trans hs2), ?_⟩
        rw [upd_same, List.replicate_succ']
      · rintro H1 ⟨hs, hd1⟩
        refine ⟨D, List.replicate ((ys.length : Nat) : Int).toNat true, rfl, SqL.of (by rw [hd1, List.map_replicate]), ?_⟩
        rw [List.all_replicate]
        show Q (.bl (if _ then true else true)) _
        rw [ite_self]
        exact k _ hs
    | dict _ => cases hv
end
/-! ### PAIRS -/
structure PairsK (K : PySem.W.Frag) (aP p0 p1 p2 p3 : Addr) : Prop where
  ty : ∃ o, K.lookup aP = some o ∧ o.cls = .type "tuple" ∧ o.dict = none
  all : ∀ H, SqT K H aP [.ref p0, .ref p1, .ref p2, .ref p3]
  q0 : ∀ H, SqT K H p0 [.int 0, .int 0]
  q1 : ∀ H, SqT K H p1 [.int 0, .int 1]
  q2 : ∀ H, SqT K H p2 [.int 1, .int 1]
  q3 : ∀ H, SqT K H p3 [.int 1, .int 0]
theorem PairsK.at {K : PySem.W.Frag} {aP p0 p1 p2 p3 : Addr} (k : PairsK K aP p0 p1 p2 p3) (z : Int) : ∃ p, atI [V.ref p0, .ref p1, .ref p2, .ref p3] (z % 4) = some (.ref p) ∧ ∀ H, Dp K H (.ref p) (ppD (pr z)) := by
  unfold pr
  rcases mod4 z with h | h | h | h <;> rw [h]
  · exact ⟨p0, rfl, fun H => .tup (k.q0 H) (dpa_ii 0 0)⟩
  · exact ⟨p1, rfl, fun H => .tup (k.q1 H) (dpa_ii 0 1)⟩
  · exact ⟨p2, rfl, fun H => .tup (k.q2 H) (dpa_ii 1 1)⟩
  · exact ⟨p3, rfl, fun H => .tup (k.q3 H) (dpa_ii 1 0)⟩
theorem knT_of {K : PySem.W.Frag} {aP : Addr} {oc : Value} {od : Option Addr} {its : Array Value} {n : Nat} {sl : Array (Option Value)} {xs : List V} (h : K.lookup aP = some ⟨oc, od, .seq its n, sl⟩) (c : oc = .type "tuple") (z : its.size ≤ sizeLine) (r : Vals xs its.toList) (H : Hp) : SqT K H aP xs :=
  .inr ⟨_, its, n, h, c, rfl, z, r⟩
/-! ### need_knob -/
def spNeedKnob (K : PySem.W.Frag) : Sp := fun vs H Q _ => ∃ (v : V) (g b : Int), vs = [v] ∧ Dp K H v (knD g b) ∧ 1 ≤ g ∧ g ≤ 6 ∧ 0 ≤ b ∧ b ≤ g ∧ Q .non H
section
variable {P : Program} {w : World} {K : PySem.W.Frag} {mg : Str → Option Value} {base : Heap}
theorem sc_need_knob : FnScope ["knob", "gap", "bounce"] ["knob"] (defScope (top 12)) := ⟨rfl, rfl, rfl, by decide +kernel, rfl, by decide +kernel, by decide +kernel⟩
theorem ok_need_knob {f : Addr} {fd : FuncData} {t1 : Tok} (F : Fun K "need_knob" "need_knob" (top 12) f fd) (g_MOST_GAP : mg "MOST_GAP" = some (.int 6 t1)) : FnOk P w K mg base CX0 1 f fd ["knob"] (spNeedKnob K) := by
  have sc := sc_need_knob
  refine F.ok sc (fun vs H Q E h => ?_) (fun cdv A outer s H vs Q E hr h => ?_)
  · obtain ⟨v, g, b, rfl, _⟩ := h
    rfl
  · obtain ⟨v, g, b, rfl, hd, g1, g6, b0, b1, k⟩ := h
    obtain ⟨a, rfl, hT⟩ := dp_ii hd
    refine ⟨_, (pss_cons (ps_asg (pv 0) (pg_tup rfl (pgs_cons (pg_name (i := 1) sc.nd rfl (Or.inl rfl)) (pgs_cons (pg_name (i := 2) sc.nd rfl (Or.inl rfl)) pgs_nil))))
(pss_cons (ps_if (pt_not (pt_chain op_le op_le pe_int (pv 1) (pe_glob (v := .int 6) rfl g_MOST_GAP ⟨_, rfl⟩)))
(pss_one ps_never)
pss_nil)
(pss_one (ps_if (pt_not (pt_chain op_le op_le pe_int (pv 2) (pv 1)))
(pss_one ps_never)
pss_nil)))), ?_⟩
    refine ⟨_, rfl, a, _, rfl, hT, rfl, _, _, rfl, _, _, rfl, rfl, ?_⟩
    refine ⟨_, rfl, _, _, rfl, rfl, _, rfl, ?_⟩
    rw [decide_eq_true g1]
    refine iteT ⟨_, _, rfl, rfl, _, rfl, ?_⟩
    rw [decide_eq_true g6]
    refine iteF ?_
    refine ⟨_, rfl, _, _, rfl, rfl, _, rfl, ?_⟩
    rw [decide_eq_true b0]
    refine iteT ⟨_, rfl, _, _, rfl, rfl, _, rfl, ?_⟩
    rw [decide_eq_true b1]
    exact iteF k
end
/-! ### need_reader -/
def spNeedReader (K : PySem.W.Frag) : Sp := fun vs H Q _ => ∃ (v : V) (a s : Int), vs = [v] ∧ Dp K H v (knD a s) ∧ 1 ≤ a ∧ a ≤ 6 ∧ 1 ≤ s ∧ s ≤ 3 ∧ Q .non H
section
variable {P : Program} {w : World} {K : PySem.W.Frag} {mg : Str → Option Value} {base : Heap}
theorem sc_need_reader : FnScope ["reader", "apart", "same"] ["reader"] (defScope (top 13)) := ⟨rfl, rfl, rfl, by decide +kernel, rfl, by decide +kernel, by decide +kernel⟩
theorem ok_need_reader {f : Addr} {fd : FuncData} {t1 t2 : Tok} (F : Fun K "need_reader" "need_reader" (top 13) f fd) (g_MOST_APART : mg "MOST_APART" = some (.int 6 t1)) (g_MOST_SAME : mg "MOST_SAME" = some (.int 3 t2)) : FnOk P w K mg base CX0 1 f fd ["reader"] (spNeedReader K) := by
  have sc := sc_need_reader
  refine F.ok sc (fun vs H Q E h => ?_) (fun cdv A outer s H vs Q E hr h => ?_)
  · obtain ⟨v, g, b, rfl, _⟩ := h
    rfl
  · obtain ⟨v, g, b, rfl, hd, g1, g6, b0, b1, k⟩ := h
    obtain ⟨a, rfl, hT⟩ := dp_ii hd
    refine ⟨_, (pss_cons (ps_asg (pv 0) (pg_tup rfl (pgs_cons (pg_name (i := 1) sc.nd rfl (Or.inl rfl)) (pgs_cons (pg_name (i := 2) sc.nd rfl (Or.inl rfl)) pgs_nil))))
(pss_cons (ps_if (pt_not (pt_chain op_le op_le pe_int (pv 1) (pe_glob (v := .int 6) rfl g_MOST_APART ⟨_, rfl⟩)))
(pss_one ps_never)
pss_nil)
(pss_one (ps_if (pt_not (pt_chain op_le op_le pe_int (pv 2) (pe_glob (v := .int 3) rfl g_MOST_SAME ⟨_, rfl⟩)))
(pss_one ps_never)
pss_nil)))), ?_⟩
    refine ⟨_, rfl, a, _, rfl, hT, rfl, _, _, rfl, _, _, rfl, rfl, ?_⟩
    refine ⟨_, rfl, _, _, rfl, rfl, _, rfl, ?_⟩
    rw [decide_eq_true g1]
    refine iteT ⟨_, _, rfl, rfl, _, rfl, ?_⟩
    rw [decide_eq_true g6]
    refine iteF ?_
    refine ⟨_, rfl, _, _, rfl, rfl, _, rfl, ?_⟩
    rw [decide_eq_true b0]
    refine iteT ⟨_, _, rfl, rfl, _, rfl, ?_⟩
    rw [decide_eq_true b1]
    exact iteF k
end
def spPos (K : PySem.W.Frag) : Sp := fun vs H Q _ => ∃ (u : V) (row : List Mv) (ps : List Addr), vs = [u] ∧ Live ps H ∧ Dp K (Fz ps H) u (rowD row) ∧ row.length ≤ 1000 ∧
  ∀ (p : Addr) (xs : List V) (H' : Hp), H p = none → Same H H' → H' p = some (.lst xs) → DpAll K (Fz (p :: ps) H') xs ((plcs row).map ppD) → Q (.ref p) H'
/-! ### need_row of what is one; positions -/
def spNeedRow (K : PySem.W.Frag) : Sp := fun vs H Q _ => ∃ (v u : V) (g b : Int) (row : List Mv), vs = [v, u] ∧ Dp K H v (knD g b) ∧ Dp K H u (rowD row) ∧ Good g b row ∧ ∀ H', Same H H' → Q .non H'
section
variable {P : Program} {w : World} {K : PySem.W.Frag} {mg : Str → Option Value} {base : Heap}
theorem sc_need_row : FnScope ["knob", "row", "gap", "bounce", "since", "turned", "at", "turn", "old"] ["knob", "row"] (defScope (top 14)) := ⟨rfl, rfl, rfl, by decide +kernel, rfl, by decide +kernel, by decide +kernel⟩
theorem ok_need_row {f : Addr} {fd : FuncData} {t1 : Tok} (F : Fun K "need_row" "need_row" (top 14) f fd) (g_MOST_ROW : mg "MOST_ROW" = some (.int 200 t1)) (n_enumerate : mg "enumerate" = none) (n_min : mg "min" = none) : FnOk P w K mg base CX0 1 f fd ["knob", "row"] (spNeedRow K) := by
  have sc := sc_need_row
  refine F.ok sc (fun vs H Q E h => ?_) (fun cdv A outer s H vs Q E hr h => ?_)
  · obtain ⟨v, u, g, b, row, rfl, _⟩ := h
    rfl
  · obtain ⟨v, u, g, b, row, rfl, hd, hrow, hG, k⟩ := h
    obtain ⟨a, rfl, hT⟩ := dp_ii hd
    obtain ⟨l, xs, rfl, hL, hX⟩ := dp_lst hrow
    have hxl : xs.length = row.length := by rw [dpa_length hX, List.length_map]
    refine ⟨_, (pss_cons (ps_asg (pv 0) (pg_tup rfl (pgs_cons (pg_name (i := 2) sc.nd rfl (Or.inl rfl)) (pgs_cons (pg_name (i := 3) sc.nd rfl (Or.inl rfl)) pgs_nil))))
(pss_cons (ps_set (i := 4) sc.nd rfl (Or.inl rfl) (pv 2))
(pss_cons (ps_set (i := 5) sc.nd rfl (Or.inl rfl) pe_bl)
(pss_one (ps_for PassesOwn.never rfl (pi_enum (by rfl) n_enumerate (pa_cons (pv 1) pa_nil)) (pg_tup rfl (pgs_cons (pg_name (i := 6) sc.nd rfl (Or.inl rfl)) (pgs_cons (pg_tup rfl (pgs_cons (pg_name (i := 7) sc.nd rfl (Or.inl rfl)) (pgs_cons (pg_name (i := 8) sc.nd rfl (Or.inl rfl)) pgs_nil))) pgs_nil)))
(pss_cons (ps_if (PW.pt (pw_or (pt_cmpR op_ge (pv 6) (pe_glob (v := .int 200) rfl g_MOST_ROW ⟨_, rfl⟩) (nomark _)) (pw_or (pt_cmpR (r := rIn K true) op_notIn_seq (pv 7) (pe_tup (pa_cons (pe_un un_neg pe_int) (pa_cons pe_int (pa_cons pe_int pa_nil)))) (by rfl)) (pw_or1 (PW.pt (pw_and (pt_cmpR op_ne (pv 7) pe_int (nomark _)) (pw_and1 (pt_cmpR op_lt (pv 4) (pv 2) (nomark _)))))))))
(pss_one ps_never)
pss_nil)
(C8.pss_cut (ps_if (pt_cmpR op_ne (pv 7) pe_int (nomark _))
(pss_cons (ps_set (i := 4) sc.nd rfl (Or.inl rfl) pe_int)
(pss_one (ps_set (i := 5) sc.nd rfl (Or.inl rfl) pe_bl)))
pss_nil)
(pss_cons (ps_if (PW.pt (pw_and (pt_val (pv 8)) (pw_and1 (PW.pt (pw_or (pt_not (pt_val (pv 5))) (pw_or1 (pt_cmpR op_ge (pv 4) (pv 3) (nomark _))))))))
(pss_one ps_never)
pss_nil)
(pss_one (ps_set (i := 4) sc.nd rfl (Or.inl rfl) (pe_callB (call_min2 rfl) (by rfl) n_min (by decide +kernel) (pa_cons (pv 2) (pa_cons (pe_op op_add (pv 4) pe_int) pa_nil))))))))))))), ?_⟩
    refine ⟨_, rfl, a, _, rfl, hT, rfl, _, _, rfl, _, _, rfl, rfl, ?_⟩
    refine ⟨_, rfl, ?_⟩
    refine ⟨_, rfl, l, xs, rfl, hL, for_it (walk_enum (xs := xs)) (fun i σ H' => ∃ v1 v2 v3, σ = [some (.ref a), some (.ref l), some (.int g), some (.int b), some (.int (rst g (row.take i)).1), some (.bl (rst g (row.take i)).2), v1, v2, v3] ∧ Same H H')
      ⟨none, none, none, rfl, Same.refl H⟩ (fun i σ H' _ ⟨_, _, _, _, e⟩ => e.seq hL) ?_ ?_⟩
    · rintro i x σ H1 H2 hi ⟨v1, v2, v3, rfl, hs⟩ ⟨T, y, z, rfl, hT0, rfl, hy, hz⟩
      cases hy
      obtain ⟨m, hm, hz2⟩ := dpa_map_at (dpa_same hs hX) hz
      have hz3 := dp_same (same_new hT0 (o := .tup [.int ((i : Nat) : Int), z])) hz2
      obtain ⟨q, rfl, hq⟩ := dp_ib hz3
      have ok := hG.ok i m hm
      have hi200 : i < 200 := by have := hG.len; omega
      refine ⟨T, _, rfl, SqT.of upd_same, rfl, _, _, rfl, _, _, rfl, ?_⟩
      refine ⟨q, _, rfl, hq, rfl, _, _, rfl, _, _, rfl, rfl, rfl, ?_⟩
      have e0 : (rst g (row.take (i + 1))) = stp g (rst g (row.take i)) m := rst_snoc hm
      refine ⟨_, rfl, _, _, rfl, rfl, _, rfl, ?_⟩
      rw [decide_eq_false (show ¬ (200 : Int) ≤ (i : Nat) by omega)]
      refine iteF ⟨_, rfl, _, rfl, (by show 3 ≤ sizeLine; decide), fun tp htp => ?_⟩
      have s2 : Same H (upd (upd H1 T (.tup [.int ((i : Nat) : Int), .ref q])) tp (.tup [.int (-1), .int 0, .int 1])) := (hs.trans (same_new hT0)).trans (same_new htp)
      refine ⟨tp, _, rfl, .inr (SqT.of upd_same), rfl, rfl, _, rfl, ?_⟩
      refine iteBF ?_ ?_
      · show (!(inV (V.int m.1) [V.int (-1), V.int 0, V.int 1])) = false
        rcases ok.turn with h | h | h <;> rw [h] <;> decide
      have third : ∀ {R : Bool → Hp → Prop} {σ : St} {Hq : Hp}, σ[7]? = some (some (.int m.1)) → σ[4]? = some (some (.int (rst g (row.take i)).1)) → σ[2]? = some (some (.int g)) → R false Hq →
          tAnd (tTest (tOp rNe (tVar 7) (tC (.int 0)))) (tTest (tOp (rI0 fun i j => .bl (decide (i < j))) (tVar 4) (tVar 2))) σ Hq R := by
        intro R σ Hq h7 h4 h2 hR
        refine ⟨_, h7, rfl, _, rfl, ?_⟩
        by_cases h0 : m.1 = 0
        · exact iteNS (vint_eq h0) hR
        · refine iteNT (vint_ne h0) ⟨_, h4, _, h2, _, _, rfl, rfl, _, rfl, ?_⟩
          rw [decide_eq_false (show ¬ (rst g (row.take i)).1 < g by have := ok.soon h0; omega)]
          exact hR
      refine third rfl rfl rfl (iteF ?_)
      refine ⟨fun σ H' => σ = [some (.ref a), some (.ref l), some (.int g), some (.int b), some (.int (if m.1 = 0 then (rst g (row.take i)).1 else 0)), some (.bl ((rst g (row.take i)).2 || decide (m.1 ≠ 0))), some (.int ((i : Nat) : Int)), some (.int m.1), some (.bl m.2)] ∧ Same H H', ?_, ?_⟩
      · refine ⟨_, rfl, rfl, _, rfl, ?_⟩
        by_cases h0 : m.1 = 0
        · refine iteNS (vint_eq h0) ⟨?_, s2⟩
          rw [if_pos h0, decide_eq_false (show ¬ m.1 ≠ 0 from fun z => z h0), Bool.or_false]
          rfl
        · refine iteNT (vint_ne h0) ⟨?_, s2⟩
          rw [if_neg h0, decide_eq_true (show m.1 ≠ 0 from h0), Bool.or_true]
          rfl
      · rintro σ H' ⟨rfl, s3⟩
        refine ⟨_, rfl, _, rfl, ?_⟩
        have fin : ∃ v1 v2 v3, [some (V.ref a), some (V.ref l), some (.int g), some (.int b), some (.int (if (if m.1 = 0 then (rst g (row.take i)).1 else 0) + 1 < g then (if m.1 = 0 then (rst g (row.take i)).1 else 0) + 1 else g)), some (.bl ((rst g (row.take i)).2 || decide (m.1 ≠ 0))), some (.int ((i : Nat) : Int)), some (.int m.1), some (.bl m.2)] =
            [some (.ref a), some (.ref l), some (.int g), some (.int b), some (.int (rst g (row.take (i + 1))).1), some (.bl (rst g (row.take (i + 1))).2), v1, v2, v3] ∧ Same H H' := by
          refine ⟨some (.int ((i : Nat) : Int)), some (.int m.1), some (.bl m.2), ?_, s3⟩
          rw [e0]
          unfold stp
          dsimp only
          rw [min2]
        have last : ∀ {Z : Prop}, Z → (if m.2 = true then Z else Z) := fun z => by split <;> exact z
        by_cases ho : m.2 = true
        · obtain ⟨o1, o2⟩ := ok.old ho
          refine iteBT ho ⟨_, rfl, _, rfl, ?_⟩
          have e1 : ((rst g (row.take i)).2 || decide (m.1 ≠ 0)) = true := by
            rcases o1 with h | h
            · rw [h, Bool.true_or]
            · rw [decide_eq_true h, Bool.or_true]
          rw [e1]
          refine iteF ⟨_, rfl, _, rfl, _, _, rfl, rfl, _, rfl, ?_⟩
          rw [decide_eq_false (show ¬ b ≤ (if m.1 = 0 then (rst g (row.take i)).1 else 0) by omega)]
          refine iteF ?_
          rw [e1] at fin
          exact ⟨_, rfl, _, rfl, _, _, rfl, rfl, _, _, rfl, fin⟩
        · refine iteBF (by simpa using ho) (iteF ⟨_, rfl, _, rfl, _, _, rfl, rfl, _, _, rfl, fin⟩)
    · rintro σ H1 ⟨v1, v2, v3, rfl, hs⟩
      exact k H1 hs
end
section
variable {P : Program} {w : World} {K : PySem.W.Frag} {mg : Str → Option Value} {base : Heap}
theorem sc_positions : FnScope ["row", "here", "last", "found", "turn", "old"] ["row"] (defScope (top 15)) := ⟨rfl, rfl, rfl, by decide +kernel, rfl, by decide +kernel, by decide +kernel⟩
theorem ok_positions {f : Addr} {fd : FuncData} (F : Fun K "positions" "positions" (top 15) f fd) : FnOk P w K mg base CX0 1 f fd ["row"] (spPos K) := by
  have sc := sc_positions
  refine F.ok sc (fun vs H Q E h => ?_) (fun cdv A outer s H vs Q E hr h => ?_)
  · obtain ⟨u, row, ps, rfl, _⟩ := h
    rfl
  · obtain ⟨u, row, ps, rfl, lv, hrow, hlen, k⟩ := h
    obtain ⟨a, ys, rfl, hL, hY⟩ := dp_lst hrow
    have hyl : ys.length = row.length := by rw [dpa_length hY, List.length_map]
    refine ⟨_, (pss_cons (ps_set (i := 1) sc.nd rfl (Or.inl rfl) pe_int)
(pss_cons (ps_set (i := 2) sc.nd rfl (Or.inl rfl) pe_int)
(pss_cons (ps_set (i := 3) sc.nd rfl (Or.inl rfl) (pe_lst pa_nil))
(pss_cons (ps_for PassesOwn.never rfl (pi_list (pv 0)) (pg_tup rfl (pgs_cons (pg_name (i := 4) sc.nd rfl (Or.inl rfl)) (pgs_cons (pg_name (i := 5) sc.nd rfl (Or.inl rfl)) pgs_nil)))
(pss_cons (ps_set (i := 1) sc.nd rfl (Or.inl rfl) (pe_op op_add (pv 1) (pv 4)))
(pss_cons (ps_set (i := 2) sc.nd rfl (Or.inl rfl) (pe_ifExp (pt_cmpR op_ne (pv 4) pe_int (nomark _)) (pv 4) (pv 2)))
(pss_one (ps_expr (pe_bm PySem.F.plainAttrs_list PySem.F.slot_list_append PySem.F.type_list_append mt_append (pv 3) (pa_cons (pe_tup (pa_cons (pv 1) (pa_cons (pe_ifExp (pt_val (pv 5)) (pe_op op_sub (pv 1) (pv 2)) (pv 1)) pa_nil))) pa_nil)))))))
(pss_one (ps_ret (pv 3))))))), ?_⟩
    refine ⟨Nat.zero_le _, fun l hl => ?_⟩
    have s0 : Same H (upd H l (.lst [])) := same_new hl
    refine ⟨_, rfl, a, rfl, ⟨ys, s0.seq (fz_le.seq hL)⟩, for_it (walk_list (xs := ys)) (fun i σ H' => ∃ (xs : List V) (v1 v2 : Option V), σ = [some (.ref a), some (.int (pas (row.take i)).1), some (.int (pas (row.take i)).2), some (.ref l), v1, v2] ∧ Same H H' ∧
        H' l = some (.lst xs) ∧ DpAll K (Fz (l :: ps) H') xs ((plcs (row.take i)).map ppD))
      ⟨[], none, none, rfl, s0, upd_same, .nil⟩ (fun i σ H' _ ⟨_, _, _, _, e, _⟩ => e.seq (fz_le.seq hL)) ?_ ?_⟩
    · rintro i x σ H1 H2 hi ⟨xs, v1, v2, rfl, hs, hxl, hX⟩ ⟨rfl, hx⟩
      obtain ⟨⟨t, o⟩, hm, hz⟩ := dpa_map_at hY hx
      obtain ⟨q, rfl, hq⟩ := dp_ib (dp_same hs (dp_fz hz))
      have ep := pas_snoc hm
      have el := plcs_snoc hm
      have hxn : xs.length ≤ 1000 := by
        rw [dpa_length hX, List.length_map, plcs_length, List.length_take]; omega
      have lv2 : Live (l :: ps) H2 := live_cons hxl (lv.mono hs)
      refine ⟨q, _, rfl, hq, rfl, _, _, rfl, _, _, rfl, rfl, ?_⟩
      refine ⟨_, rfl, _, rfl, _, _, rfl, rfl, ?_⟩
      have fin : ∀ (z : Int) (tp : Addr), H2 tp = none → z = (if o = true then (pst (pas (row.take i)) (t, o)).1 - (pst (pas (row.take i)) (t, o)).2 else (pst (pas (row.take i)) (t, o)).1) →
          DpAll K (Fz (l :: ps) (upd (upd H2 tp (.tup [.int ((pas (row.take i)).1 + t), .int z])) l (.lst (xs ++ [.ref tp])))) (xs ++ [.ref tp]) ((plcs (row.take (i + 1))).map ppD) := by
        intro z tp htp ez
        rw [el, List.map_append]
        refine dpa_push lv2 htp hX ?_
        rw [ez]
        exact dpa_ii _ _
      have fins : ∀ (tp : Addr) (ws : List V) (us : List V), H2 tp = none → Same H (upd (upd H2 tp (.tup ws)) l (.lst us)) := fun tp ws us htp => same_put hl (hs.trans (same_new htp))
      have el1 : (pas (row.take (i + 1))).1 = (pas (row.take i)).1 + t := by rw [ep]; rfl
      have el2 : (pas (row.take (i + 1))).2 = (if t = 0 then (pas (row.take i)).2 else t) := by rw [ep]; rfl
      refine ⟨_, rfl, rfl, _, rfl, ?_⟩
      by_cases h0 : t = 0
      · refine iteNS (vint_eq h0) ⟨_, rfl, ?_⟩
        rw [if_pos h0] at el2
        have e2 : (pst (pas (row.take i)) (t, o)).2 = (pas (row.take i)).2 := if_pos h0
        refine ⟨_, rfl, .inl ⟨rfl, _, SqL.of hxl⟩, _, rfl, _, rfl, _, rfl, iteB (fun ho => ?_) (fun ho => ?_)⟩
        · refine ⟨_, rfl, _, rfl, _, _, rfl, rfl, (by show 2 ≤ sizeLine; decide), fun tp htp => ?_⟩
          have ntl : l ≠ tp := ne_of_none hxl htp
          refine ⟨l, xs, _, rfl, rfl, (by rw [upd_ne ntl]; exact hxl), small1000 hxn, _, some (.int t), some (.bl o), ?_, fins _ _ _ htp, upd_same, fin _ _ htp ?_⟩
          · rw [el1, el2]; rfl
          · rw [if_pos ho, e2]; rfl
        · refine ⟨_, rfl, (by show 2 ≤ sizeLine; decide), fun tp htp => ?_⟩
          have ntl : l ≠ tp := ne_of_none hxl htp
          refine ⟨l, xs, _, rfl, rfl, (by rw [upd_ne ntl]; exact hxl), small1000 hxn, _, some (.int t), some (.bl o), ?_, fins _ _ _ htp, upd_same, fin _ _ htp ?_⟩
          · rw [el1, el2]; rfl
          · rw [if_neg (by rw [show o = false from ho]; decide)]; rfl
      · refine iteNT (vint_ne h0) ⟨_, rfl, ?_⟩
        rw [if_neg h0] at el2
        have e2 : (pst (pas (row.take i)) (t, o)).2 = t := if_neg h0
        refine ⟨_, rfl, .inl ⟨rfl, _, SqL.of hxl⟩, _, rfl, _, rfl, _, rfl, iteB (fun ho => ?_) (fun ho => ?_)⟩
        · refine ⟨_, rfl, _, rfl, _, _, rfl, rfl, (by show 2 ≤ sizeLine; decide), fun tp htp => ?_⟩
          have ntl : l ≠ tp := ne_of_none hxl htp
          refine ⟨l, xs, _, rfl, rfl, (by rw [upd_ne ntl]; exact hxl), small1000 hxn, _, some (.int t), some (.bl o), ?_, fins _ _ _ htp, upd_same, fin _ _ htp ?_⟩
          · rw [el1, el2]; rfl
          · rw [if_pos ho, e2]; rfl
        · refine ⟨_, rfl, (by show 2 ≤ sizeLine; decide), fun tp htp => ?_⟩
          have ntl : l ≠ tp := ne_of_none hxl htp
          refine ⟨l, xs, _, rfl, rfl, (by rw [upd_ne ntl]; exact hxl), small1000 hxn, _, some (.int t), some (.bl o), ?_, fins _ _ _ htp, upd_same, fin _ _ htp ?_⟩
          · rw [el1, el2]; rfl
          · rw [if_neg (by rw [show o = false from ho]; decide)]; rfl
    · rintro σ H1 ⟨xs, v1, v2, rfl, hs, hxl, hX⟩
      rw [hyl, List.take_length] at hX
      exact ⟨_, rfl, k l xs H1 hl hs hxl hX⟩
end
/-! ### shown -/
def shD (row : List Mv) : List PyData := (plcs row).map fun q => ppD (pr q.2)
def spShown (K : PySem.W.Frag) : Sp := fun vs H Q _ => ∃ (v u : V) (g b : Int) (row : List Mv) (ps : List Addr), vs = [v, u] ∧ Live ps H ∧ Dp K (Fz ps H) v (knD g b) ∧ 1 ≤ g ∧ g ≤ 6 ∧ 0 ≤ b ∧ b ≤ g ∧ Dp K (Fz ps H) u (rowD row) ∧ Good g b row ∧
  ∀ (p : Addr) (xs : List V) (H' : Hp), H p = none → Same H H' → H' p = some (.lst xs) → DpAll K (Fz (p :: ps) H') xs (shD row) → Q (.ref p) H'
section
variable {P : Program} {w : World} {K : PySem.W.Frag} {mg : Str → Option Value} {base : Heap}
theorem sc_shown : FnScope ["knob", "row", "here", "seen"] ["knob", "row"] (defScope (top 16)) := ⟨rfl, rfl, rfl, by decide +kernel, rfl, by decide +kernel, by decide +kernel⟩
theorem ok_shown {f a_PAIRS p0 p1 p2 p3 : Addr} {fd : FuncData} (F : Fun K "shown" "shown" (top 16) f fd) (g_PAIRS : mg "PAIRS" = some (.ref a_PAIRS)) (pk : PairsK K a_PAIRS p0 p1 p2 p3)
    (c_need_knob : Cal P w K mg base 1 "need_knob" ["knob"] (spNeedKnob K)) (c_need_row : Cal P w K mg base 1 "need_row" ["knob", "row"] (spNeedRow K)) (c_positions : Cal P w K mg base 1 "positions" ["row"] (spPos K)) :
    FnOk P w K mg base CX0 2 f fd ["knob", "row"] (spShown K) := by
  have sc := sc_shown
  refine F.ok sc (fun vs H Q E h => ?_) (fun cdv A outer s H vs Q E hr h => ?_)
  · obtain ⟨v, u, g, b, row, ps, rfl, _⟩ := h
    rfl
  · obtain ⟨v, u, g, b, row, ps, rfl, lv, hkn, g1, g6, b0, b1, hrow, hG, k⟩ := h
    refine ⟨_, (pss_cons (ps_expr (pe_cal c_need_knob (hr.mono (by first | decide | omega)) (pa_cons (pv 0) pa_nil)))
(pss_cons (ps_expr (pe_cal c_need_row (hr.mono (by first | decide | omega)) (pa_cons (pv 0) (pa_cons (pv 1) pa_nil))))
(pss_one (ps_ret (pe_lc (own := [("here", 2), ("seen", 3)]) (g := gTup K 2 (gCons (gName 2) (gCons (gName 3) gNil))) rfl sc.nd (pi_list (pe_cal c_positions (hr.mono (by first | decide | omega)) (pa_cons (pv 1) pa_nil))) (blkOk_by (own := [("here", 2), ("seen", 3)]) (N := ["knob", "row", "here", "seen"]) (sc := defScope (top 16)) (by decide +kernel)) (fun _ _ _ _ _ => (pg_tup rfl (pgs_cons (pg_name (i := 2) sc.nd rfl (Or.inl rfl)) (pgs_cons (pg_name (i := 3) sc.nd rfl (Or.inl rfl)) pgs_nil)))) (fun _ _ _ _ _ => pts_nil) (fun _ _ _ _ _ => (pe_ix (r := rIxT K) ix_tup (pe_glob (v := .ref a_PAIRS) rfl g_PAIRS rfl) (pe_op op_mod (pv 3) pe_int) (fun _ _ => rfl)))))))), ?_⟩
    refine ⟨_, rfl, v, g, b, rfl, dp_fz hkn, g1, g6, b0, b1, ?_⟩
    refine ⟨_, rfl, _, rfl, v, u, g, b, row, rfl, dp_fz hkn, dp_fz hrow, hG, fun H1 s1 => ?_⟩
    refine ⟨_, rfl, u, row, ps, rfl, lv.mono s1, dp_same (fz_mono s1) hrow, Nat.le_trans hG.len (by decide), fun l xs H2 hl s2 hxl hX => ?_⟩
    have hxn : xs.length ≤ 200 := by rw [dpa_length hX, List.length_map, plcs_length]; exact hG.len
    have xl : xs.length = (plcs row).length := by rw [dpa_length hX, List.length_map]
    refine ⟨l, rfl, ⟨xs, SqL.of hxl⟩, fun D hD => lc_it (walk_list (xs := xs)) (fun i H' => ∃ acc, Same H2 H' ∧ H' D = some (.lst acc) ∧ acc.length = i ∧ DpAll K (Fz (D :: ps) H') acc ((shD row).take i))
      ⟨[], same_new hD, upd_same, rfl, .nil⟩ (fun i H' _ ⟨_, e, _⟩ => SqL.of (e _ _ hxl)) ?_ ?_⟩
    · rintro i x H3 H4 hi ⟨acc, s3, hd3, hal, hA⟩ ⟨rfl, hx⟩
      obtain ⟨⟨h0, se⟩, hm, hz⟩ := dpa_map_at hX hx
      obtain ⟨q, rfl, hq⟩ := dp_ii (dp_same s3 (dp_fz hz))
      obtain ⟨p, hp1, hp2⟩ := pk.at se
      refine ⟨q, _, rfl, hq, rfl, _, _, rfl, _, _, rfl, rfl, rfl, ?_⟩
      refine ⟨_, rfl, _, _, rfl, rfl, (by show (0 : Int) < 4; decide), a_PAIRS, _, _, .ref p, rfl, rfl, pk.all _, hp1, acc, hd3, small1000 (by omega), acc ++ [.ref p], same_put hD s3, upd_same, by rw [List.length_append, List.length_singleton, hal], ?_⟩
      have e1 : (shD row)[i]? = some (ppD (pr se)) := by
        unfold shD
        rw [List.getElem?_map, hm]
        rfl
      rw [take_snoc e1]
      exact dpa_put hA (hp2 _)
    · rintro H3 ⟨acc, s3, hd3, hal, hA⟩
      have e2 : (shD row).take xs.length = shD row := List.take_of_length_le (by unfold shD; rw [List.length_map]; omega)
      rw [e2] at hA
      exact k D acc H3 ((s1.trans s2).free hD) ((s1.trans s2).trans s3) hd3 hA
end
/-! ### a counter, in plain -/
structure CS where
  same : Int
  kept : Int
  met : Option Int
  many : Int
  total : Int
  lost : Int
def tells (z : Int) : Int := if z % 4 = 0 then 0 else if z % 4 = 1 then 1 else if z % 4 = 2 then 2 else -1
def seenAs (m : Option Int) (z : Int) : Bool := match m with
  | none => false
  | some m => decide (m % 4 = z % 4)
def manyOf (s : CS) (z : Int) : Int := if seenAs s.met z = true then s.many + 1 else 1
def lookC (s : CS) (z : Int) : CS :=
  if manyOf s z < s.same ∨ s.kept % 4 = z % 4 then { s with met := some z, many := manyOf s z }
  else if (z - s.kept) % 4 = 2 then { s with met := some z, many := manyOf s z, kept := z, lost := s.lost + 1 }
  else { s with met := some z, many := manyOf s z, kept := z, total := s.total + tells (z - s.kept) }
def saysC (s : CS) (z : Int) : Int := if manyOf s z < s.same then 0 else tells (z - s.kept)
def newC (same : Int) : CS := ⟨same, 0, none, 0, 0, 0⟩
/-! ### counters -/
/-- what a counter holds: pairs by one of their places -/
def metD : Option Int → PyData
  | none => .none
  | some m => ppD (pr m)
theorem pr_eq {y z : Int} : pr y = pr z ↔ y % 4 = z % 4 := by
  unfold pr
  rcases mod4 y with h | h | h | h <;> rcases mod4 z with h' | h' | h' | h' <;> rw [h, h'] <;> decide
theorem eqv_pp (p q : Int × Int) : PyData.eqv (ppD p) (ppD q) = decide (p = q) := by
  obtain ⟨a, b⟩ := p
  obtain ⟨c, d⟩ := q
  have e : PyData.eqv (ppD (a, b)) (ppD (c, d)) = ((a == c) && ((b == d) && true)) := by simp only [ppD, PyData.eqv, PyData.eqvAll]
  rw [e]
  by_cases h1 : a = c
  · by_cases h2 : b = d
    · subst h1; subst h2; simp
    · have : ¬ ((a, b) = (c, d)) := fun z => h2 (congrArg Prod.snd z)
      rw [decide_eq_false this, beq_eq_false_iff_ne.mpr h2]; simp
  · have : ¬ ((a, b) = (c, d)) := fun z => h1 (congrArg Prod.fst z)
    rw [decide_eq_false this, beq_eq_false_iff_ne.mpr h1]; simp
theorem shaped_pp (p : Int × Int) : SeqAt.shaped (ppD p) = true := by
  obtain ⟨a, b⟩ := p
  rfl
theorem shaped_met (m : Option Int) : SeqAt.shaped (metD m) = true := by
  cases m with
  | none => rfl
  | some m => exact shaped_pp _
theorem eqv_met (m : Option Int) (z : Int) : PyData.eqv (ppD (pr z)) (metD m) = seenAs m z := by
  cases m with
  | none => rfl
  | some m =>
    show PyData.eqv (ppD (pr z)) (ppD (pr m)) = decide (m % 4 = z % 4)
    rw [eqv_pp]
    by_cases h : m % 4 = z % 4
    · rw [decide_eq_true h, decide_eq_true (pr_eq.mpr h.symm)]
    · rw [decide_eq_false h, decide_eq_false (fun e => h (pr_eq.mp e).symm)]
theorem eqv_pr (y z : Int) : PyData.eqv (ppD (pr z)) (ppD (pr y)) = decide (y % 4 = z % 4) := eqv_met (some y) z
def pairsD : List PyData := [ppD (pr 0), ppD (pr 1), ppD (pr 2), ppD (pr 3)]
theorem PairsK.dp {K : PySem.W.Frag} {aP p0 p1 p2 p3 : Addr} (k : PairsK K aP p0 p1 p2 p3) (H : Hp) : Dp K H (.ref aP) (.tuple pairsD) :=
  .tup (k.all H) (.cons (.tup (k.q0 H) (dpa_ii 0 0)) (.cons (.tup (k.q1 H) (dpa_ii 0 1)) (.cons (.tup (k.q2 H) (dpa_ii 1 1)) (.cons (.tup (k.q3 H) (dpa_ii 1 0)) .nil))))
theorem pairs_index (z : Int) : ∃ j : Nat, (j : Int) = z % 4 ∧ pairsD[j]? = some (ppD (pr z)) ∧ ∀ (m : Nat) (z' : PyData), m < j → pairsD[m]? = some z' → PyData.eqv z' (ppD (pr z)) = false := by
  have hp : ∀ y, pr y = pr (y % 4) := fun y => pr_eq.mpr (by omega)
  have hz := mod4 z
  refine ⟨(z % 4).toNat, by omega, ?_, ?_⟩
  · rw [hp z]
    rcases hz with h | h | h | h <;> rw [h] <;> rfl
  · intro m z' hm hz'
    have hq : pairsD[m]? = some (ppD (pr m)) := by
      have : m = 0 ∨ m = 1 ∨ m = 2 ∨ m = 3 := by omega
      rcases this with rfl | rfl | rfl | rfl <;> rfl
    rw [hq] at hz'
    cases hz'
    rw [eqv_pr]
    exact decide_eq_false (by omega)
/-- the counter at p, p among the hidden places -/
def CtrAt (K : PySem.W.Frag) (C : Addr) (ps : List Addr) (H : Hp) (p : Addr) (s : CS) : Prop :=
  ∃ dx kv mv, H p = some (.ins C dx [("same", .int s.same), ("kept", kv), ("met", mv), ("many", .int s.many), ("total", .int s.total), ("lost", .int s.lost)]) ∧ Dp K (Fz ps H) kv (ppD (pr s.kept)) ∧ Dp K (Fz ps H) mv (metD s.met)
theorem CtrAt.frm {K : PySem.W.Frag} {C : Addr} {ps qs : List Addr} {H H' : Hp} {p : Addr} {s : CS} (h : CtrAt K C ps H p s) (e : Same (Fz ps H) (Fz qs H')) (hp : ∀ o, H p = some o → H' p = some o) : CtrAt K C qs H' p s := by
  obtain ⟨dx, kv, mv, h1, h2, h3⟩ := h
  exact ⟨dx, kv, mv, hp _ h1, dp_same e h2, dp_same e h3⟩
/-- a new counter -/
def NewAt (K : PySem.W.Frag) (C : Addr) (H : Hp) (p : Addr) (s : Int) : Prop :=
  ∃ dx kv, H p = some (.ins C dx [("same", .int s), ("kept", kv), ("met", .non), ("many", .int 0), ("total", .int 0), ("lost", .int 0)]) ∧ ∀ H', Dp K H' kv (ppD (pr 0))
theorem NewAt.ctr {K : PySem.W.Frag} {C : Addr} {ps : List Addr} {H : Hp} {p : Addr} {s : Int} (h : NewAt K C H p s) : CtrAt K C ps H p (newC s) := by
  obtain ⟨dx, kv, h1, h2⟩ := h
  exact ⟨dx, kv, .non, h1, h2 _, .non⟩
theorem NewAt.mono {K : PySem.W.Frag} {C : Addr} {H H' : Hp} {p : Addr} {s : Int} (h : NewAt K C H p s) (e : ∀ o, H p = some o → H' p = some o) : NewAt K C H' p s := by
  obtain ⟨dx, kv, h1, h2⟩ := h
  exact ⟨dx, kv, e _ h1, h2⟩
theorem NewAt.live {K : PySem.W.Frag} {C : Addr} {H : Hp} {p : Addr} {s : Int} (h : NewAt K C H p s) : ∃ o, H p = some o := by
  obtain ⟨dx, kv, h1, h2⟩ := h
  exact ⟨_, h1⟩
/-- the class Counter, its attributes -/
structure CtrK (K : PySem.W.Frag) (C : Addr) : Prop where
  cl : Cls K C
  same : NoAttr K C "same"
  kept : NoAttr K C "kept"
  met : NoAttr K C "met"
  many : NoAttr K C "many"
  total : NoAttr K C "total"
  lost : NoAttr K C "lost"
def spCtr (K : PySem.W.Frag) (C : Addr) : Sp := fun vs H Q _ => ∃ (x dx : Addr) (v : V) (a s : Int), vs = [.ref x, v] ∧ H x = some (.ins C dx []) ∧ Dp K H v (knD a s) ∧ 1 ≤ a ∧ a ≤ 6 ∧ 1 ≤ s ∧ s ≤ 3 ∧
  ∀ H', Frm [x] H H' → NewAt K C H' x s → Q .non H'
def spLook (K : PySem.W.Frag) (C : Addr) : Sp := fun vs H Q _ => ∃ (p : Addr) (v : V) (s : CS) (z : Int) (ps : List Addr), vs = [.ref p, v] ∧ CtrAt K C ps H p s ∧ p ∈ ps ∧ Dp K (Fz ps H) v (ppD (pr z)) ∧
  ∀ H', Frm [p] H H' → CtrAt K C ps H' p (lookC s z) → Q (.int (saysC s z)) H'
def spCount (K : PySem.W.Frag) (C : Addr) : Sp := fun vs H Q _ => ∃ (p : Addr) (s : CS) (ps : List Addr), vs = [.ref p] ∧ CtrAt K C ps H p s ∧ Q (.int s.total) H
def spMissed (K : PySem.W.Frag) (C : Addr) : Sp := fun vs H Q _ => ∃ (p : Addr) (s : CS) (ps : List Addr), vs = [.ref p] ∧ CtrAt K C ps H p s ∧ Q (.int s.lost) H
section
variable {P : Program} {w : World} {K : PySem.W.Frag} {mg : Str → Option Value} {base : Heap}
theorem sc_cinit : FnScope ["self", "reader"] ["self", "reader"] (defScope (inClass (top 19) 0)) := ⟨rfl, rfl, rfl, by decide +kernel, rfl, by decide +kernel, by decide +kernel⟩
theorem ok_cinit {f C a_PAIRS p0 p1 p2 p3 : Addr} {fd : FuncData} (F : Fun K "__init__" "Counter.__init__" (inClass (top 19) 0) f fd) (ck : CtrK K C) (g_PAIRS : mg "PAIRS" = some (.ref a_PAIRS)) (pk : PairsK K a_PAIRS p0 p1 p2 p3)
    (c_need_reader : Cal P w K mg base 1 "need_reader" ["reader"] (spNeedReader K)) : FnOk P w K mg base CX0 2 f fd ["self", "reader"] (spCtr K C) := by
  have sc := sc_cinit
  refine F.ok sc (fun vs H Q E h => ?_) (fun cdv A outer s H vs Q E hr h => ?_)
  · obtain ⟨x, dx, v, a, s, rfl, _⟩ := h
    rfl
  · obtain ⟨x, dx, v, a, sm, rfl, hx, hv, a1, a6, s1, s3, k⟩ := h
    obtain ⟨q, rfl, hT⟩ := dp_ii hv
    refine ⟨_, (pss_cons (ps_expr (pe_cal c_need_reader (hr.mono (by first | decide | omega)) (pa_cons (pv 1) pa_nil)))
(pss_cons (ps_fld (pv 0) (pe_ix (r := rIxT K) ix_tup (pv 1) pe_int (fun _ _ => rfl)) rfl)
(pss_cons (ps_fld (pv 0) (pe_ix (r := rIxT K) ix_tup (pe_glob (v := .ref a_PAIRS) rfl g_PAIRS rfl) pe_int (fun _ _ => rfl)) rfl)
(pss_cons (ps_fld (pv 0) pe_non rfl)
(pss_cons (ps_fld (pv 0) pe_int rfl)
(pss_cons (ps_fld (pv 0) pe_int rfl)
(pss_one (ps_fld (pv 0) pe_int rfl)))))))), ?_⟩
    refine ⟨_, rfl, _, a, sm, rfl, hv, a1, a6, s1, s3, ?_⟩
    refine ⟨_, rfl, q, _, _, _, rfl, rfl, hT, at_of (j := 1) rfl rfl, _, rfl, x, C, dx, _, rfl, hx, ck.cl, ck.same, few 0 rfl, ?_⟩
    refine ⟨a_PAIRS, _, _, .ref p0, rfl, rfl, pk.all _, at_of (j := 0) rfl rfl, _, rfl, x, C, dx, _, rfl, upd_same, ck.cl, ck.kept, few 1 rfl, ?_⟩
    refine ⟨_, rfl, x, C, dx, _, rfl, upd_same, ck.cl, ck.met, few 2 rfl, ?_⟩
    refine ⟨_, rfl, x, C, dx, _, rfl, upd_same, ck.cl, ck.many, few 3 rfl, ?_⟩
    refine ⟨_, rfl, x, C, dx, _, rfl, upd_same, ck.cl, ck.total, few 4 rfl, ?_⟩
    refine ⟨_, rfl, x, C, dx, _, rfl, upd_same, ck.cl, ck.lost, few 5 rfl, ?_⟩
    simp only [upd_upd]
    exact k _ (Frm.set (by simp)) ⟨dx, .ref p0, upd_same, fun _ => .tup (pk.q0 _) (dpa_ii 0 0)⟩
theorem sc_look : FnScope ["self", "pair", "by", "told"] ["self", "pair"] (defScope (inClass (top 19) 1)) := ⟨rfl, rfl, rfl, by decide +kernel, rfl, by decide +kernel, by decide +kernel⟩
theorem ok_look {f C a_PAIRS p0 p1 p2 p3 : Addr} {fd : FuncData} {t1 : Tok} (F : Fun K "look" "Counter.look" (inClass (top 19) 1) f fd) (ck : CtrK K C) (g_PAIRS : mg "PAIRS" = some (.ref a_PAIRS)) (pk : PairsK K a_PAIRS p0 p1 p2 p3) (g_MISSED : mg "MISSED" = some (.int 2 t1)) :
    FnOk P w K mg base CX0 1 f fd ["self", "pair"] (spLook K C) := by
  have sc := sc_look
  refine F.ok sc (fun vs H Q E h => ?_) (fun cdv A outer s H vs Q E hr h => ?_)
  · obtain ⟨x, v, s, z, ps, rfl, _⟩ := h
    rfl
  · obtain ⟨p, v, cs, z, ps, rfl, hc, pps, hv, k⟩ := h
    obtain ⟨dx, kv, mv, hp, hk, hm⟩ := hc
    refine ⟨_, (pss_cons (ps_fld (pv 0) (pe_ifExp (pt_cmpR (r := rEqD K) (op_eqD hr.units) (pv 1) (pe_fldK (K := K) rfl (pv 0)) (nomark _)) (pe_op op_add (pe_fldK (K := K) rfl (pv 0)) pe_int) pe_int) rfl)
(pss_cons (ps_fld (pv 0) (pv 1) rfl)
(pss_cons (ps_if (PW.pt (pw_or (pt_cmpR op_lt (pe_fldK (K := K) rfl (pv 0)) (pe_fldK (K := K) rfl (pv 0)) (nomark _)) (pw_or1 (pt_cmpR (r := rEqD K) (op_eqD hr.units) (pv 1) (pe_fldK (K := K) rfl (pv 0)) (nomark _)))))
(pss_one (ps_ret pe_int))
pss_nil)
(pss_cons (ps_set (i := 2) sc.nd rfl (Or.inl rfl) (pe_op op_mod (pe_op op_sub (pe_bm PySem.F.plainAttrs_tuple PySem.F.slot_tuple_index PySem.F.type_tuple_index (mt_tup_indexD (hu65 hr)) (pe_glob (v := .ref a_PAIRS) rfl g_PAIRS rfl) (pa_cons (pv 1) pa_nil)) (pe_bm PySem.F.plainAttrs_tuple PySem.F.slot_tuple_index PySem.F.type_tuple_index (mt_tup_indexD (hu65 hr)) (pe_glob (v := .ref a_PAIRS) rfl g_PAIRS rfl) (pa_cons (pe_fldK (K := K) rfl (pv 0)) pa_nil))) pe_int))
(pss_cons (ps_fld (pv 0) (pv 1) rfl)
(pss_cons (ps_if (pt_cmpR op_eq (pv 2) pe_int (nomark _))
(pss_cons (ps_fld (pv 0) (pe_op op_add (pe_fldK (K := K) rfl (pv 0)) pe_int) rfl)
(pss_one (ps_ret (pe_glob (v := .int 2) rfl g_MISSED ⟨_, rfl⟩))))
pss_nil)
(pss_cons (ps_set (i := 3) sc.nd rfl (Or.inl rfl) (pe_ifExp (pt_cmpR op_eq (pv 2) pe_int (nomark _)) (pv 2) (pe_un un_neg pe_int)))
(pss_cons (ps_fld (pv 0) (pe_op op_add (pe_fldK (K := K) rfl (pv 0)) (pv 3)) rfl)
(pss_one (ps_ret (pv 3))))))))))), ?_⟩
    have hmany : ∀ {Q : VK}, Q (.int (manyOf cs z)) H → tIf (tTest (tOp (rEqD K) (tVar 1) (tFld K (tVar 0) "met"))) (tOp rAdd (tFld K (tVar 0) "many") (tC (.int 1))) (tC (.int 1)) [some (.ref p), some v, none, none] H Q := by
      intro Q hQ
      refine ⟨_, rfl, _, rfl, p, C, dx, _, _, rfl, hp, ck.cl, ck.met, rfl, _, _, dp_fz hv, dp_fz hm, shaped_pp _, shaped_met _, _, rfl, ?_⟩
      rw [eqv_met]
      unfold manyOf at hQ
      refine iteB (fun e => ?_) (fun e => ?_)
      · rw [if_pos e] at hQ
        exact ⟨_, rfl, p, C, dx, _, _, rfl, hp, ck.cl, ck.many, rfl, _, _, rfl, rfl, hQ⟩
      · rw [if_neg (by rw [e]; decide)] at hQ
        exact hQ
    refine hmany ⟨_, rfl, p, C, dx, _, rfl, hp, ck.cl, ck.many, few 6 rfl, ?_⟩
    refine ⟨_, rfl, _, rfl, p, C, dx, _, rfl, upd_same, ck.cl, ck.met, few 6 rfl, ?_⟩
    rw [upd_upd]
    refine ⟨_, rfl, p, C, dx, _, _, rfl, upd_same, ck.cl, ck.many, rfl, _, rfl, p, C, dx, _, _, rfl, upd_same, ck.cl, ck.same, rfl, _, _, rfl, rfl, _, rfl, ?_⟩
    have fin : ∀ (kv' : V) (kz t l : Int), Dp K (Fz ps H) kv' (ppD (pr kz)) → lookC cs z = ⟨cs.same, kz, some z, manyOf cs z, t, l⟩ →
        Q (.int (saysC cs z)) (upd H p (.ins C dx [("same", .int cs.same), ("kept", kv'), ("met", v), ("many", .int (manyOf cs z)), ("total", .int t), ("lost", .int l)])) := by
      intro kv' kz t l h e
      refine k _ (Frm.set (by simp)) ?_
      rw [e]
      exact ⟨dx, kv', v, upd_same, by rw [fz_set pps]; exact h, by rw [fz_set pps]; exact hv⟩
    have up : ∀ {o : HO} {v' : V} {d : PyData}, Dp K (Fz ps H) v' d → Dp K (upd H p o) v' d := fun {o v' d} h => dp_fz (ps := ps) (by rw [fz_set pps]; exact h)
    have ret0 : (manyOf cs z < cs.same ∨ cs.kept % 4 = z % 4) → Q (.int 0) (upd H p (.ins C dx [("same", .int cs.same), ("kept", kv), ("met", v), ("many", .int (manyOf cs z)), ("total", .int cs.total), ("lost", .int cs.lost)])) := by
      intro c
      have q := fin kv cs.kept cs.total cs.lost hk (if_pos c)
      have e : saysC cs z = 0 := by
        unfold saysC
        by_cases c1 : manyOf cs z < cs.same
        · exact if_pos c1
        · have c2 := c.resolve_left c1
          rw [if_neg c1]
          exact if_pos (by omega)
      rw [e] at q
      exact q
    refine iteD (fun c1 => ret0 (.inl c1)) (fun c1 => ?_)
    refine ⟨_, rfl, _, rfl, p, C, dx, _, _, rfl, upd_same, ck.cl, ck.kept, rfl, _, _, up hv, up hk, shaped_pp _, shaped_pp _, _, rfl, ?_⟩
    rw [eqv_pr]
    refine iteD (fun c2 => ret0 (.inr c2)) (fun c2 => ?_)
    obtain ⟨j1, e1, h1, n1⟩ := pairs_index z
    obtain ⟨j2, e2, h2, n2⟩ := pairs_index cs.kept
    refine ⟨.inr (.inl ⟨rfl, pk.ty⟩), _, rfl, a_PAIRS, _, _, _, j1, _, rfl, rfl, pk.dp _, up hv, rfl, shaped_pp _, h1, (by rw [eqv_pr]; exact decide_eq_true rfl), n1, ?_⟩
    refine ⟨.inr (.inl ⟨rfl, pk.ty⟩), _, rfl, p, C, dx, _, _, rfl, upd_same, ck.cl, ck.kept, rfl, a_PAIRS, _, _, _, j2, _, rfl, rfl, pk.dp _, up hk, rfl, shaped_pp _, h2, (by rw [eqv_pr]; exact decide_eq_true rfl), n2, ?_⟩
    refine ⟨_, _, rfl, rfl, _, _, rfl, rfl, (by show (0 : Int) < 4; decide), ?_⟩
    have e3 : ((j1 : Int) - (j2 : Int)) % 4 = (z - cs.kept) % 4 := by omega
    refine ⟨_, rfl, _, rfl, p, C, dx, _, rfl, upd_same, ck.cl, ck.kept, few 6 rfl, ?_⟩
    rw [upd_upd]
    have nn : ¬ (manyOf cs z < cs.same ∨ cs.kept % 4 = z % 4) := fun h => h.elim c1 c2
    have says : saysC cs z = tells (z - cs.kept) := if_neg c1
    refine ⟨_, rfl, rfl, _, rfl, ?_⟩
    by_cases c3 : ((j1 : Int) - (j2 : Int)) % 4 = 2
    · refine iteDT (vint_eq c3) ?_
      rw [e3] at c3
      refine ⟨_, rfl, p, C, dx, _, _, rfl, upd_same, ck.cl, ck.lost, rfl, _, _, rfl, rfl, _, rfl, p, C, dx, _, rfl, upd_same, ck.cl, ck.lost, few 6 rfl, ?_⟩
      rw [upd_upd]
      have q := fin v z cs.total (cs.lost + 1) hv (by unfold lookC; rw [if_neg nn, if_pos c3])
      rw [says, show tells (z - cs.kept) = 2 by unfold tells; rw [c3]; decide] at q
      exact q
    · refine iteDF (vint_ne c3) ?_
      refine ⟨_, rfl, rfl, _, rfl, ?_⟩
      by_cases c4 : ((j1 : Int) - (j2 : Int)) % 4 = 1
      · have tl : tells (z - cs.kept) = ((j1 : Int) - (j2 : Int)) % 4 := by unfold tells; rw [← e3, c4]; decide
        have q := fin v z (cs.total + tells (z - cs.kept)) cs.lost hv (by unfold lookC; rw [if_neg nn, if_neg (by rw [← e3]; exact c3)])
        rw [says, tl] at q
        refine iteDT (vint_eq c4) ⟨_, rfl, _, rfl, p, C, dx, _, _, rfl, upd_same, ck.cl, ck.total, rfl, _, rfl, _, _, rfl, rfl, _, rfl, p, C, dx, _, rfl, upd_same, ck.cl, ck.total, few 6 rfl, _, rfl, ?_⟩
        rw [upd_upd]
        exact q
      · have c5 : (z - cs.kept) % 4 = 3 := by omega
        have q := fin v z (cs.total + tells (z - cs.kept)) cs.lost hv (by unfold lookC; rw [if_neg nn, if_neg (by rw [← e3]; exact c3)])
        rw [says, show tells (z - cs.kept) = -1 by unfold tells; rw [c5]; decide] at q
        refine iteDF (vint_ne c4) ⟨_, rfl, _, rfl, p, C, dx, _, _, rfl, upd_same, ck.cl, ck.total, rfl, _, rfl, _, _, rfl, rfl, _, rfl, p, C, dx, _, rfl, upd_same, ck.cl, ck.total, few 6 rfl, _, rfl, ?_⟩
        rw [upd_upd]
        exact q
theorem sc_count : FnScope ["self"] ["self"] (defScope (inClass (top 19) 2)) := ⟨rfl, rfl, rfl, by decide +kernel, rfl, by decide +kernel, by decide +kernel⟩
theorem ok_count {f C : Addr} {fd : FuncData} (F : Fun K "count" "Counter.count" (inClass (top 19) 2) f fd) (ck : CtrK K C) : FnOk P w K mg base CX0 1 f fd ["self"] (spCount K C) := by
  have sc := sc_count
  refine F.ok sc (fun vs H Q E h => ?_) (fun cdv A outer s H vs Q E hr h => ?_)
  · obtain ⟨x, s, ps, rfl, _⟩ := h
    rfl
  · obtain ⟨p, cs, ps, rfl, ⟨dx, kv, mv, hp, _, _⟩, k⟩ := h
    exact ⟨_, (pss_one (ps_ret (pe_fldK (K := K) rfl (pv 0)))), _, rfl, p, C, dx, _, _, rfl, hp, ck.cl, ck.total, rfl, k⟩
theorem sc_missed : FnScope ["self"] ["self"] (defScope (inClass (top 19) 3)) := ⟨rfl, rfl, rfl, by decide +kernel, rfl, by decide +kernel, by decide +kernel⟩
theorem ok_missed {f C : Addr} {fd : FuncData} (F : Fun K "missed" "Counter.missed" (inClass (top 19) 3) f fd) (ck : CtrK K C) : FnOk P w K mg base CX0 1 f fd ["self"] (spMissed K C) := by
  have sc := sc_missed
  refine F.ok sc (fun vs H Q E h => ?_) (fun cdv A outer s H vs Q E hr h => ?_)
  · obtain ⟨x, s, ps, rfl, _⟩ := h
    rfl
  · obtain ⟨p, cs, ps, rfl, ⟨dx, kv, mv, hp, _, _⟩, k⟩ := h
    exact ⟨_, (pss_one (ps_ret (pe_fldK (K := K) rfl (pv 0)))), _, rfl, p, C, dx, _, _, rfl, hp, ck.cl, ck.lost, rfl, k⟩
end
/-! ### dicts whose keys are tuples of numbers, bools, None and such tuples -/
mutual
def keyOf : PyData → NestedKey
  | .bool b => .num (if b then 1 else 0)
  | .int i => .num i
  | .str x => .text x
  | .tuple ds => .tup (keysOf ds)
  | _ => .none
def keysOf : List PyData → List NestedKey
  | [] => []
  | d :: ds => keyOf d :: keysOf ds
end
mutual
/-- what may be a key -/
def Hsh : PyData → Bool
  | .none => true
  | .bool _ => true
  | .int _ => true
  | .str _ => true
  | .tuple ds => HshAll ds
  | _ => false
def HshAll : List PyData → Bool
  | [] => true
  | d :: ds => Hsh d && HshAll ds
end
mutual
theorem nested_of {h : Heap} : ∀ {d : PyData} {u : Value} {as : List Addr}, Reads h u d as → Hsh d = true → NestedIs h (keyOf d) u
  | .none, _, _, r, _ => by cases r; rw [keyOf]; exact .none; all_goals intros; contradiction
  | .bool b, _, _, r, _ => by cases r; rw [keyOf]; exact .bool rfl
  | .int i, _, _, r, _ => by cases r; rw [keyOf]; exact .int _ _
  | .str x, _, _, r, _ => by cases r; rw [keyOf]; exact .text _ _
  | .tuple ds, _, _, r, hh => by
    cases r with
    | tuple h1 h2 h3 h4 =>
      rw [keyOf]
      rw [Hsh] at hh
      exact .tup h1 h2 h3 (nesteds_of h4 hh)
  | .list ds, _, _, _, hh => by rw [Hsh] at hh; cases hh; all_goals intros; contradiction
  | .dict ds, _, _, _, hh => by rw [Hsh] at hh; cases hh; all_goals intros; contradiction
theorem nesteds_of {h : Heap} : ∀ {ds : List PyData} {us : List Value} {as : List Addr}, ReadsAll h us ds as → HshAll ds = true → NestedAll h (keysOf ds) us
  | [], _, _, r, _ => by cases r; rw [keysOf]; exact .nil
  | d :: ds, _, _, r, hh => by
    cases r with
    | cons r1 r2 =>
      rw [keysOf]
      rw [HshAll, Bool.and_eq_true] at hh
      exact .cons (nested_of r1 hh.1) (nesteds_of r2 hh.2)
end
abbrev MX := List (NestedKey × Addr)
def mxs (xs : MX) : List (NestedKey × Addr × Value) := xs.map fun x => (x.1, x.2, Value.bool true)
/-- at d: a dict with these keys, True at each -/
def metO (P : Program) (w : World) (d : Addr) (xs : MX) : HO := .ext fun h => (d == sysModules) = false ∧ ∃ o es ep, h.get? d = some o ∧ o.ExactDict ∧ o.data = .dict es ep ∧ es.toList = (mxs xs).map (entryOfKey (nestedKind P w)) ∧ (xs.map (·.1)).Nodup
/-- .. and its keys' tuples stand -/
def MetAt (P : Program) (w : World) (K : PySem.W.Frag) (H : Hp) (d : Addr) (xs : MX) : Prop :=
  H d = some (metO P w d xs) ∧ ∀ x ∈ xs, ∃ dd, Dp K H (.ref x.2) dd ∧ Hsh dd = true ∧ keyOf dd = x.1 ∧ x.1.depth ≤ 8
theorem metO_ok {P : Program} {w : World} {H : Hp} {h : Heap} {d : Addr} {xs : MX} {o : Obj} {es : Array DictEntry} {ep : Nat} (hs : (d == sysModules) = false) (ho : h.get? d = some o) (hx : o.ExactDict) (hd : o.data = .dict es ep) (he : es.toList = (mxs xs).map (entryOfKey (nestedKind P w))) (hn : (xs.map (·.1)).Nodup) : ObjOk P w H h d (metO P w d xs) :=
  ⟨⟨hs, o, es, ep, ho, hx, hd, he, hn⟩, ⟨o, ho⟩, fun h1 h2 z k => by
    obtain ⟨z0, o, es, ep, q, r⟩ := z
    exact ⟨z0, o, es, ep, k _ q, r⟩⟩
theorem metO_at {P : Program} {w : World} {H : Hp} {h : Heap} {d : Addr} {xs : MX} (hok : HOk P w H h) (e : H d = some (metO P w d xs)) : (d == sysModules) = false ∧ ∃ o es ep, h.get? d = some o ∧ o.ExactDict ∧ o.data = .dict es ep ∧ es.toList = (mxs xs).map (entryOfKey (nestedKind P w)) ∧ (xs.map (·.1)).Nodup := by
  have x : ObjOk P w H h d (.ext fun h => (d == sysModules) = false ∧ ∃ o es ep, h.get? d = some o ∧ o.ExactDict ∧ o.data = .dict es ep ∧ es.toList = (mxs xs).map (entryOfKey (nestedKind P w)) ∧ (xs.map (·.1)).Nodup) := hok d _ e
  exact x.1
theorem mxs_keys (xs : MX) : (mxs xs).map (·.1) = xs.map (·.1) := by unfold mxs; rw [List.map_map]; rfl
section
variable {X : Cx} {pins : List (Addr × Obj)} {σ : St} {H : Hp} {s : Shared} {d b : Addr} {xs : MX} {dd : PyData}
theorem key_is (I : Inv X pins σ H s) (h : Dp X.K H (.ref b) dd) (hh : Hsh dd = true) (h8 : (keyOf dd).depth ≤ 8) : (nestedKind X.prog X.w).is s.heap (keyOf dd) b := by
  obtain ⟨as, r⟩ := Dp.reads I dd (.ref b) (.ref b) h rfl
  exact ⟨nested_of r hh, h8⟩
theorem met_dict (I : Inv X pins σ H s) (m : MetAt X.prog X.w X.K H d xs) : (d == sysModules) = false ∧ s.heap.DictOfH (nestedKind X.prog X.w) d (mxs xs) := by
  obtain ⟨hs, o, es, ep, ho, hx, hd, he, hn⟩ := metO_at I.hok m.1
  refine ⟨hs, o, es, ep, ho, hx, hd, he, fun x hx' => ?_, by rw [mxs_keys]; exact hn⟩
  obtain ⟨y, hy, rfl⟩ := List.mem_map.mp hx'
  obtain ⟨dd, h1, h2, h3, h4⟩ := m.2 y hy
  have := key_is I h1 h2 (by rw [h3]; exact h4)
  rw [h3] at this
  exact this
theorem at_mxs (xs : MX) (k : NestedKey) : (atKey (mxs xs) k).isSome = decide (k ∈ xs.map (·.1)) := by
  induction xs with
  | nil => rfl
  | cons x r ih =>
    by_cases e : x.1 = k
    · have h1 : atKey (mxs (x :: r)) k = some (x.2, Value.bool true) := by simp [atKey, mxs, List.find?_cons, e]
      rw [h1, List.map_cons, decide_eq_true (by rw [e]; exact List.mem_cons_self ..)]; rfl
    · have h1 : atKey (mxs (x :: r)) k = atKey (mxs r) k := by simp [atKey, mxs, List.find?_cons, e]
      rw [h1, ih, List.map_cons]
      by_cases q : k ∈ r.map (·.1)
      · rw [decide_eq_true q, decide_eq_true (List.mem_cons_of_mem _ q)]
      · rw [decide_eq_false q, decide_eq_false (fun z => (List.mem_cons.mp z).elim (fun z => e z.symm) q)]
end
/-- y not in d -/
def rNotInM (P : Program) (w : World) (K : PySem.W.Frag) : R2 := fun x y H Q => ∃ (d b : Addr) (xs : MX) (dd : PyData), x = .ref b ∧ y = .ref d ∧ MetAt P w K H d xs ∧ Dp K H (.ref b) dd ∧ Hsh dd = true ∧ (keyOf dd).depth ≤ 8 ∧ Q (.bl (!decide (keyOf dd ∈ xs.map (·.1)))) H
/-- d[y] = True, y a new key -/
def rSetM (P : Program) (w : World) (K : PySem.W.Frag) : V → V → V → Hp → (Hp → Prop) → Prop := fun o i v H Q => ∃ (d b : Addr) (xs : MX) (dd : PyData), o = .ref d ∧ i = .ref b ∧ v = .bl true ∧ MetAt P w K H d xs ∧ Dp K H (.ref b) dd ∧ Hsh dd = true ∧ (keyOf dd).depth ≤ 8 ∧
  keyOf dd ∉ xs.map (·.1) ∧ xs.length < sizeLine ∧ Q (upd H d (metO P w d (xs ++ [(keyOf dd, b)])))
section
variable {X : Cx}
theorem room8 {k : Nat} {A : Around} (r : Room k A) : A.units + 9 < cLine := by have := r.un; omega
theorem op_notInM (hu : X.A.units + 9 < cLine) : OpR X (compareOp .NotIn) (rNotInM X.prog X.w X.K) := by
  intro pins s σ H x y v u Q I rx ry h
  obtain ⟨d, b, xs, dd, rfl, rfl, m, hb, hh, h8, q⟩ := h
  cases rx
  cases ry
  obtain ⟨hs, hd⟩ := met_dict I m
  refine PyProof.Rows.wpAny_notIn_heap (knd := nestedKind X.prog X.w) (show X.A.units + 1 + 8 < cLine by omega) (key_is I hb hh h8) hs hd ?_
  rw [at_mxs]
  exact ⟨.bl _, H, I.tok _, rfl, q⟩
theorem set_met (hu : X.A.units + 9 < cLine) : PSet X (rSetM X.prog X.w X.K) := by
  intro pins s σ H o i v ov iv u Q I ro ri rv h
  obtain ⟨d, b, xs, dd, rfl, rfl, rfl, m, hb, hh, h8, hn, hl, q⟩ := h
  cases ro
  cases ri
  cases rv
  obtain ⟨hs, hd⟩ := met_dict I m
  have hz : (mxs xs).length ≤ sizeLine := by unfold mxs; rw [List.length_map]; omega
  refine wpAny_setItem_heap (knd := nestedKind X.prog X.w) (hsz := hz) (show X.A.units + 1 + 8 < cLine by omega) (key_is I hb hh h8) hd fun h' dd' hsb => ⟨_, ?_, q⟩
  have e0 : atKey (mxs xs) (keyOf dd) = none := by
    have := at_mxs xs (keyOf dd)
    rw [decide_eq_false hn] at this
    exact Option.not_isSome_iff_eq_none.mp (by rw [this]; decide)
  rw [storedH_new e0] at dd'
  obtain ⟨o, es, ep, h1, h2, h3, h4, _, h6⟩ := dd'
  refine d_write I (by rw [m.1]; exact True.intro) hsb ⟨o, h1⟩ (metO_ok hs h1 h2 h3 ?_ ?_)
  · rw [h4]; unfold mxs; simp
  · have : ((mxs xs ++ [(keyOf dd, b, Value.bool true)]).map (·.1)) = (xs ++ [(keyOf dd, b)]).map (·.1) := by rw [List.map_append, mxs_keys, List.map_append]; rfl
    rw [← this]; exact h6
/-- {} -/
def tMetNew (P : Program) (w : World) : TE := fun _ H Q => ∀ d, H d = none → Q (.ref d) (upd H d (metO P w d []))
theorem met_empty {P : Program} {w : World} {H : Hp} (h : Heap) (hb : sysModules < h.objs.size) : ObjOk P w H (h.push { cls := .type "dict", data := .dict #[] }) h.objs.size (metO P w h.objs.size []) :=
  metO_ok (by simp; exact (Nat.ne_of_lt hb).symm) (Heap.get?_push_size _ rfl) ⟨rfl, rfl, rfl⟩ rfl rfl (by simp)
theorem pe_metNew {pos : Pos} : PE X (.Dict [] [] pos) (tMetNew X.prog X.w) := ⟨fun pins s σ H Q I h =>
  wpAny_Dict_empty ⟨.ref s.heap.objs.size, _, I.laid (a := s.heap.objs.size) (o := metO X.prog X.w s.heap.objs.size []) (t' := s.toks) (fun _ _ q => Heap.get?_push_of_some _ q) (Nat.le_refl _) (met_empty s.heap I.big), rfl, h _ (I.hok.fresh (Nat.le_refl _))⟩⟩
/-- {e: True} -/
def tMetOne (P : Program) (w : World) (K : PySem.W.Frag) (tk tv : TE) : TE := fun σ H Q => ∀ d, H d = none → tk σ (upd H d (metO P w d [])) fun x H1 => tv σ H1 fun y H2 => ∃ (b : Addr) (dd : PyData), x = .ref b ∧ y = .bl true ∧ H2 d = some (metO P w d []) ∧
  Dp K H2 (.ref b) dd ∧ Hsh dd = true ∧ (keyOf dd).depth ≤ 8 ∧ Q (.ref d) (upd H2 d (metO P w d [(keyOf dd, b)]))
theorem pe_metOne {k v : Expr} {tk tv : TE} {pos : Pos} (hu : X.A.units + 9 < cLine) (hk : PE X k tk) (hv : PE X v tv) : PE X (.Dict [some k] [v] pos) (tMetOne X.prog X.w X.K tk tv) := by
  refine ⟨fun pins s σ H Q I q => ?_⟩
  have hn := I.hok.fresh (Nat.le_refl s.heap.objs.size)
  have I1 := I.laid (a := s.heap.objs.size) (o := metO X.prog X.w s.heap.objs.size []) (h' := s.heap.push { cls := .type "dict", data := .dict #[] }) (t' := s.toks) (fun _ _ q => Heap.get?_push_of_some _ q) (Nat.le_refl _) (met_empty s.heap I.big)
  rw [arm_eval_Dict, zip_pairTrees [some k] [v] X.env pos rfl rfl, dictDisplay_pairs (pairTrees [some k] [v] X.env pos) (fun z => by have := pairTrees_length [some k] [v] X.env pos rfl rfl; rw [z] at this; cases this) (by rw [pairTrees_length [some k] [v] X.env pos rfl rfl]; show 1 < 17; decide)]
  refine wpAny_bind (wpAny_standAt (wpAny_bind (wpAny_subDictH (knd := nestedKind X.prog X.w) (Q := fun d s' => wpAny (model X.prog X.w) X.A (pure (Value.ref d)) (EP X pins σ Q) X.xe s') (show X.A.units + 8 < cLine by omega) (by rw [pairTrees_length [some k] [v] X.env pos rfl rfl]; show 1 ≤ 15; decide) ?_)))
  refine pairTrees_cons_walk (thn (hk.run pins _ σ _ _ I1 (q _ hn)) fun u s1 ⟨x, H1, J1, rx, q1⟩ => thn (hv.run pins s1 σ H1 _ J1 q1) fun w2 s2 ⟨y, H2, J2, ry, b, dd, ex, ey, e, hb, hh, h8, q2⟩ => pairTrees_nil_walk ?_)
  subst ex ey
  cases rx
  cases ry
  have hm : MetAt X.prog X.w X.K H2 s.heap.objs.size [] := ⟨e, by simp⟩
  obtain ⟨hs, hd⟩ := met_dict J2 hm
  refine ⟨[(keyOf dd, b, Value.bool true)], ⟨rfl, rfl, key_is J2 hb hh h8, trivial⟩, hd, fun h' tk' dd' hsb => wpAny_pure ⟨.ref s.heap.objs.size, _, ?_, rfl, q2⟩⟩
  obtain ⟨o, es, ep, h1, h2, h3, h4, _, h6⟩ := dd'
  exact d_write J2 (by rw [e]; exact True.intro) hsb ⟨o, h1⟩ (metO_ok hs h1 h2 h3 h4 (by simp))
end
/-! ### going through all, level by level -/
section
variable {S M : Type} [DecidableEq S] (mv : S → List M) (st : S → M → S) (bad : S → M → Bool) (ok : S → Bool)
abbrev LV (S M : Type) := List (S × List M)
def tryM (s : S) (row : List M) (mb : List S × LV S M) (m : M) : Sum (List M) (List S × LV S M) :=
  if bad s m = true then .inl (row ++ [m])
  else if st s m ∉ mb.1 ∧ ok (st s m) = true then .inr (mb.1 ++ [st s m], mb.2 ++ [(st s m, row ++ [m])])
  else .inr mb
def tryMs (s : S) (row : List M) : List M → List S × LV S M → Sum (List M) (List S × LV S M)
  | [], mb => .inr mb
  | m :: r, mb => match tryM st bad ok s row mb m with
    | .inl x => .inl x
    | .inr mb' => tryMs s row r mb'
def tryL : LV S M → List S × LV S M → Sum (List M) (List S × LV S M)
  | [], mb => .inr mb
  | x :: r, mb => match tryMs st bad ok x.1 x.2 (mv x.1) mb with
    | .inl y => .inl y
    | .inr mb' => tryL r mb'
def bfs : Nat → LV S M → List S → Option (Option (List M))
  | 0, _, _ => none
  | n + 1, level, met => match level with
    | [] => some none
    | x :: r => match tryL mv st bad ok (x :: r) (met, []) with
      | .inl row => some (some row)
      | .inr mb => bfs n mb.2 mb.1
theorem bfs_cons {n : Nat} {x : S × List M} {r : LV S M} {met : List S} : bfs mv st bad ok (n + 1) (x :: r) met = (match tryL mv st bad ok (x :: r) (met, []) with
    | .inl row => some (some row)
    | .inr mb => bfs mv st bad ok n mb.2 mb.1) := by
  show (match x :: r with
    | [] => some none
    | x :: r => match tryL mv st bad ok (x :: r) (met, []) with
      | .inl row => some (some row)
      | .inr mb => bfs mv st bad ok n mb.2 mb.1) = _
  rfl
/-- a way without a fault -/
inductive Clean (s0 : S) : List M → S → Prop
  | nil : Clean s0 [] s0
  | snoc {row : List M} {s : S} {m : M} : Clean s0 row s → m ∈ mv s → bad s m = false → ok (st s m) = true → Clean s0 (row ++ [m]) (st s m)
/-- one that ends in a fault -/
def Fault (s0 : S) (row : List M) : Prop := ∃ pre m s, row = pre ++ [m] ∧ Clean mv st bad ok s0 pre s ∧ m ∈ mv s ∧ bad s m = true
variable {mv st bad ok}
/-- what a part of a level leaves: what was met, what is behind; all that is new -/
structure Ext (mb mb' : List S × LV S M) (src : LV S M) : Prop where
  met : ∃ new : LV S M, mb'.1 = mb.1 ++ new.map (·.1) ∧ mb'.2 = mb.2 ++ new ∧ (∀ y ∈ new, ok y.1 = true ∧ ∃ x ∈ src, ∃ m ∈ mv x.1, bad x.1 m = false ∧ y = (st x.1 m, x.2 ++ [m])) ∧ (mb.1.Nodup → mb'.1.Nodup)
theorem Ext.refl {mb : List S × LV S M} {src : LV S M} : Ext (mv := mv) (st := st) (bad := bad) (ok := ok) mb mb src := ⟨[], by simp, by simp, by simp, id⟩
theorem Ext.trans {a b c : List S × LV S M} {src : LV S M} (h : Ext (mv := mv) (st := st) (bad := bad) (ok := ok) a b src) (k : Ext (mv := mv) (st := st) (bad := bad) (ok := ok) b c src) : Ext (mv := mv) (st := st) (bad := bad) (ok := ok) a c src := by
  obtain ⟨n1, h1, h2, h3, h4⟩ := h
  obtain ⟨n2, k1, k2, k3, k4⟩ := k
  refine ⟨n1 ++ n2, by rw [k1, h1]; simp, by rw [k2, h2]; simp, fun y hy => ?_, fun q => k4 (h4 q)⟩
  rcases List.mem_append.mp hy with q | q
  · exact h3 y q
  · exact k3 y q
theorem Ext.sub {a b : List S × LV S M} {src src' : LV S M} (h : Ext (mv := mv) (st := st) (bad := bad) (ok := ok) a b src) (hs : ∀ x ∈ src, x ∈ src') : Ext (mv := mv) (st := st) (bad := bad) (ok := ok) a b src' := by
  obtain ⟨n1, h1, h2, h3, h4⟩ := h
  exact ⟨n1, h1, h2, fun y hy => let ⟨q, x, hx, r⟩ := h3 y hy; ⟨q, x, hs x hx, r⟩, h4⟩
theorem Ext.mem {a b : List S × LV S M} {src : LV S M} (h : Ext (mv := mv) (st := st) (bad := bad) (ok := ok) a b src) {s : S} (hs : s ∈ a.1) : s ∈ b.1 := by
  obtain ⟨n1, h1, _⟩ := h
  rw [h1]; exact List.mem_append_left _ hs
theorem tryMs_ok {s : S} {row : List M} : ∀ {ms : List M} {mb mb' : List S × LV S M}, (∀ m ∈ ms, m ∈ mv s) → tryMs st bad ok s row ms mb = .inr mb' →
    Ext (mv := mv) (st := st) (bad := bad) (ok := ok) mb mb' [(s, row)] ∧ ∀ m ∈ ms, bad s m = false ∧ (ok (st s m) = true → st s m ∈ mb'.1)
  | [], mb, mb', _, e => by
    cases e
    exact ⟨Ext.refl, by simp⟩
  | m :: r, mb, mb', hm, e => by
    unfold tryMs at e
    have hmm := hm m (by simp)
    cases q : tryM st bad ok s row mb m with
    | inl x => rw [q] at e; cases e
    | inr mb1 =>
      rw [q] at e
      obtain ⟨h1, h2⟩ := tryMs_ok (fun x hx => hm x (by simp [hx])) e
      unfold tryM at q
      by_cases b : bad s m = true
      · rw [if_pos b] at q; cases q
      · rw [if_neg b] at q
        have b' : bad s m = false := by simpa using b
        by_cases c : st s m ∉ mb.1 ∧ ok (st s m) = true
        · rw [if_pos c] at q
          cases q
          have e1 : Ext (mv := mv) (st := st) (bad := bad) (ok := ok) mb (mb.1 ++ [st s m], mb.2 ++ [(st s m, row ++ [m])]) [(s, row)] :=
            ⟨[(st s m, row ++ [m])], rfl, rfl, fun y hy => by rw [List.mem_singleton.mp hy]; exact ⟨c.2, (s, row), by simp, m, hmm, b', rfl⟩, fun nd => by
              refine List.nodup_append.mpr ⟨nd, by simp, fun x hx y hy e => ?_⟩
              rw [List.mem_singleton.mp hy] at e
              exact c.1 (e ▸ hx)⟩
          refine ⟨e1.trans h1, fun x hx => ?_⟩
          rcases List.mem_cons.mp hx with rfl | hx
          · exact ⟨b', fun _ => h1.mem (by simp)⟩
          · exact h2 x hx
        · rw [if_neg c] at q
          cases q
          refine ⟨h1, fun x hx => ?_⟩
          rcases List.mem_cons.mp hx with rfl | hx
          · refine ⟨b', fun o => h1.mem ?_⟩
            exact Decidable.byContradiction fun z => c ⟨z, o⟩
          · exact h2 x hx
theorem tryMs_bad {s : S} {row y : List M} : ∀ {ms : List M} {mb : List S × LV S M}, tryMs st bad ok s row ms mb = .inl y → ∃ m ∈ ms, bad s m = true ∧ y = row ++ [m]
  | [], mb, e => by cases e
  | m :: r, mb, e => by
    unfold tryMs at e
    cases q : tryM st bad ok s row mb m with
    | inl x =>
      rw [q] at e
      cases e
      unfold tryM at q
      by_cases b : bad s m = true
      · rw [if_pos b] at q; cases q; exact ⟨m, by simp, b, rfl⟩
      · rw [if_neg b] at q; split at q <;> cases q
    | inr mb1 =>
      rw [q] at e
      obtain ⟨m', h1, h2⟩ := tryMs_bad e
      exact ⟨m', by simp [h1], h2⟩
theorem tryL_ok : ∀ {lv : LV S M} {mb mb' : List S × LV S M}, tryL mv st bad ok lv mb = .inr mb' →
    Ext (mv := mv) (st := st) (bad := bad) (ok := ok) mb mb' lv ∧ ∀ x ∈ lv, ∀ m ∈ mv x.1, bad x.1 m = false ∧ (ok (st x.1 m) = true → st x.1 m ∈ mb'.1)
  | [], mb, mb', e => by
    cases e
    exact ⟨Ext.refl, by simp⟩
  | x :: r, mb, mb', e => by
    unfold tryL at e
    cases q : tryMs st bad ok x.1 x.2 (mv x.1) mb with
    | inl y => rw [q] at e; cases e
    | inr mb1 =>
      rw [q] at e
      obtain ⟨h1, h2⟩ := tryMs_ok (fun m hm => hm) q
      obtain ⟨k1, k2⟩ := tryL_ok e
      refine ⟨(h1.sub (by simp)).trans (k1.sub fun y hy => by simp [hy]), fun y hy => ?_⟩
      rcases List.mem_cons.mp hy with rfl | hy
      · intro m hm
        obtain ⟨a, b⟩ := h2 m hm
        exact ⟨a, fun o => k1.mem (b o)⟩
      · exact k2 y hy
theorem tryL_bad {y : List M} : ∀ {lv : LV S M} {mb : List S × LV S M}, tryL mv st bad ok lv mb = .inl y → ∃ x ∈ lv, ∃ m ∈ mv x.1, bad x.1 m = true ∧ y = x.2 ++ [m]
  | [], mb, e => by cases e
  | x :: r, mb, e => by
    unfold tryL at e
    cases q : tryMs st bad ok x.1 x.2 (mv x.1) mb with
    | inl z =>
      rw [q] at e
      cases e
      obtain ⟨m, h1, h2, h3⟩ := tryMs_bad q
      exact ⟨x, by simp, m, h1, h2, h3⟩
    | inr mb1 =>
      rw [q] at e
      obtain ⟨x', h1, h2⟩ := tryL_bad e
      exact ⟨x', by simp [h1], h2⟩
/-- k levels are gone through -/
structure Gone (mv : S → List M) (st : S → M → S) (bad : S → M → Bool) (ok : S → Bool) (s0 : S) (k : Nat) (C : S → Prop) (level : LV S M) (met : List S) : Prop where
  way : ∀ x ∈ level, Clean mv st bad ok s0 x.2 x.1 ∧ x.2.length = k
  shut : ∀ s, C s → ∀ m ∈ mv s, bad s m = false ∧ (ok (st s m) = true → C (st s m) ∨ st s m ∈ level.map (·.1))
  seen : ∀ s ∈ met, C s ∨ s ∈ level.map (·.1)
  less : ∀ row s, Clean mv st bad ok s0 row s → row.length < k → C s
  last : ∀ row s, Clean mv st bad ok s0 row s → row.length = k → C s ∨ s ∈ level.map (·.1)
theorem gone_start {s0 : S} {met : List S} (hm : ∀ s ∈ met, s = s0) : Gone mv st bad ok s0 0 (fun _ => False) [(s0, [])] met :=
  ⟨fun x hx => by rw [List.mem_singleton.mp hx]; exact ⟨.nil, rfl⟩, fun s h => h.elim, fun s hs => .inr (by rw [hm s hs]; simp), fun row s _ h => by omega, fun row s h e => by
    cases h with
    | nil => exact .inr (by simp)
    | snoc _ _ _ _ => simp at e⟩
theorem gone_next {s0 : S} {k : Nat} {C : S → Prop} {level : LV S M} {met : List S} {mb : List S × LV S M} (g : Gone mv st bad ok s0 k C level met) (e : tryL mv st bad ok level (met, []) = .inr mb) :
    Gone mv st bad ok s0 (k + 1) (fun s => C s ∨ s ∈ level.map (·.1)) mb.2 mb.1 := by
  obtain ⟨⟨new, h1, h2, h3, h4⟩, h5⟩ := tryL_ok e
  simp only [List.nil_append] at h2
  have hmet : ∀ s ∈ mb.1, (C s ∨ s ∈ level.map (·.1)) ∨ s ∈ mb.2.map (·.1) := fun s hs => by
    rw [h1] at hs
    rcases List.mem_append.mp hs with q | q
    · exact .inl (g.seen s q)
    · rw [h2]; exact .inr q
  refine ⟨fun y hy => ?_, fun s hs m hm => ?_, hmet, fun row s hc hl => ?_, fun row s hc hl => ?_⟩
  · rw [h2] at hy
    obtain ⟨o, x, hx, m, hm, hb, rfl⟩ := h3 y hy
    obtain ⟨w1, w2⟩ := g.way x hx
    exact ⟨w1.snoc hm hb o, by simp [w2]⟩
  · rcases hs with hs | hs
    · obtain ⟨a, b⟩ := g.shut s hs m hm
      exact ⟨a, fun o => .inl (b o)⟩
    · obtain ⟨x, hx, rfl⟩ := List.mem_map.mp hs
      obtain ⟨a, b⟩ := h5 x hx m hm
      exact ⟨a, fun o => hmet _ (b o)⟩
  · by_cases c : row.length < k
    · exact .inl (g.less row s hc c)
    · exact g.last row s hc (by omega)
  · cases hc with
    | nil => simp at hl
    | @snoc row' s' m hc' hm hb ho =>
      have hl' : row'.length = k := by simpa using hl
      rcases g.last row' s' hc' hl' with q | q
      · obtain ⟨_, b⟩ := g.shut s' q m hm
        exact .inl (b ho)
      · obtain ⟨x, hx, rfl⟩ := List.mem_map.mp q
        obtain ⟨_, b⟩ := h5 x hx m hm
        exact hmet _ (b ho)
theorem clean_snoc {s0 s : S} {row : List M} (h : Clean mv st bad ok s0 row s) : True := trivial
/-- what is found is a fault, and none is shorter -/
theorem bfs_spec {s0 : S} : ∀ {n k : Nat} {C : S → Prop} {level : LV S M} {met : List S} {r : Option (List M)}, Gone mv st bad ok s0 k C level met → bfs mv st bad ok n level met = some r →
    (∀ row, r = some row → Fault mv st bad ok s0 row ∧ ∀ row', Fault mv st bad ok s0 row' → row.length ≤ row'.length) ∧ (r = none → ∀ row', ¬ Fault mv st bad ok s0 row')
  | 0, _, _, _, _, _, _, e => by cases e
  | n + 1, k, C, level, met, r, g, e => by
    unfold bfs at e
    cases level with
    | nil =>
      cases e
      refine ⟨fun row h => (by cases h), fun _ row' hf => ?_⟩
      obtain ⟨pre, m, s, rfl, hc, hm, hb⟩ := hf
      have all : ∀ row s, Clean mv st bad ok s0 row s → C s := by
        intro row s hc
        induction hc with
        | nil =>
          rcases Nat.eq_zero_or_pos k with hk | hk
          · rcases g.last [] s0 .nil (by simp [hk]) with q | q
            · exact q
            · simp at q
          · exact g.less [] s0 .nil (by simpa using hk)
        | snoc _ hm hb ho ih =>
          rcases (g.shut _ ih _ hm).2 ho with q | q
          · exact q
          · simp at q
      have := (g.shut s (all pre s hc) m hm).1
      rw [hb] at this; cases this
    | cons x rr =>
      dsimp only at e
      cases q : tryL mv st bad ok (x :: rr) (met, []) with
      | inl row =>
        rw [q] at e
        cases e
        refine ⟨fun row1 h => ?_, fun h => by cases h⟩
        cases h
        obtain ⟨y, hy, m, hm, hb, rfl⟩ := tryL_bad q
        obtain ⟨w1, w2⟩ := g.way y hy
        refine ⟨⟨y.2, m, y.1, rfl, w1, hm, hb⟩, fun row' hf => ?_⟩
        obtain ⟨pre, m', s', rfl, hc, hm', hb'⟩ := hf
        rw [List.length_append, List.length_append, w2]
        refine Nat.add_le_add_right (Nat.le_of_not_lt fun hl => ?_) 1
        have := (g.shut s' (g.less pre s' hc hl) m' hm').1
        rw [hb'] at this; cases this
      | inr mb =>
        rw [q] at e
        exact bfs_spec (gone_next g q) e
theorem len_le_of_sub {l U : List S} (nd : l.Nodup) (h : ∀ s ∈ l, s ∈ U) : l.length ≤ U.length := by
  induction l generalizing U with
  | nil => exact Nat.zero_le _
  | cons a r ih =>
    have ha : a ∈ U := h a (by simp)
    have hn := List.nodup_cons.mp nd
    have := ih (U := U.erase a) hn.2 fun s hs => (List.mem_erase_of_ne (fun e : s = a => hn.1 (by rw [← e]; exact hs))).mpr (h s (by simp [hs]))
    rw [List.length_erase_of_mem ha] at this
    have : 0 < U.length := List.length_pos_of_mem ha
    simp only [List.length_cons]
    omega
/-- it ends -/
theorem bfs_ends {U : List S} (hU : ∀ s ∈ U, ∀ m ∈ mv s, ok (st s m) = true → st s m ∈ U) : ∀ (n : Nat) (level : LV S M) (met : List S), (∀ x ∈ level, x.1 ∈ U) → (∀ s ∈ met, s ∈ U) → met.Nodup → U.length + 2 ≤ n + met.length + (if level = [] then 1 else 0) →
    ∃ r, bfs mv st bad ok n level met = some r
  | 0, level, met, _, hm, nd, hn => by
    have := len_le_of_sub nd hm
    split at hn <;> omega
  | n + 1, level, met, hl, hm, nd, hn => by
    unfold bfs
    cases level with
    | nil => exact ⟨none, rfl⟩
    | cons x rr =>
      dsimp only
      cases q : tryL mv st bad ok (x :: rr) (met, []) with
      | inl row => exact ⟨some row, rfl⟩
      | inr mb =>
        obtain ⟨⟨new, h1, h2, h3, h4⟩, _⟩ := tryL_ok q
        simp only [List.nil_append] at h2
        have hnew : ∀ y ∈ new, y.1 ∈ U := fun y hy => by
          obtain ⟨o, z, hz, m, hm', _, rfl⟩ := h3 y hy
          exact hU z.1 (hl z hz) m hm' o
        refine bfs_ends hU n mb.2 mb.1 (by rw [h2]; exact hnew) (fun s hs => ?_) (h4 nd) ?_
        · rw [h1] at hs
          rcases List.mem_append.mp hs with q | q
          · exact hm s q
          · obtain ⟨y, hy, rfl⟩ := List.mem_map.mp q
            exact hnew y hy
        · rw [if_neg (by simp)] at hn
          rw [h1, List.length_append, List.length_map, h2]
          cases new with
          | nil => rw [if_pos rfl]; simp; omega
          | cons y r => rw [if_neg (by simp)]; simp; omega
end
/-! ### the game: all that a knob may do -/
structure GS where
  phase : Int
  since : Int
  last : Int
  kept : Int
  met : Option Int
  many : Int
  up : Bool
  down : Bool
deriving DecidableEq
structure GP where
  gap : Int
  bounce : Int
  apart : Int
  same : Int
structure GP.Ok (g : GP) : Prop where
  g1 : 1 ≤ g.gap
  g6 : g.gap ≤ 6
  b0 : 0 ≤ g.bounce
  b1 : g.bounce ≤ g.gap
  a1 : 1 ≤ g.apart
  a6 : g.apart ≤ 6
  s1 : 1 ≤ g.same
  s3 : g.same ≤ 3
def gFirst (g : GP) : GS := ⟨0, g.gap, 0, 0, none, 0, false, false⟩
def gAge (s : GS) (t : Int) : Int := if t = 0 then s.since else 0
def gMove (g : GP) (s : GS) (t : Int) : List Mv :=
  if t = 0 ∨ g.gap ≤ s.since then (t, false) :: (if s.phase = 0 ∧ gAge s t < g.bounce ∧ (t ≠ 0 ∨ s.last ≠ 0) then [(t, true)] else []) else []
def gMoves (g : GP) (s : GS) : List Mv := gMove g s 0 ++ gMove g s (-1) ++ gMove g s 1
def gTurn (s : GS) (t : Int) : GS := if t = 0 then s else { s with since := 0, last := t, kept := s.kept - t, met := s.met.map (· - t), up := s.up || decide (0 < t), down := s.down || decide (t < 0) }
def gSeen (s : GS) (old : Bool) : Int := if old = true then 0 - s.last else 0
def gSees (s : GS) (z : Int) : Bool := match s.met with
  | none => false
  | some m => decide ((m - z) % 4 = 0)
def gMany (g : GP) (s : GS) (z : Int) : Int := if gSees s z = true then min g.same (s.many + 1) else 1
def gLook (g : GP) (s : GS) (old : Bool) : GS × Int :=
  if gMany g s (gSeen s old) = g.same then ({ s with met := some (gSeen s old), many := gMany g s (gSeen s old), kept := gSeen s old }, gSeen s old - s.kept)
  else ({ s with met := some (gSeen s old), many := gMany g s (gSeen s old) }, 0)
def gSaw (g : GP) (s : GS) (m : Mv) : GS × Int := if s.phase = 0 then gLook g (gTurn s m.1) m.2 else (gTurn s m.1, 0)
def gBy (g : GP) (s : GS) (m : Mv) : Int := (gSaw g s m).2
def gNoise (g : GP) (s : GS) (m : Mv) : Bool := (decide (0 < gBy g s m) && !(gTurn s m.1).up) || (decide (gBy g s m < 0) && !(gTurn s m.1).down)
def gEnd (g : GP) (ph : Int) (by' : Int) (s : GS) : GS := { s with phase := (ph + 1) % g.apart, since := min (s.since + 1) g.gap, up := if by' = 0 then s.up else false, down := if by' = 0 then s.down else false }
def gNext (g : GP) (s : GS) (m : Mv) : GS := gEnd g s.phase (gBy g s m) (gSaw g s m).1
def absI (z : Int) : Int := if z < 0 then -z else z
def gBad (g : GP) (least : Int) (noises : Bool) (s : GS) (m : Mv) : Bool := decide (least ≤ absI (gBy g s m)) || (noises && gNoise g s m)
def gFar (s : GS) : Bool := decide (absI s.kept < 8)
abbrev gBfs (g : GP) (least : Int) (noises : Bool) := bfs (gMoves g) (gNext g) (gBad g least noises) gFar
abbrev gClean (g : GP) (least : Int) (noises : Bool) := Clean (gMoves g) (gNext g) (gBad g least noises) gFar
abbrev gFault (g : GP) (least : Int) (noises : Bool) := Fault (gMoves g) (gNext g) (gBad g least noises) gFar (gFirst g)
/-! data -/
def metV : Option Int → V
  | none => .non
  | some m => .int m
def metP : Option Int → PyData
  | none => .none
  | some m => .int m
def gsV (s : GS) : List V := [.int s.phase, .int s.since, .int s.last, .int s.kept, metV s.met, .int s.many, .bl s.up, .bl s.down]
def gsDs (s : GS) : List PyData := [.int s.phase, .int s.since, .int s.last, .int s.kept, metP s.met, .int s.many, .bool s.up, .bool s.down]
def gsD (s : GS) : PyData := .tuple (gsDs s)
theorem dpa_gs {K : PySem.W.Frag} {H : Hp} (s : GS) : DpAll K H (gsV s) (gsDs s) := by
  refine .cons (.int _) (.cons (.int _) (.cons (.int _) (.cons (.int _) (.cons ?_ (.cons (.int _) (.cons (.bl _) (.cons (.bl _) .nil)))))))
  cases s.met with
  | none => exact .non
  | some m => exact .int m
theorem dp_gs {K : PySem.W.Frag} {H : Hp} {v : V} {s : GS} (h : Dp K H v (gsD s)) : ∃ a, v = .ref a ∧ SqT K H a (gsV s) := by
  obtain ⟨a, xs, rfl, h1, h2⟩ := dp_tup h
  refine ⟨a, rfl, ?_⟩
  have : xs = gsV s := by
    unfold gsDs at h2
    cases h2 with
    | cons q1 t =>
    cases t with
    | cons q2 t =>
    cases t with
    | cons q3 t =>
    cases t with
    | cons q4 t =>
    cases t with
    | cons q5 t =>
    cases t with
    | cons q6 t =>
    cases t with
    | cons q7 t =>
    cases t with
    | cons q8 t =>
    cases t
    rw [dp_int q1, dp_int q2, dp_int q3, dp_int q4, dp_int q6, dp_bl q7, dp_bl q8]
    unfold gsV
    cases e : s.met with
    | none => rw [e] at q5; rw [dp_non q5]; rfl
    | some m => rw [e] at q5; rw [dp_int q5]; rfl
  rw [this] at h1
  exact h1
theorem hsh_gs (s : GS) : Hsh (gsD s) = true := by
  have : ∀ m, Hsh (metP m) = true := fun m => by cases m <;> rfl
  simp [gsD, gsDs, Hsh, HshAll, this]
theorem keyOf_none : keyOf .none = .none := by rw [keyOf]; all_goals intros; contradiction
theorem key_gs (s : GS) : keyOf (gsD s) = .tup [.num s.phase, .num s.since, .num s.last, .num s.kept, (match s.met with | none => .none | some m => .num m), .num s.many, .num (if s.up then 1 else 0), .num (if s.down then 1 else 0)] := by
  cases e : s.met with
  | none => simp [gsD, gsDs, keyOf, keysOf, metP, e]
  | some m => simp [gsD, gsDs, keyOf, keysOf, metP, e]
theorem depth_gs (s : GS) : (keyOf (gsD s)).depth ≤ 8 := by
  rw [key_gs]
  cases s.met <;> simp [NestedKey.depth, NestedKey.depthAll]
theorem key_inj {s t : GS} (h : keyOf (gsD s) = keyOf (gsD t)) : s = t := by
  rw [key_gs, key_gs] at h
  obtain ⟨a1, a2, a3, a4, a5, a6, a7, a8⟩ := s
  obtain ⟨b1, b2, b3, b4, b5, b6, b7, b8⟩ := t
  injection h with h
  simp only [List.cons.injEq, NestedKey.num.injEq, and_true] at h
  obtain ⟨h1, h2, h3, h4, h5, h6, h7, h8⟩ := h
  subst h1 h2 h3 h4 h6
  have e5 : a5 = b5 := by
    cases a5 with
    | none =>
      cases b5 with
      | none => rfl
      | some m => cases h5
    | some m =>
      cases b5 with
      | none => cases h5
      | some n => injection h5 with h5; rw [h5]
  have e7 : a7 = b7 := by cases a7 <;> cases b7 <;> first | rfl | (simp at h7)
  have e8 : a8 = b8 := by cases a8 <;> cases b8 <;> first | rfl | (simp at h8)
  rw [e5, e7, e8]
/-! the states are few -/
structure VS (g : GP) (s : GS) : Prop where
  p0 : 0 ≤ s.phase
  p1 : s.phase < g.apart
  i0 : 0 ≤ s.since
  i1 : s.since ≤ g.gap
  l : s.last = -1 ∨ s.last = 0 ∨ s.last = 1
  k0 : -8 < s.kept
  k1 : s.kept < 8
  m : ∀ z, s.met = some z → -(if s.phase = 0 then g.apart else s.phase) ≤ z ∧ z ≤ (if s.phase = 0 then g.apart else s.phase)
  n0 : 0 ≤ s.many
  n1 : s.many ≤ g.same
theorem vs_first {g : GP} (o : g.Ok) : VS g (gFirst g) := by
  have := o.g1; have := o.a1; have := o.s1
  refine ⟨by show (0 : Int) ≤ 0; omega, by show (0 : Int) < _; omega, by show (0 : Int) ≤ g.gap; omega, by show g.gap ≤ g.gap; omega, .inr (.inl rfl), by show (-8 : Int) < 0; omega, by show (0 : Int) < 8; omega, fun z h => (by cases h), by show (0 : Int) ≤ 0; omega, by show (0 : Int) ≤ g.same; omega⟩
theorem move_turn {g : GP} {s : GS} {m : Mv} (h : m ∈ gMoves g s) : m.1 = 0 ∨ m.1 = -1 ∨ m.1 = 1 := by
  unfold gMoves at h
  have key : ∀ t, m ∈ gMove g s t → m.1 = t := fun t ht => by
    unfold gMove at ht
    split at ht
    · rcases List.mem_cons.mp ht with rfl | ht
      · rfl
      · split at ht
        · rw [List.mem_singleton.mp ht]
        · cases ht
    · cases ht
  rcases List.mem_append.mp h with h | h
  · rcases List.mem_append.mp h with h | h
    · exact .inl (key _ h)
    · exact .inr (.inl (key _ h))
  · exact .inr (.inr (key _ h))
theorem vs_next {g : GP} (o : g.Ok) {s : GS} (v : VS g s) {m : Mv} (hm : m ∈ gMoves g s) (hk : gFar (gNext g s m) = true) : VS g (gNext g s m) := by
  have ht := move_turn hm
  have := o.g1; have := o.a1; have := o.s1
  have hk' : absI (gNext g s m).kept < 8 := of_decide_eq_true hk
  have t1 : (gTurn s m.1).since = (if m.1 = 0 then s.since else 0) := by unfold gTurn; split <;> rfl
  have t2 : (gTurn s m.1).last = (if m.1 = 0 then s.last else m.1) := by unfold gTurn; split <;> rfl
  have t3 : (gTurn s m.1).met = (if m.1 = 0 then s.met else s.met.map (· - m.1)) := by unfold gTurn; split <;> rfl
  have t4 : (gTurn s m.1).many = s.many := by unfold gTurn; split <;> rfl
  have l1 : (gTurn s m.1).last = -1 ∨ (gTurn s m.1).last = 0 ∨ (gTurn s m.1).last = 1 := by
    rw [t2]; have := v.l; split <;> omega
  have w1 : (gSaw g s m).1.since = (gTurn s m.1).since := by unfold gSaw gLook; split <;> (try split) <;> rfl
  have w2 : (gSaw g s m).1.last = (gTurn s m.1).last := by unfold gSaw gLook; split <;> (try split) <;> rfl
  have hp : (s.phase + 1) % g.apart = if s.phase + 1 = g.apart then 0 else s.phase + 1 := by
    have := v.p0; have := v.p1
    split
    · rename_i e; rw [e]; exact Int.emod_self
    · exact Int.emod_eq_of_lt (by omega) (by omega)
  have n2 : 0 ≤ (gSaw g s m).1.many ∧ (gSaw g s m).1.many ≤ g.same := by
    have mm : ∀ z, 0 ≤ gMany g (gTurn s m.1) z ∧ gMany g (gTurn s m.1) z ≤ g.same := fun z => by
      unfold gMany
      rw [t4]
      have := v.n0; have := v.n1
      split
      · omega
      · omega
    unfold gSaw gLook
    split
    · split <;> exact mm _
    · rw [t4]; exact ⟨v.n0, v.n1⟩
  have m2 : ∀ z, (gSaw g s m).1.met = some z → if s.phase = 0 then -1 ≤ z ∧ z ≤ 1 else -(s.phase + 1) ≤ z ∧ z ≤ s.phase + 1 := by
    intro z hz
    unfold gSaw at hz
    split at hz
    · rename_i hph
      rw [if_pos hph]
      have : (gLook g (gTurn s m.1) m.2).1.met = some (gSeen (gTurn s m.1) m.2) := by unfold gLook; split <;> rfl
      rw [this] at hz
      cases hz
      unfold gSeen
      split <;> omega
    · rename_i hph
      rw [if_neg hph]
      rw [t3] at hz
      split at hz
      · have := v.m z hz
        rw [if_neg hph] at this
        omega
      · cases e : s.met with
        | none => rw [e] at hz; cases hz
        | some y =>
          rw [e] at hz
          cases hz
          have := v.m y e
          rw [if_neg hph] at this
          show _ ≤ y - m.1 ∧ y - m.1 ≤ _
          omega
  refine ⟨?_, ?_, ?_, ?_, ?_, ?_, ?_, ?_, n2.1, n2.2⟩
  · exact Int.emod_nonneg _ (by omega)
  · exact Int.emod_lt_of_pos _ (by omega)
  · show 0 ≤ min ((gSaw g s m).1.since + 1) g.gap
    rw [w1, t1]; have := v.i0; split <;> omega
  · show min ((gSaw g s m).1.since + 1) g.gap ≤ g.gap
    omega
  · show (gSaw g s m).1.last = -1 ∨ (gSaw g s m).1.last = 0 ∨ (gSaw g s m).1.last = 1
    rw [w2]; exact l1
  · unfold absI at hk'; split at hk' <;> omega
  · unfold absI at hk'; split at hk' <;> omega
  · intro z hz
    have q := m2 z hz
    show -(if (s.phase + 1) % g.apart = 0 then g.apart else (s.phase + 1) % g.apart) ≤ z ∧ z ≤ (if (s.phase + 1) % g.apart = 0 then g.apart else (s.phase + 1) % g.apart)
    rw [hp]
    have := v.p0; have := v.p1
    by_cases c : s.phase = 0
    · rw [if_pos c] at q
      split <;> (try split) <;> omega
    · rw [if_neg c] at q
      split <;> (try split) <;> omega
def ir (a : Int) (n : Nat) : List Int := (List.range n).map fun k : Nat => a + (k : Int)
theorem mem_ir {a z : Int} {n : Nat} (h0 : a ≤ z) (h1 : z < a + n) : z ∈ ir a n := List.mem_map.mpr ⟨(z - a).toNat, List.mem_range.mpr (by omega), by omega⟩
theorem len_flat {α β : Type} {f : α → List β} {c : Nat} (h : ∀ x, (f x).length = c) : ∀ l : List α, (l.flatMap f).length = l.length * c
  | [] => by simp
  | x :: l => by rw [List.flatMap_cons, List.length_append, h, len_flat h l, List.length_cons, Nat.succ_mul]; omega
def gAll : List GS :=
  (ir 0 6).flatMap fun p => (ir 0 7).flatMap fun i => (ir (-1) 3).flatMap fun l => (ir (-7) 15).flatMap fun k => (none :: (ir (-6) 13).map some).flatMap fun m => (ir 0 4).flatMap fun n => [true, false].flatMap fun u => [true, false].map fun d => ⟨p, i, l, k, m, n, u, d⟩
theorem gAll_len : gAll.length = 423360 := by
  have h0 : ∀ (p i l k : Int) (m : Option Int) (n : Int) (u : Bool), ([true, false].map fun d => (⟨p, i, l, k, m, n, u, d⟩ : GS)).length = 2 := fun _ _ _ _ _ _ _ => rfl
  unfold gAll
  rw [len_flat (c := 70560) fun p => ?_]
  · simp [ir]
  rw [len_flat (c := 10080) fun i => ?_]
  · simp [ir]
  rw [len_flat (c := 3360) fun l => ?_]
  · simp [ir]
  rw [len_flat (c := 224) fun k => ?_]
  · simp [ir]
  rw [len_flat (c := 16) fun m => ?_]
  · simp [ir]
  rw [len_flat (c := 4) fun n => ?_]
  · simp [ir]
  rw [len_flat (c := 2) fun u => h0 _ _ _ _ _ _ _]
  rfl
theorem vs_all {g : GP} (o : g.Ok) {s : GS} (v : VS g s) : s ∈ gAll := by
  obtain ⟨p, i, l, k, m, n, u, d⟩ := s
  obtain ⟨p0, p1, i0, i1, hl, k0, k1, hm, n0, n1⟩ := v
  have := o.g6; have := o.a6; have := o.s3
  dsimp only at *
  unfold gAll
  refine List.mem_flatMap.mpr ⟨p, mem_ir (by omega) (by omega), List.mem_flatMap.mpr ⟨i, mem_ir (by omega) (by omega), List.mem_flatMap.mpr ⟨l, mem_ir (by omega) (by omega), List.mem_flatMap.mpr ⟨k, mem_ir (by omega) (by omega), List.mem_flatMap.mpr ⟨m, ?_, List.mem_flatMap.mpr ⟨n, mem_ir (by omega) (by omega), List.mem_flatMap.mpr ⟨u, by cases u <;> simp, List.mem_map.mpr ⟨d, by cases d <;> simp, rfl⟩⟩⟩⟩⟩⟩⟩⟩
  cases m with
  | none => simp
  | some z =>
    refine List.mem_cons_of_mem _ (List.mem_map.mpr ⟨z, mem_ir ?_ ?_, rfl⟩)
    · have := (hm z rfl).1; split at this <;> omega
    · have := (hm z rfl).2; split at this <;> omega
/-- all that may be of a game -/
noncomputable def gSome (g : GP) : List GS := gAll.filter fun s => @decide (VS g s) (Classical.propDecidable _)
theorem mem_some {g : GP} (o : g.Ok) {s : GS} : s ∈ gSome g ↔ VS g s := by
  unfold gSome
  rw [List.mem_filter]
  constructor
  · intro h; exact @of_decide_eq_true _ (Classical.propDecidable _) h.2
  · intro h; exact ⟨vs_all o h, @decide_eq_true _ (Classical.propDecidable _) h⟩
theorem some_len (g : GP) : (gSome g).length ≤ 423360 := by
  rw [← gAll_len]
  exact List.length_filter_le _ _
theorem some_shut {g : GP} (o : g.Ok) : ∀ s ∈ gSome g, ∀ m ∈ gMoves g s, gFar (gNext g s m) = true → gNext g s m ∈ gSome g :=
  fun s hs m hm hk => (mem_some o).mpr (vs_next o ((mem_some o).mp hs) hm hk)
/-- the game ends -/
theorem game_ends {g : GP} (o : g.Ok) (least : Int) (noises : Bool) : ∃ r, gBfs g least noises 1000000 [(gFirst g, [])] [gFirst g] = some r := by
  have h1 := (mem_some o).mpr (vs_first o)
  refine bfs_ends (some_shut o) 1000000 _ _ (fun x hx => by rw [List.mem_singleton.mp hx]; exact h1) (fun x hx => by rw [List.mem_singleton.mp hx]; exact h1) (by simp) ?_
  have := some_len g
  rw [if_neg (by simp)]
  simp only [List.length_singleton]
  omega
/-! ### the class Game -/
structure GameK (K : PySem.W.Frag) (C : Addr) : Prop where
  cl : Cls K C
  gap : NoAttr K C "gap"
  bounce : NoAttr K C "bounce"
  apart : NoAttr K C "apart"
  same : NoAttr K C "same"
  first : NoAttr K C "first"
def GameAt (K : PySem.W.Frag) (C : Addr) (H : Hp) (p : Addr) (g : GP) : Prop :=
  ∃ dx fa, H p = some (.ins C dx [("gap", .int g.gap), ("bounce", .int g.bounce), ("apart", .int g.apart), ("same", .int g.same), ("first", .ref fa)]) ∧ H fa = some (.tup (gsV (gFirst g)))
theorem GameAt.same {K : PySem.W.Frag} {C : Addr} {H H' : Hp} {p : Addr} {g : GP} (h : GameAt K C H p g) (e : Same H H') : GameAt K C H' p g := by
  obtain ⟨dx, fa, h1, h2⟩ := h
  exact ⟨dx, fa, e _ _ h1, e _ _ h2⟩
/-- tuples of moves, new ones -/
def MvsNew (H H' : Hp) (xs : List V) (row : List Mv) : Prop := xs.length = row.length ∧ ∀ (i : Nat) (m : Mv), row[i]? = some m → ∃ t, xs[i]? = some (.ref t) ∧ H t = none ∧ H' t = some (.tup [.int m.1, .bl m.2])
theorem MvsNew.nil {H H' : Hp} : MvsNew H H' [] [] := ⟨rfl, fun i m h => by simp at h⟩
theorem MvsNew.mono {H H1 H2 : Hp} {xs : List V} {row : List Mv} (h : MvsNew H H1 xs row) (e : Same H1 H2) : MvsNew H H2 xs row := ⟨h.1, fun i m q => let ⟨t, a, b, c⟩ := h.2 i m q; ⟨t, a, b, e _ _ c⟩⟩
theorem MvsNew.frm {H H1 H2 : Hp} {xs : List V} {row : List Mv} {ps : List Addr} (h : MvsNew H H1 xs row) (e : Frm ps H1 H2) (hn : ∀ t, H t = none → ∀ o, H1 t = some (.tup o) → t ∉ ps) : MvsNew H H2 xs row :=
  ⟨h.1, fun i m q => let ⟨t, a, b, c⟩ := h.2 i m q; ⟨t, a, b, e _ _ (hn t b _ c) c⟩⟩
theorem MvsNew.snoc {H H' : Hp} {xs : List V} {row : List Mv} {t : Addr} {m : Mv} (h : MvsNew H H' xs row) (ht : H t = none) (ht' : H' t = some (.tup [.int m.1, .bl m.2])) : MvsNew H H' (xs ++ [.ref t]) (row ++ [m]) := by
  refine ⟨by simp [h.1], fun i x hx => ?_⟩
  by_cases c : i < row.length
  · rw [List.getElem?_append_left c] at hx
    obtain ⟨u, a, b, d⟩ := h.2 i x hx
    exact ⟨u, by rw [List.getElem?_append_left (by rw [h.1]; exact c)]; exact a, b, d⟩
  · have : i = row.length := by
      have := (List.getElem?_eq_some_iff.mp hx).1
      simp at this
      omega
    subst this
    simp at hx
    subst hx
    exact ⟨t, by rw [← h.1]; simp, ht, ht'⟩
theorem MvsNew.dpa {K : PySem.W.Frag} {H H' : Hp} {xs : List V} {row : List Mv} {ps : List Addr} (h : MvsNew H H' xs row) (hn : ∀ t, H t = none → ∀ o, H' t = some (.tup o) → t ∉ ps) : DpAll K (Fz ps H') xs (row.map mvD) := by
  refine dpa_map (fun i v hv => ?_) h.1
  have hi : i < row.length := by rw [← h.1]; exact (List.getElem?_eq_some_iff.mp hv).1
  obtain ⟨t, a, b, c⟩ := h.2 i row[i] (List.getElem?_eq_getElem hi)
  rw [a] at hv
  cases hv
  exact ⟨row[i], List.getElem?_eq_getElem hi, .tup (SqT.of (fz_some.mpr ⟨hn t b _ c, c⟩)) (dpa_ib _ _)⟩
def spGInit (K : PySem.W.Frag) (C : Addr) : Sp := fun vs H Q _ => ∃ (x dx : Addr) (v u : V) (g : GP), vs = [.ref x, v, u] ∧ H x = some (.ins C dx []) ∧ Dp K (Fz [x] H) v (knD g.gap g.bounce) ∧ Dp K (Fz [x] H) u (knD g.apart g.same) ∧
  ∀ H', Frm [x] H H' → GameAt K C H' x g → Q .non H'
def spMoves (K : PySem.W.Frag) (C : Addr) : Sp := fun vs H Q _ => ∃ (p : Addr) (v : V) (g : GP) (s : GS), vs = [.ref p, v] ∧ GameAt K C H p g ∧ Dp K H v (gsD s) ∧
  ∀ (l : Addr) (xs : List V) (H' : Hp), H l = none → Same H H' → H' l = some (.lst xs) → MvsNew H H' xs (gMoves g s) → Q (.ref l) H'
def spBehind (K : PySem.W.Frag) (C : Addr) : Sp := fun vs H Q _ => ∃ (p : Addr) (v u : V) (g : GP) (s : GS) (m : Mv), vs = [.ref p, v, u] ∧ GameAt K C H p g ∧ g.Ok ∧ Dp K H v (gsD s) ∧ Dp K H u (mvD m) ∧
  ∀ (t o : Addr) (H' : Hp), H t = none → H o = none → Same H H' → H' t = some (.tup [.ref o, .int (gBy g s m), .bl (gNoise g s m)]) → H' o = some (.tup (gsV (gNext g s m))) → Q (.ref t) H'
section
variable {P : Program} {w : World} {K : PySem.W.Frag} {mg : Str → Option Value} {base : Heap}
theorem sc_ginit : FnScope ["self", "knob", "reader"] ["self", "knob", "reader"] (defScope (inClass (top 22) 0)) := ⟨rfl, rfl, rfl, by decide +kernel, rfl, by decide +kernel, by decide +kernel⟩
theorem ok_ginit {f C : Addr} {fd : FuncData} (F : Fun K "__init__" "Game.__init__" (inClass (top 22) 0) f fd) (gk : GameK K C) : FnOk P w K mg base CX0 1 f fd ["self", "knob", "reader"] (spGInit K C) := by
  have sc := sc_ginit
  refine F.ok sc (fun vs H Q E h => ?_) (fun cdv A outer s H vs Q E hr h => ?_)
  · obtain ⟨x, dx, v, u, g, rfl, _⟩ := h
    rfl
  · obtain ⟨x, dx, v, u, g, rfl, hx, hv, hu, k⟩ := h
    obtain ⟨a1, rfl, hT⟩ := dp_ii hv
    obtain ⟨a2, rfl, hU⟩ := dp_ii hu
    have up : ∀ {o : HO} {a : Addr} {xs : List V}, SqT K (Fz [x] H) a xs → SqT K (upd H x o) a xs := fun {o a xs} h => same_seqT (fz_le (ps := [x])) (by rw [fz_set (List.mem_singleton_self x)]; exact h)
    refine ⟨_, (pss_cons (ps_asg (pv 1) (pg_tup rfl (pgs_cons (pg_fld (pv 0)) (pgs_cons (pg_fld (pv 0)) pgs_nil))))
(pss_cons (ps_asg (pv 2) (pg_tup rfl (pgs_cons (pg_fld (pv 0)) (pgs_cons (pg_fld (pv 0)) pgs_nil))))
(pss_one (ps_fld (pv 0) (pe_tup (pa_cons pe_int (pa_cons (pe_fldK (K := K) rfl (pv 0)) (pa_cons pe_int (pa_cons pe_int (pa_cons pe_non (pa_cons pe_int (pa_cons pe_bl (pa_cons pe_bl pa_nil))))))))) rfl)))), ?_⟩
    refine ⟨_, rfl, a1, _, rfl, same_seqT fz_le hT, rfl, _, _, rfl, _, rfl, x, C, dx, _, rfl, hx, gk.cl, gk.gap, few 0 rfl, _, _, rfl, _, rfl, x, C, dx, _, rfl, upd_same, gk.cl, gk.bounce, few 1 rfl, rfl, ?_⟩
    rw [upd_upd]
    refine ⟨_, rfl, a2, _, rfl, up hU, rfl, _, _, rfl, _, rfl, x, C, dx, _, rfl, upd_same, gk.cl, gk.apart, few 2 rfl, _, _, rfl, _, rfl, x, C, dx, _, rfl, upd_same, gk.cl, gk.same, few 3 rfl, rfl, ?_⟩
    rw [upd_upd, upd_upd]
    refine ⟨_, rfl, x, C, dx, _, _, rfl, upd_same, gk.cl, gk.gap, rfl, (by show 8 ≤ sizeLine; decide), fun fa hfa => ?_⟩
    have nx : x ≠ fa := ne_of_none upd_same hfa
    refine ⟨_, rfl, x, C, dx, _, rfl, (by rw [upd_ne nx]; exact upd_same), gk.cl, gk.first, few 4 rfl, ?_⟩
    refine k _ ?_ ⟨dx, fa, upd_same, by rw [upd_ne nx.symm]; exact upd_same⟩
    have f1 : Frm [x] H (upd H x (.ins C dx [("gap", .int g.gap), ("bounce", .int g.bounce), ("apart", .int g.apart), ("same", .int g.same)])) := Frm.set (by simp)
    exact (f1.trans (Frm.new hfa)).trans (Frm.set (by simp))
theorem sc_moves : FnScope ["self", "state", "phase", "since", "last", "found", "turn", "age"] ["self", "state"] (defScope (inClass (top 22) 1)) := ⟨rfl, rfl, rfl, by decide +kernel, rfl, by decide +kernel, by decide +kernel⟩
theorem ok_moves {f C : Addr} {fd : FuncData} (F : Fun K "moves" "Game.moves" (inClass (top 22) 1) f fd) (gk : GameK K C) : FnOk P w K mg base CX0 1 f fd ["self", "state"] (spMoves K C) := by
  have sc := sc_moves
  refine F.ok sc (fun vs H Q E h => ?_) (fun cdv A outer s H vs Q E hr h => ?_)
  · obtain ⟨p, v, g, s, rfl, _⟩ := h
    rfl
  · obtain ⟨p, v, g, st, rfl, hg, hv, k⟩ := h
    obtain ⟨a, rfl, hT⟩ := dp_gs hv
    obtain ⟨dx, fa, hp, hfa⟩ := hg
    refine ⟨_, (pss_cons (ps_asg (pe_slice (r := rSlT K) sl_tup (pv 1) po_none (po_some pe_int)) (pg_tup rfl (pgs_cons (pg_name (i := 2) sc.nd rfl (Or.inl rfl)) (pgs_cons (pg_name (i := 3) sc.nd rfl (Or.inl rfl)) (pgs_cons (pg_name (i := 4) sc.nd rfl (Or.inl rfl)) pgs_nil)))))
(pss_cons (ps_set (i := 5) sc.nd rfl (Or.inl rfl) (pe_lst pa_nil))
(pss_cons (ps_for PassesOwn.never rfl (pi_tup (pe_tup (pa_cons pe_int (pa_cons (pe_un un_neg pe_int) (pa_cons pe_int pa_nil))))) (pg_name (i := 6) sc.nd rfl (Or.inl rfl))
(pss_one (ps_if (pt_cut (PW.pt (pw_or (pt_cmpR op_eq (pv 6) pe_int (nomark _)) (pw_or1 (pt_cmpR op_ge (pv 3) (pe_fldK (K := K) rfl (pv 0)) (nomark _))))))
(pss_cons (ps_expr (pe_bm PySem.F.plainAttrs_list PySem.F.slot_list_append PySem.F.type_list_append mt_append (pv 5) (pa_cons (pe_tup (pa_cons (pv 6) (pa_cons pe_bl pa_nil))) pa_nil)))
(pss_cons (ps_set (i := 7) sc.nd rfl (Or.inl rfl) (pe_cut (pe_ifExp (pt_cmpR op_eq (pv 6) pe_int (nomark _)) (pv 3) pe_int)))
(pss_one (ps_if (pt_cut (PW.pt (pw_and (pt_cmpR op_eq (pv 2) pe_int (nomark _)) (pw_and (pt_cmpR op_lt (pv 7) (pe_fldK (K := K) rfl (pv 0)) (nomark _)) (pw_and1 (PW.pt (pw_or (pt_cmpR op_ne (pv 6) pe_int (nomark _)) (pw_or1 (pt_cmpR op_ne (pv 4) pe_int (nomark _))))))))))
(pss_one (ps_expr (pe_bm PySem.F.plainAttrs_list PySem.F.slot_list_append PySem.F.type_list_append mt_append (pv 5) (pa_cons (pe_tup (pa_cons (pv 6) (pa_cons pe_bl pa_nil))) pa_nil))))
pss_nil))))
pss_nil)))
(pss_one (ps_ret (pv 5)))))), ?_⟩
    refine ⟨_, rfl, _, rfl, a, _, rfl, hT, (by show ¬ (0 = 0 ∧ 3 = 8); decide), fun t1 ht1 => ?_⟩
    have s1 := same_new ht1 (o := .tup (cutV (gsV st) none (some 3)))
    refine ⟨t1, _, rfl, SqT.of upd_same, rfl, _, _, rfl, _, _, rfl, _, _, rfl, rfl, ?_⟩
    refine ⟨Nat.zero_le _, fun l hl => ?_⟩
    have s2 := same_new hl (o := .lst [])
    refine ⟨_, rfl, (by show 3 ≤ sizeLine; decide), fun t2 ht2 => ?_⟩
    have s3 := same_new ht2 (o := .tup [.int 0, .int (-1), .int 1])
    have sA := s1.trans (s2.trans s3)
    have lfree : H l = none := s1.free hl
    refine ⟨t2, rfl, ⟨_, SqT.of upd_same⟩, for_it (walk_tup (xs := [.int 0, .int (-1), .int 1])) (fun i σ H' => ∃ (xs : List V) (u6 u7 : Option V), σ = [some (.ref p), some (.ref a), some (.int st.phase), some (.int st.since), some (.int st.last), some (.ref l), u6, u7] ∧
        Same H H' ∧ H' t2 = some (.tup [.int 0, .int (-1), .int 1]) ∧ H' l = some (.lst xs) ∧ MvsNew H H' xs ((([0, -1, 1] : List Int).take i).flatMap (gMove g st)) ∧ xs.length ≤ 2 * i)
      ⟨[], none, none, rfl, sA, upd_same, s3 _ _ upd_same, MvsNew.nil, by simp⟩ (fun i σ H' _ ⟨_, _, _, _, _, e, _⟩ => SqT.of e) ?_ ?_⟩
    · rintro i x σ H1 H2 hi ⟨xs, u6, u7, rfl, sH, ht2', hl1, hX, hxl⟩ ⟨rfl, hx⟩
      obtain ⟨t, rfl, et⟩ : ∃ t : Int, x = .int t ∧ ([0, -1, 1] : List Int)[i]? = some t := by
        match i, hx with
        | 0, hx => cases hx; exact ⟨0, rfl, rfl⟩
        | 1, hx => cases hx; exact ⟨-1, rfl, rfl⟩
        | 2, hx => cases hx; exact ⟨1, rfl, rfl⟩
      have hi3 : i < 3 := by simpa using hi
      rw [take_snoc et, List.flatMap_append, List.flatMap_singleton]
      have ht2l : t2 ≠ l := fun z => by rw [z, hl1] at ht2'; cases ht2'
      refine ⟨fun b H' => b = decide (t = 0 ∨ g.gap ≤ st.since) ∧ H' = H2, ?_, ?_⟩
      · refine ⟨_, rfl, rfl, _, rfl, ?_⟩
        by_cases h0 : t = 0
        · exact iteDT (vint_eq h0) ⟨(decide_eq_true (.inl h0)).symm, rfl⟩
        · refine iteDF (vint_ne h0) ⟨_, rfl, _, rfl, p, C, dx, _, _, rfl, sH _ _ hp, gk.cl, gk.gap, rfl, _, _, rfl, rfl, _, rfl, ?_, rfl⟩
          by_cases h1 : g.gap ≤ st.since
          · rw [decide_eq_true h1, decide_eq_true (.inr h1)]
          · rw [decide_eq_false h1, decide_eq_false (fun h => h.elim h0 h1)]
      · rintro b H3 ⟨rfl, rfl⟩
        refine iteD (fun hc => ?_) (fun hc => ?_)
        · refine ⟨_, rfl, .inl ⟨rfl, _, SqL.of hl1⟩, _, rfl, (by show 2 ≤ sizeLine; decide), fun tp htp => ?_⟩
          have ntl : l ≠ tp := ne_of_none hl1 htp
          have stp := same_new htp (o := .tup [.int t, .bl false])
          refine ⟨l, xs, _, rfl, rfl, stp _ _ hl1, small1000 (by omega), ?_⟩
          have hX4 : MvsNew H (upd (upd H3 tp (.tup [.int t, .bl false])) l (.lst (xs ++ [.ref tp]))) (xs ++ [.ref tp]) ((([0, -1, 1] : List Int).take i).flatMap (gMove g st) ++ [(t, false)]) := by
            refine MvsNew.snoc (hX.frm (ps := [l]) ((Frm.of_same stp).trans (Frm.set (by simp))) fun u _ o ho hm => ?_) (sH.free htp) (by rw [upd_ne ntl.symm]; exact upd_same)
            rw [List.mem_singleton.mp hm, hl1] at ho; cases ho
          have sH4 : Same H (upd (upd H3 tp (.tup [.int t, .bl false])) l (.lst (xs ++ [.ref tp]))) := same_put lfree (sH.trans stp)
          have hl4 : (upd (upd H3 tp (.tup [.int t, .bl false])) l (.lst (xs ++ [.ref tp]))) l = some (.lst (xs ++ [.ref tp])) := upd_same
          have ht24 : (upd (upd H3 tp (.tup [.int t, .bl false])) l (.lst (xs ++ [.ref tp]))) t2 = some (.tup [.int 0, .int (-1), .int 1]) := by rw [upd_ne ht2l]; exact stp _ _ ht2'
          revert hX4 sH4 hl4 ht24
          generalize upd (upd H3 tp (.tup [.int t, .bl false])) l (.lst (xs ++ [.ref tp])) = H4
          intro hX4 sH4 hl4 ht24
          -- age
          refine ⟨fun v H' => v = .int (gAge st t) ∧ H' = H4, ?_, ?_⟩
          · refine ⟨_, rfl, rfl, _, rfl, ?_⟩
            unfold gAge
            by_cases h0 : t = 0
            · rw [if_pos h0]; exact iteDT (vint_eq h0) ⟨_, rfl, rfl, rfl⟩
            · rw [if_neg h0]; exact iteDF (vint_ne h0) ⟨rfl, rfl⟩
          rintro v H5 ⟨rfl, rfl⟩
          refine ⟨fun b H' => b = decide (st.phase = 0 ∧ gAge st t < g.bounce ∧ (t ≠ 0 ∨ st.last ≠ 0)) ∧ H' = H5, ?_, ?_⟩
          · refine ⟨_, rfl, rfl, _, rfl, ?_⟩
            by_cases h1 : st.phase = 0
            · refine iteDT (vint_eq h1) ⟨_, rfl, _, rfl, p, C, dx, _, _, rfl, sH4 _ _ hp, gk.cl, gk.bounce, rfl, _, _, rfl, rfl, _, rfl, ?_⟩
              by_cases h2 : gAge st t < g.bounce
              · refine iteDT h2 ⟨_, rfl, rfl, _, rfl, ?_⟩
                by_cases h3 : t = 0
                · refine iteNS (vint_eq h3) ⟨_, rfl, rfl, _, rfl, ?_, rfl⟩
                  by_cases h4 : st.last = 0
                  · rw [decide_eq_true (vint_eq h4), decide_eq_false (fun h => h.2.2.elim (fun z => z h3) (fun z => z h4))]; rfl
                  · rw [decide_eq_false (vint_ne h4), decide_eq_true ⟨h1, h2, .inr h4⟩]; rfl
                · exact iteNT (vint_ne h3) ⟨(decide_eq_true ⟨h1, h2, .inl h3⟩).symm, rfl⟩
              · exact iteDF h2 ⟨(decide_eq_false (fun h => h2 h.2.1)).symm, rfl⟩
            · exact iteDF (vint_ne h1) ⟨(decide_eq_false (fun h => h1 h.1)).symm, rfl⟩
          rintro b H6 ⟨rfl, rfl⟩
          refine iteD (fun hd => ?_) (fun hd => ?_)
          · have eM : gMove g st t = [(t, false), (t, true)] := by unfold gMove; rw [if_pos hc, if_pos hd]
            rw [eM]
            refine ⟨_, rfl, .inl ⟨rfl, _, SqL.of hl4⟩, _, rfl, (by show 2 ≤ sizeLine; decide), fun tq htq => ?_⟩
            have nql : l ≠ tq := ne_of_none hl4 htq
            have stq := same_new htq (o := .tup [.int t, .bl true])
            refine ⟨l, _, _, rfl, rfl, stq _ _ hl4, small1000 (by rw [List.length_append, List.length_singleton]; omega), ?_⟩
            refine ⟨(xs ++ [.ref tp]) ++ [.ref tq], _, _, rfl, same_put lfree (sH4.trans stq), by rw [upd_ne ht2l]; exact stq _ _ ht24, upd_same, ?_, by simp; omega⟩
            have := MvsNew.snoc (m := (t, true)) (t := tq) (H' := upd (upd H6 tq (.tup [.int t, .bl true])) l (.lst ((xs ++ [.ref tp]) ++ [.ref tq]))) (hX4.frm (ps := [l]) ((Frm.of_same stq).trans (Frm.set (by simp))) fun u _ o ho hm => by rw [List.mem_singleton.mp hm, hl4] at ho; cases ho) (sH4.free htq) (by rw [upd_ne nql.symm]; exact upd_same)
            rw [show ((([0, -1, 1] : List Int).take i).flatMap (gMove g st) ++ [(t, false), (t, true)]) = ((([0, -1, 1] : List Int).take i).flatMap (gMove g st) ++ [(t, false)]) ++ [(t, true)] by simp]
            exact this
          · have eM : gMove g st t = [(t, false)] := by unfold gMove; rw [if_pos hc, if_neg hd]
            rw [eM]
            exact ⟨xs ++ [.ref tp], _, _, rfl, sH4, ht24, hl4, hX4, by simp; omega⟩
        · have eM : gMove g st t = [] := by unfold gMove; rw [if_neg hc]
          rw [eM, List.append_nil]
          exact ⟨xs, _, _, rfl, sH, ht2', hl1, hX, by omega⟩
    · rintro σ H1 ⟨xs, u6, u7, rfl, sH, ht2', hl1, hX, hxl⟩
      refine ⟨_, rfl, k l xs H1 lfree sH hl1 ?_⟩
      have e : (([0, -1, 1] : List Int).take 3).flatMap (gMove g st) = gMoves g st := by
        show gMove g st 0 ++ (gMove g st (-1) ++ (gMove g st 1 ++ [])) = _
        unfold gMoves
        rw [List.append_nil, List.append_assoc]
      rw [← e]; exact hX
theorem sc_behind : FnScope ["self", "state", "move", "phase", "since", "last", "kept", "met", "many", "up", "down", "turn", "old", "by", "noise", "seen"] ["self", "state", "move"] (defScope (inClass (top 22) 2)) := ⟨rfl, rfl, rfl, by decide +kernel, rfl, by decide +kernel, by decide +kernel⟩
set_option maxHeartbeats 800000 in
theorem ok_behind {f C : Addr} {fd : FuncData} (F : Fun K "behind" "Game.behind" (inClass (top 22) 2) f fd) (gk : GameK K C) (n_min : mg "min" = none) : FnOk P w K mg base CX0 1 f fd ["self", "state", "move"] (spBehind K C) := by
  have sc := sc_behind
  refine F.ok sc (fun vs H Q E h => ?_) (fun cdv A outer s H vs Q E hr h => ?_)
  · obtain ⟨p, v, u, g, s, m, rfl, _⟩ := h
    rfl
  · obtain ⟨p, v, u, g, st, ⟨t, o⟩, rfl, hg, gok, hv, hu, k⟩ := h
    obtain ⟨a, rfl, hT⟩ := dp_gs hv
    obtain ⟨b, rfl, hM⟩ := dp_ib hu
    obtain ⟨dx, fa, hp, hfa⟩ := hg
    refine ⟨_, (pss_cons (ps_asg (pv 1) (pg_tup rfl (pgs_cons (pg_name (i := 3) sc.nd rfl (Or.inl rfl)) (pgs_cons (pg_name (i := 4) sc.nd rfl (Or.inl rfl)) (pgs_cons (pg_name (i := 5) sc.nd rfl (Or.inl rfl)) (pgs_cons (pg_name (i := 6) sc.nd rfl (Or.inl rfl)) (pgs_cons (pg_name (i := 7) sc.nd rfl (Or.inl rfl)) (pgs_cons (pg_name (i := 8) sc.nd rfl (Or.inl rfl)) (pgs_cons (pg_name (i := 9) sc.nd rfl (Or.inl rfl)) (pgs_cons (pg_name (i := 10) sc.nd rfl (Or.inl rfl)) pgs_nil))))))))))
(C8.pss_cut (ps_asg (pv 2) (pg_tup rfl (pgs_cons (pg_name (i := 11) sc.nd rfl (Or.inl rfl)) (pgs_cons (pg_name (i := 12) sc.nd rfl (Or.inl rfl)) pgs_nil))))
(C8.pss_cut (ps_if (pt_cmpR op_ne (pv 11) pe_int (nomark _))
(pss_cons (ps_set (i := 4) sc.nd rfl (Or.inl rfl) pe_int)
(pss_cons (ps_set (i := 5) sc.nd rfl (Or.inl rfl) (pv 11))
(C8.pss_cut (ps_set (i := 6) sc.nd rfl (Or.inl rfl) (pe_op op_sub (pv 6) (pv 11)))
(pss_cons (ps_set (i := 7) sc.nd rfl (Or.inl rfl) (pe_cut (pe_ifExp (pt_cmpR op_isN (pv 7) pe_non (nomark _)) pe_non (pe_op op_sub (pv 7) (pv 11)))))
(pss_cons (ps_set (i := 9) sc.nd rfl (Or.inl rfl) (pe_cut (pe_or (pv 9) (pe_one (pe_cmpR op_gt (pv 11) pe_int (nomark _))))))
(pss_one (ps_set (i := 10) sc.nd rfl (Or.inl rfl) (pe_cut (pe_or (pv 10) (pe_one (pe_cmpR op_lt (pv 11) pe_int (nomark _))))))))))))
pss_nil)
(pss_cons (ps_set (i := 13) sc.nd rfl (Or.inl rfl) pe_int)
(pss_cons (ps_set (i := 14) sc.nd rfl (Or.inl rfl) pe_bl)
(C8.pss_cut (ps_if (pt_cmpR op_eq (pv 3) pe_int (nomark _))
(pss_cons (ps_set (i := 15) sc.nd rfl (Or.inl rfl) (pe_cut (pe_ifExp (pt_val (pv 12)) (pe_op op_sub pe_int (pv 5)) pe_int)))
(pss_cons (ps_set (i := 8) sc.nd rfl (Or.inl rfl) (pe_cut (pe_ifExp (PW.pt (pw_and (pt_cmpR op_notN (pv 7) pe_non (nomark _)) (pw_and1 (pt_cmpR op_eq (pe_op op_mod (pe_op op_sub (pv 7) (pv 15)) pe_int) pe_int (nomark _))))) (pe_callB (call_min2 rfl) (by rfl) n_min (by decide +kernel) (pa_cons (pe_fldK (K := K) rfl (pv 0)) (pa_cons (pe_op op_add (pv 8) pe_int) pa_nil))) pe_int)))
(pss_cons (ps_set (i := 7) sc.nd rfl (Or.inl rfl) (pv 15))
(pss_one (ps_if (pt_cmpR op_eq (pv 8) (pe_fldK (K := K) rfl (pv 0)) (nomark _))
(pss_cons (ps_set (i := 13) sc.nd rfl (Or.inl rfl) (pe_op op_sub (pv 15) (pv 6)))
(pss_one (ps_set (i := 6) sc.nd rfl (Or.inl rfl) (pv 15))))
pss_nil)))))
pss_nil)
(C8.pss_cut (ps_if (pt_cmpR op_ne (pv 13) pe_int (nomark _))
(pss_cons (ps_set (i := 14) sc.nd rfl (Or.inl rfl) (pe_cut (pe_or (pe_and (pe_cmpR op_gt (pv 13) pe_int (nomark _)) (pe_one (pe_not (pv 9)))) (pe_one (pe_and (pe_cmpR op_lt (pv 13) pe_int (nomark _)) (pe_one (pe_not (pv 10))))))))
(pss_cons (ps_set (i := 9) sc.nd rfl (Or.inl rfl) pe_bl)
(pss_one (ps_set (i := 10) sc.nd rfl (Or.inl rfl) pe_bl))))
pss_nil)
(pss_cons (ps_set (i := 3) sc.nd rfl (Or.inl rfl) (pe_op op_mod (pe_op op_add (pv 3) pe_int) (pe_fldK (K := K) rfl (pv 0))))
(pss_one (ps_ret (pe_tup (pa_cons (pe_tup (pa_cons (pv 3) (pa_cons (pe_callB (call_min2 rfl) (by rfl) n_min (by decide +kernel) (pa_cons (pe_op op_add (pv 4) pe_int) (pa_cons (pe_fldK (K := K) rfl (pv 0)) pa_nil))) (pa_cons (pv 5) (pa_cons (pv 6) (pa_cons (pv 7) (pa_cons (pv 8) (pa_cons (pv 9) (pa_cons (pv 10) pa_nil))))))))) (pa_cons (pv 13) (pa_cons (pv 14) pa_nil)))))))))))))), ?_⟩
    refine ⟨_, rfl, a, _, rfl, hT, rfl, _, _, rfl, _, _, rfl, _, _, rfl, _, _, rfl, _, _, rfl, _, _, rfl, _, _, rfl, _, _, rfl, rfl, ?_⟩
    refine ⟨fun σ H' => H' = H ∧ σ = [some (.ref p), some (.ref a), some (.ref b), some (.int st.phase), some (.int st.since), some (.int st.last), some (.int st.kept), some (metV st.met), some (.int st.many), some (.bl st.up), some (.bl st.down), some (.int t), some (.bl o), none, none, none], ?_, ?_⟩
    · exact ⟨_, rfl, b, _, rfl, hM, rfl, _, _, rfl, _, _, rfl, rfl, rfl, rfl⟩
    rintro σ H0 ⟨rfl, rfl⟩
    -- the turn
    have stay : gTurn st 0 = st := if_pos rfl
    refine ⟨fun σ H' => H' = H0 ∧ σ = [some (.ref p), some (.ref a), some (.ref b), some (.int st.phase), some (.int (gTurn st t).since), some (.int (gTurn st t).last), some (.int (gTurn st t).kept), some (metV (gTurn st t).met), some (.int (gTurn st t).many), some (.bl (gTurn st t).up), some (.bl (gTurn st t).down), some (.int t), some (.bl o), none, none, none], ?_, ?_⟩
    · refine ⟨_, rfl, rfl, _, rfl, ?_⟩
      by_cases h0 : t = 0
      · refine iteNS (vint_eq h0) ⟨rfl, ?_⟩
        rw [h0, stay]
      · have eT : gTurn st t = { st with since := 0, last := t, kept := st.kept - t, met := st.met.map (· - t), up := st.up || decide (0 < t), down := st.down || decide (t < 0) } := if_neg h0
        rw [eT]
        refine iteNT (vint_ne h0) ⟨_, rfl, ?_⟩
        refine ⟨fun σ H' => H' = H0 ∧ σ = [some (.ref p), some (.ref a), some (.ref b), some (.int st.phase), some (.int 0), some (.int t), some (.int (st.kept - t)), some (metV st.met), some (.int st.many), some (.bl st.up), some (.bl st.down), some (.int t), some (.bl o), none, none, none], ?_, ?_⟩
        · exact ⟨_, rfl, _, rfl, _, _, rfl, rfl, rfl, rfl⟩
        rintro σ H01 ⟨rfl, rfl⟩
        refine ⟨fun v H' => v = metV (st.met.map (· - t)) ∧ H' = H01, ?_, ?_⟩
        · refine ⟨_, rfl, rfl, _, rfl, ?_⟩
          cases st.met with
          | none => exact iteDT rfl ⟨rfl, rfl⟩
          | some z => exact iteDF (fun z => by cases z) ⟨_, rfl, _, rfl, _, _, rfl, rfl, rfl, rfl⟩
        rintro v H1 ⟨rfl, rfl⟩
        refine ⟨fun v H' => v = .bl (st.up || decide (0 < t)) ∧ H' = H1, ?_, ?_⟩
        · refine ⟨_, rfl, _, rfl, iteB (fun e => ?_) (fun e => ?_)⟩
          · rw [e]; exact ⟨rfl, rfl⟩
          · rw [e]; exact ⟨_, rfl, _, _, rfl, rfl, rfl, rfl⟩
        rintro v H2 ⟨rfl, rfl⟩
        refine ⟨fun v H' => v = .bl (st.down || decide (t < 0)) ∧ H' = H2, ?_, ?_⟩
        · refine ⟨_, rfl, _, rfl, iteB (fun e => ?_) (fun e => ?_)⟩
          · rw [e]; exact ⟨rfl, rfl⟩
          · rw [e]; exact ⟨_, rfl, _, _, rfl, rfl, rfl, rfl⟩
        rintro v H3 ⟨rfl, rfl⟩
        exact ⟨rfl, rfl⟩
    rintro σ H1 ⟨rfl, rfl⟩
    have eSaw : gSaw g st (t, o) = if st.phase = 0 then gLook g (gTurn st t) o else (gTurn st t, 0) := rfl
    have eBy : gBy g st (t, o) = (gSaw g st (t, o)).2 := rfl
    have eNoi : gNoise g st (t, o) = ((decide (0 < gBy g st (t, o)) && !(gTurn st t).up) || (decide (gBy g st (t, o) < 0) && !(gTurn st t).down)) := rfl
    have eNx : gNext g st (t, o) = gEnd g st.phase (gBy g st (t, o)) (gSaw g st (t, o)).1 := rfl
    rw [eNx, eNoi, eBy] at k
    have w3 : (gSaw g st (t, o)).1.up = (gTurn st t).up := by unfold gSaw gLook; split <;> (try split) <;> rfl
    have w4 : (gSaw g st (t, o)).1.down = (gTurn st t).down := by unfold gSaw gLook; split <;> (try split) <;> rfl
    revert k w3 w4 eSaw
    generalize gSaw g st (t, o) = S2
    generalize gTurn st t = s1
    intro k eSaw w3 w4
    obtain ⟨s2, y⟩ := S2
    dsimp only at k w3 w4
    -- the look
    refine ⟨fun σ H' => H' = H1 ∧ ∃ u15, σ = [some (.ref p), some (.ref a), some (.ref b), some (.int st.phase), some (.int s2.since), some (.int s2.last), some (.int s2.kept), some (metV s2.met), some (.int s2.many), some (.bl s1.up), some (.bl s1.down), some (.int t), some (.bl o), some (.int y), some (.bl false), u15], ?_, ?_⟩
    · refine ⟨_, rfl, rfl, _, rfl, ?_⟩
      by_cases hph : st.phase = 0
      · rw [if_pos hph] at eSaw
        refine iteDT (vint_eq hph) ?_
        refine ⟨fun v H' => v = .int (gSeen s1 o) ∧ H' = H1, ?_, ?_⟩
        · refine ⟨_, rfl, _, rfl, iteB (fun e => ?_) (fun e => ?_)⟩
          · rw [show gSeen s1 o = 0 - s1.last from if_pos e]
            exact ⟨_, rfl, _, _, rfl, rfl, rfl, rfl⟩
          · rw [show gSeen s1 o = 0 from if_neg (by rw [e]; decide)]
            exact ⟨rfl, rfl⟩
        rintro v H2 ⟨rfl, rfl⟩
        unfold gLook at eSaw
        generalize gSeen s1 o = z at eSaw ⊢
        refine ⟨fun v H' => v = .int (gMany g s1 z) ∧ H' = H2, ?_, ?_⟩
        · unfold gMany gSees
          refine ⟨_, rfl, rfl, _, rfl, ?_⟩
          cases em : s1.met with
          | none => exact iteF ⟨rfl, rfl⟩
          | some y =>
            refine iteT ⟨_, rfl, _, rfl, _, _, rfl, rfl, _, _, rfl, rfl, (by show (0 : Int) < 4; decide), rfl, _, rfl, ?_⟩
            by_cases hy : (y - z) % 4 = 0
            · refine iteDT (vint_eq hy) ⟨_, rfl, p, C, dx, _, _, rfl, hp, gk.cl, gk.same, rfl, _, rfl, _, _, rfl, rfl, _, _, rfl, ?_, rfl⟩
              show V.int (if s1.many + 1 < g.same then s1.many + 1 else g.same) = V.int (if decide ((y - z) % 4 = 0) = true then min g.same (s1.many + 1) else 1)
              rw [decide_eq_true hy, if_pos (rfl : true = true), min2]
            · refine iteDF (vint_ne hy) ⟨?_, rfl⟩
              show V.int 1 = V.int (if decide ((y - z) % 4 = 0) = true then min g.same (s1.many + 1) else 1)
              rw [decide_eq_false hy, if_neg (by decide)]
        rintro v H3 ⟨rfl, rfl⟩
        generalize gMany g s1 z = mn at eSaw ⊢
        refine ⟨_, rfl, _, rfl, _, rfl, p, C, dx, _, _, rfl, hp, gk.cl, gk.same, rfl, rfl, _, rfl, ?_⟩
        by_cases hs : mn = g.same
        · rw [if_pos hs] at eSaw
          cases eSaw
          exact iteDT (vint_eq hs) ⟨_, rfl, _, rfl, _, _, rfl, rfl, _, rfl, rfl, _, rfl⟩
        · rw [if_neg hs] at eSaw
          cases eSaw
          exact iteDF (vint_ne hs) ⟨rfl, _, rfl⟩
      · rw [if_neg hph] at eSaw
        cases eSaw
        exact iteDF (vint_ne hph) ⟨rfl, _, rfl⟩
    rintro σ H2 ⟨rfl, u15, rfl⟩
    -- noise
    refine ⟨fun σ H' => H' = H2 ∧ σ = [some (.ref p), some (.ref a), some (.ref b), some (.int st.phase), some (.int s2.since), some (.int s2.last), some (.int s2.kept), some (metV s2.met), some (.int s2.many), some (.bl (if y = 0 then s2.up else false)), some (.bl (if y = 0 then s2.down else false)), some (.int t), some (.bl o), some (.int y), some (.bl ((decide (0 < y) && !s1.up) || (decide (y < 0) && !s1.down))), u15], ?_, ?_⟩
    · refine ⟨_, rfl, rfl, _, rfl, ?_⟩
      rw [w3, w4]
      by_cases h0 : y = 0
      · refine iteNS (vint_eq h0) ⟨rfl, ?_⟩
        rw [if_pos h0, if_pos h0, h0]
        rfl
      · rw [if_neg h0, if_neg h0]
        refine iteNT (vint_ne h0) ?_
        refine ⟨fun v H' => v = .bl ((decide (0 < y) && !s1.up) || (decide (y < 0) && !s1.down)) ∧ H' = H2, ?_, ?_⟩
        · refine ⟨_, rfl, _, _, rfl, rfl, _, rfl, ?_⟩
          by_cases c1 : 0 < y
          · have c2 : ¬ y < 0 := by omega
            rw [decide_eq_true c1, Bool.true_and, decide_eq_false c2, Bool.false_and, Bool.or_false]
            refine iteT ⟨_, rfl, _, rfl, _, rfl, ?_⟩
            refine iteB (fun e => ?_) (fun e => ?_)
            · rw [e]; exact ⟨rfl, rfl⟩
            · refine ⟨_, rfl, _, _, rfl, rfl, _, rfl, ?_⟩
              rw [decide_eq_false c2, e]
              exact iteF ⟨rfl, rfl⟩
          · rw [decide_eq_false c1, Bool.false_and, Bool.false_or]
            refine iteF ⟨_, rfl, iteF ⟨_, rfl, _, _, rfl, rfl, _, rfl, ?_⟩⟩
            refine iteD (fun c2 => ?_) (fun c2 => ?_)
            · rw [decide_eq_true c2, Bool.true_and]
              exact ⟨_, rfl, _, rfl, rfl, rfl⟩
            · rw [decide_eq_false c2, Bool.false_and]
              exact ⟨rfl, rfl⟩
        rintro v H3 ⟨rfl, rfl⟩
        exact ⟨rfl, rfl⟩
    rintro σ H3 ⟨rfl, rfl⟩
    have := gok.a1
    refine ⟨_, rfl, _, _, rfl, rfl, _, rfl, p, C, dx, _, _, rfl, hp, gk.cl, gk.apart, rfl, _, _, rfl, rfl, (by show (0 : Int) < g.apart; omega), ?_⟩
    refine ⟨_, rfl, _, rfl, _, _, rfl, rfl, _, rfl, p, C, dx, _, _, rfl, hp, gk.cl, gk.gap, rfl, _, _, rfl, _, rfl, _, rfl, _, rfl, _, rfl, _, rfl, _, rfl, (by show 8 ≤ sizeLine; decide), fun oo hoo => ?_⟩
    have so := same_new hoo (o := .tup [.int ((st.phase + 1) % g.apart), .int (if g.gap < s2.since + 1 then g.gap else s2.since + 1), .int s2.last, .int s2.kept, metV s2.met, .int s2.many, .bl (if y = 0 then s2.up else false), .bl (if y = 0 then s2.down else false)])
    refine ⟨_, rfl, _, rfl, (by show 3 ≤ sizeLine; decide), fun tt htt => ?_⟩
    have s3 := same_new htt (o := .tup [.ref oo, .int y, .bl ((decide (0 < y) && !s1.up) || (decide (y < 0) && !s1.down))])
    refine k tt oo _ (so.free htt) hoo (so.trans s3) upd_same (s3 _ _ ?_)
    rw [upd_same]
    refine congrArg (fun z => some (HO.tup [.int ((st.phase + 1) % g.apart), .int z, .int s2.last, .int s2.kept, metV s2.met, .int s2.many, .bl (if y = 0 then s2.up else false), .bl (if y = 0 then s2.down else false)])) ?_
    show (if g.gap < s2.since + 1 then g.gap else s2.since + 1) = min (s2.since + 1) g.gap
    rw [min2]
end
/-! ### first_row -/
theorem lay_all (n : Nat) (ds : List PyData) (h : ∀ d ∈ ds, d.canLay0 = true ∧ d.depth ≤ n) : PyData.canLayAll0 ds = true ∧ PyData.depthAll ds ≤ n := by
  induction ds with
  | nil => exact ⟨rfl, Nat.zero_le _⟩
  | cons d ds ih =>
    obtain ⟨h1, h2⟩ := h d (by simp)
    obtain ⟨h3, h4⟩ := ih fun x hx => h x (by simp [hx])
    refine ⟨by simp [PyData.canLayAll0, h1, h3], ?_⟩
    show max d.depth (PyData.depthAll ds) ≤ n
    omega
theorem lay_list {n : Nat} {ds : List PyData} (h : ∀ d ∈ ds, d.canLay0 = true ∧ d.depth ≤ n) : (PyData.list ds).canLay0 = true ∧ (PyData.list ds).depth ≤ n + 1 := by
  obtain ⟨h1, h2⟩ := lay_all n ds h
  exact ⟨by simpa [PyData.canLay0] using h1, Nat.succ_le_succ h2⟩
theorem lay_tup {n : Nat} {ds : List PyData} (h : ∀ d ∈ ds, d.canLay0 = true ∧ d.depth ≤ n) : (PyData.tuple ds).canLay0 = true ∧ (PyData.tuple ds).depth ≤ n + 1 := by
  obtain ⟨h1, h2⟩ := lay_all n ds h
  exact ⟨by simpa [PyData.canLay0] using h1, Nat.succ_le_succ h2⟩
theorem lay_row (row : List Mv) : (rowD row).canLay0 = true ∧ (rowD row).depth ≤ 2 := by
  refine lay_list fun d hd => ?_
  obtain ⟨m, _, rfl⟩ := List.mem_map.mp hd
  exact lay_tup (n := 0) fun x hx => by
    simp at hx
    rcases hx with rfl | rfl <;> exact ⟨rfl, Nat.le_refl _⟩
theorem lay_gs (s : GS) : (gsD s).canLay0 = true ∧ (gsD s).depth ≤ 1 := by
  refine lay_tup (n := 0) fun x hx => ?_
  simp only [gsDs, List.mem_cons, List.not_mem_nil, or_false] at hx
  rcases hx with rfl | rfl | rfl | rfl | rfl | rfl | rfl | rfl
  any_goals exact ⟨rfl, Nat.le_refl _⟩
  cases s.met <;> exact ⟨rfl, Nat.le_refl _⟩
theorem shaped_lay {n : Nat} {d : PyData} (h : d.canLay0 = true ∧ d.depth ≤ n) (hn : n ≤ 64) : SeqAt.shaped d = true := by
  unfold SeqAt.shaped
  rw [h.1, decide_eq_true (Nat.le_trans h.2 hn)]
  rfl
def lvD (x : GS × List Mv) : PyData := .tuple [gsD x.1, rowD x.2]
theorem shaped_lv (lv : LV GS Mv) : SeqAt.shaped (.list (lv.map lvD)) = true := by
  refine shaped_lay (n := 4) (lay_list fun d hd => ?_) (by decide)
  obtain ⟨x, _, rfl⟩ := List.mem_map.mp hd
  refine lay_tup (n := 2) fun y hy => ?_
  simp only [List.mem_cons, List.not_mem_nil, or_false] at hy
  rcases hy with rfl | rfl
  · have := lay_gs x.1; exact ⟨this.1, by omega⟩
  · exact lay_row x.2
theorem small6 {n : Nat} (h : n ≤ 2000000) : n < sizeLine := by rw [sizeLine_eq]; omega
/-- the states of a level and their rows, at xs; none of the rows is the list at q -/
def LvIs (H0 H : Hp) (q : Addr) (xs : List V) (lv : LV GS Mv) : Prop := xs.length = lv.length ∧ ∀ (i : Nat) (x : GS × List Mv), lv[i]? = some x →
  ∃ (t sa ra : Addr) (ms : List V), xs[i]? = some (.ref t) ∧ H t = some (.tup [.ref sa, .ref ra]) ∧ H sa = some (.tup (gsV x.1)) ∧ H ra = some (.lst ms) ∧ MvsNew H0 H ms x.2 ∧ ra ≠ q
/-- what was met, in the dict at D -/
def MetIs (P : Program) (w : World) (H : Hp) (D : Addr) (mx : MX) (met : List GS) : Prop := H D = some (metO P w D mx) ∧ mx.map (·.1) = met.map (fun s => keyOf (gsD s)) ∧ ∀ x ∈ mx, ∃ s, x.1 = keyOf (gsD s) ∧ H x.2 = some (.tup (gsV s))
section
variable {P : Program} {w : World} {K : PySem.W.Frag} {H0 H H' : Hp} {q D : Addr}
theorem tup_keep {mx : MX} {b : Addr} {ys zs : List V} (f : Frm [q, D] H H') (hq : H q = some (.lst zs)) (hD : H D = some (metO P w D mx)) (h : H b = some (.tup ys)) : H' b = some (.tup ys) := f _ _ (by
  intro hm
  simp only [List.mem_cons, List.not_mem_nil, or_false] at hm
  rcases hm with rfl | rfl
  · rw [hq] at h; cases h
  · rw [hD] at h; cases h) h
theorem MetIs.at {mx : MX} {met : List GS} (m : MetIs P w H D mx met) : MetAt P w K H D mx := ⟨m.1, fun x hx => by
  obtain ⟨s, h1, h2⟩ := m.2.2 x hx
  exact ⟨gsD s, .tup (SqT.of h2) (dpa_gs s), hsh_gs s, h1.symm, by rw [h1]; exact depth_gs s⟩⟩
theorem MetIs.length {mx : MX} {met : List GS} (m : MetIs P w H D mx met) : mx.length = met.length := by
  have := congrArg List.length m.2.1
  simpa using this
theorem MetIs.mem {mx : MX} {met : List GS} (m : MetIs P w H D mx met) (s : GS) : keyOf (gsD s) ∈ mx.map (·.1) ↔ s ∈ met := by
  rw [m.2.1]
  constructor
  · intro h
    obtain ⟨t, ht, e⟩ := List.mem_map.mp h
    rw [← key_inj e]; exact ht
  · intro h; exact List.mem_map.mpr ⟨s, h, rfl⟩
theorem MetIs.mono {mx : MX} {met : List GS} (m : MetIs P w H D mx met) (e : Same H H') : MetIs P w H' D mx met :=
  ⟨e _ _ m.1, m.2.1, fun x hx => let ⟨s, h1, h2⟩ := m.2.2 x hx; ⟨s, h1, e _ _ h2⟩⟩
theorem LvIs.mono {xs : List V} {lv : LV GS Mv} (l : LvIs H0 H q xs lv) (e : Same H H') : LvIs H0 H' q xs lv :=
  ⟨l.1, fun i x hx => let ⟨t, sa, ra, ms, h1, h2, h3, h4, h5, h6⟩ := l.2 i x hx; ⟨t, sa, ra, ms, h1, e _ _ h2, e _ _ h3, e _ _ h4, h5.mono e, h6⟩⟩
theorem LvIs.frm {mx : MX} {zs : List V} {xs : List V} {lv : LV GS Mv} (l : LvIs H0 H q xs lv) (f : Frm [q, D] H H') (hq : H q = some (.lst zs)) (hD : H D = some (metO P w D mx)) : LvIs H0 H' q xs lv := by
  refine ⟨l.1, fun i x hx => ?_⟩
  obtain ⟨t, sa, ra, ms, h1, h2, h3, h4, h5, h6⟩ := l.2 i x hx
  refine ⟨t, sa, ra, ms, h1, tup_keep f hq hD h2, tup_keep f hq hD h3, f _ _ ?_ h4, ⟨h5.1, fun j m hm => ?_⟩, h6⟩
  · intro hm
    simp only [List.mem_cons, List.not_mem_nil, or_false] at hm
    rcases hm with e | e
    · exact h6 e
    · rw [e, hD] at h4; cases h4
  · obtain ⟨u, a, b, c⟩ := h5.2 j m hm
    exact ⟨u, a, b, tup_keep f hq hD c⟩
theorem LvIs.dpa {xs : List V} {lv : LV GS Mv} (l : LvIs H0 H q xs lv) : DpAll K H xs (lv.map lvD) := by
  refine dpa_map (fun i v hv => ?_) l.1
  have hi : i < lv.length := by rw [← l.1]; exact (List.getElem?_eq_some_iff.mp hv).1
  obtain ⟨t, sa, ra, ms, h1, h2, h3, h4, h5, h6⟩ := l.2 i lv[i] (List.getElem?_eq_getElem hi)
  rw [h1] at hv
  cases hv
  refine ⟨lv[i], List.getElem?_eq_getElem hi, .tup (SqT.of h2) (.cons (.tup (SqT.of h3) (dpa_gs _)) (.cons (.lst (SqL.of h4) ?_) .nil))⟩
  have := h5.dpa (K := K) (ps := []) (fun _ _ _ _ => by simp)
  rw [fz_nil] at this
  exact this
theorem LvIs.snoc {xs : List V} {lv : LV GS Mv} {t sa ra : Addr} {ms : List V} {x : GS × List Mv} (l : LvIs H0 H q xs lv) (h2 : H t = some (.tup [.ref sa, .ref ra])) (h3 : H sa = some (.tup (gsV x.1))) (h4 : H ra = some (.lst ms)) (h5 : MvsNew H0 H ms x.2) (h6 : ra ≠ q) :
    LvIs H0 H q (xs ++ [.ref t]) (lv ++ [x]) := by
  refine ⟨by simp [l.1], fun i y hy => ?_⟩
  by_cases c : i < lv.length
  · rw [List.getElem?_append_left c] at hy
    obtain ⟨t', sa', ra', ms', k1, k2⟩ := l.2 i y hy
    exact ⟨t', sa', ra', ms', by rw [List.getElem?_append_left (by rw [l.1]; exact c)]; exact k1, k2⟩
  · have : i = lv.length := by
      have := (List.getElem?_eq_some_iff.mp hy).1
      simp at this
      omega
    subst this
    simp at hy
    subst hy
    exact ⟨t, sa, ra, ms, by rw [← l.1]; simp, h2, h3, h4, h5, h6⟩
end
def spFirst (K : PySem.W.Frag) (C : Addr) : Sp := fun vs H Q _ => ∃ (p : Addr) (least : Int) (noises : Bool) (g : GP), vs = [.ref p, .int least, .bl noises] ∧ GameAt K C H p g ∧ g.Ok ∧
  ∀ r, gBfs g least noises 1000000 [(gFirst g, [])] [gFirst g] = some r → (r = none → ∀ H', Same H H' → Q .non H') ∧
    ∀ row, r = some row → ∀ (l : Addr) (xs : List V) (H' : Hp), H l = none → Same H H' → H' l = some (.lst xs) → MvsNew H H' xs row → row.length ≤ 1000000 → Q (.ref l) H'
section
variable {P : Program} {w : World} {K : PySem.W.Frag} {mg : Str → Option Value} {base : Heap}
theorem sc_first : FnScope ["self", "least", "noises", "level", "met", "behind", "state", "row", "move", "other", "by", "noise"] ["self", "least", "noises"] (defScope (inClass (top 22) 3)) := ⟨rfl, rfl, rfl, by decide +kernel, rfl, by decide +kernel, by decide +kernel⟩
set_option maxHeartbeats 2000000 in
theorem ok_first {f C : Addr} {fd : FuncData} (F : Fun K "first_row" "Game.first_row" (inClass (top 22) 3) f fd) (gk : GameK K C) (n_abs : mg "abs" = none)
    (m_moves : Mtd P w K mg base 1 C "moves" ["self", "state"] (spMoves K C)) (m_behind : Mtd P w K mg base 1 C "behind" ["self", "state", "move"] (spBehind K C)) : FnOk P w K mg base CX0 2 f fd ["self", "least", "noises"] (spFirst K C) := by
  have sc := sc_first
  have cl := gk.cl
  refine F.ok sc (fun vs H Q E h => ?_) (fun cdv A outer s H vs Q E hr h => ?_)
  · obtain ⟨p, least, noises, g, rfl, _⟩ := h
    rfl
  · obtain ⟨p, least, noises, g, rfl, hg, gok, k⟩ := h
    obtain ⟨r, hr0⟩ := game_ends gok least noises
    obtain ⟨kN, kS⟩ := k r hr0
    obtain ⟨dx, fa, hp, hfa⟩ := id hg
    refine ⟨_, (pss_cons (ps_set (i := 3) sc.nd rfl (Or.inl rfl) (pe_lst (pa_cons (pe_tup (pa_cons (pe_fldK (K := K) rfl (pv 0)) (pa_cons (pe_lst pa_nil) pa_nil))) pa_nil)))
(pss_cons (ps_set (i := 4) sc.nd rfl (Or.inl rfl) (pe_metOne (room8 hr) (pe_fldK (K := K) rfl (pv 0)) pe_bl))
(pss_cons (ps_while PassesOwn.never (pt_cmpR (r := rNeD K) (op_neD hr.units) (pv 3) (pe_lst pa_nil) (nomark _))
(pss_cons (ps_set (i := 5) sc.nd rfl (Or.inl rfl) (pe_lst pa_nil))
(pss_cons (ps_for PassesOwn.never rfl (pi_list (pv 3)) (pg_tup rfl (pgs_cons (pg_name (i := 6) sc.nd rfl (Or.inl rfl)) (pgs_cons (pg_name (i := 7) sc.nd rfl (Or.inl rfl)) pgs_nil)))
(pss_one (ps_for PassesOwn.never rfl (pi_list (pe_mtd m_moves cl (hr.mono (by first | decide | omega)) (pv 0) (pa_cons (pv 6) pa_nil))) (pg_name (i := 8) sc.nd rfl (Or.inl rfl))
(pss_cons (ps_asg (pe_mtd m_behind cl (hr.mono (by first | decide | omega)) (pv 0) (pa_cons (pv 6) (pa_cons (pv 8) pa_nil))) (pg_tup rfl (pgs_cons (pg_name (i := 9) sc.nd rfl (Or.inl rfl)) (pgs_cons (pg_name (i := 10) sc.nd rfl (Or.inl rfl)) (pgs_cons (pg_name (i := 11) sc.nd rfl (Or.inl rfl)) pgs_nil)))))
(pss_cons (ps_if (pt_cut (PW.pt (pw_or (pt_cmpR op_ge (pe_callB call_abs (by rfl) n_abs (by decide +kernel) (pa_cons (pv 10) pa_nil)) (pv 1) (nomark _)) (pw_or1 (PW.pt (pw_and (pt_val (pv 2)) (pw_and1 (pt_val (pv 11)))))))))
(pss_one (ps_ret (pe_op op_cat (pv 7) (pe_lst (pa_cons (pv 8) pa_nil)))))
pss_nil)
(pss_one (ps_if (pt_cut (PW.pt (pw_and (pt_cmpR (r := rNotInM P w K) (op_notInM (room8 hr)) (pv 9) (pv 4) (by rfl)) (pw_and1 (pt_cmpR op_lt (pe_callB call_abs (by rfl) n_abs (by decide +kernel) (pa_cons (pe_ix (r := rIxT K) ix_tup (pv 9) pe_int (fun _ _ => rfl)) pa_nil)) pe_int (nomark _))))))
(pss_cons (ps_asg pe_bl (pg_sub (t := rSetM P w K) (pv 4) (pv 9) (set_met (room8 hr))))
(pss_one (ps_expr (pe_bm PySem.F.plainAttrs_list PySem.F.slot_list_append PySem.F.type_list_append mt_append (pv 5) (pa_cons (pe_tup (pa_cons (pv 9) (pa_cons (pe_op op_cat (pv 7) (pe_lst (pa_cons (pv 8) pa_nil))) pa_nil))) pa_nil)))))
pss_nil)))))))
(pss_one (ps_set (i := 3) sc.nd rfl (Or.inl rfl) (pv 5))))))
(pss_one (ps_ret pe_non))))), ?_⟩
    -- the first level
    refine ⟨_, rfl, p, C, dx, _, _, rfl, hp, gk.cl, gk.first, rfl, Nat.zero_le _, fun r0 hr0' => ⟨(by show 2 ≤ sizeLine; decide), fun t0 ht0 => ⟨(by show 1 ≤ sizeLine; decide), fun L0 hL0 => ?_⟩⟩⟩
    have s1 := same_new hr0' (o := .lst [])
    have s2 := same_new ht0 (o := .tup [.ref fa, .ref r0])
    have s3 := same_new hL0 (o := .lst [.ref t0])
    have sA := s1.trans (s2.trans s3)
    refine fun D0 hD0 => ?_
    have s4 := same_new hD0 (o := metO P w D0 [])
    have sB := sA.trans s4
    refine ⟨_, rfl, p, C, dx, _, _, rfl, sB _ _ hp, gk.cl, gk.first, rfl, fa, gsD (gFirst g), rfl, rfl, upd_same, .tup (SqT.of (sB _ _ hfa)) (dpa_gs _), hsh_gs _, depth_gs _, ?_⟩
    rw [upd_upd]
    have s5 := same_new hD0 (o := metO P w D0 [(keyOf (gsD (gFirst g)), fa)])
    have sC := sA.trans s5
    -- level by level
    refine ⟨fun n σ H' => ∃ (lv : LV GS Mv) (met : List GS) (kk : Nat) (L : Addr) (xs : List V) (mx : MX) (u5 u6 u7 u8 u9 u10 u11 : Option V), σ = [some (.ref p), some (.int least), some (.bl noises), some (.ref L), some (.ref D0), u5, u6, u7, u8, u9, u10, u11] ∧
      Same H H' ∧ gBfs g least noises n lv met = some r ∧ H' L = some (.lst xs) ∧ (∀ q, H' q = none → LvIs H H' q xs lv) ∧ MetIs P w H' D0 mx met ∧ (∀ s ∈ met, VS g s) ∧ met.Nodup ∧ (∀ x ∈ lv, VS g x.1 ∧ x.2.length = kk) ∧ kk + n ≤ 1000000, ⟨1000000, ?_⟩, ?_⟩
    · refine ⟨[(gFirst g, [])], [gFirst g], 0, L0, [.ref t0], [(keyOf (gsD (gFirst g)), fa)], none, none, none, none, none, none, none, rfl, sC, hr0, s5 _ _ upd_same, fun q hq => ?_, ⟨upd_same, rfl, fun x hx => ?_⟩, fun s hs => ?_, by simp, fun x hx => ?_, Nat.le_refl _⟩
      · refine ⟨rfl, fun i x hx => ?_⟩
        match i, hx with
        | 0, hx =>
          cases hx
          have hr5 := (s2.trans (s3.trans s5)) _ _ (upd_same (a := r0) (o := .lst []))
          exact ⟨t0, fa, r0, [], rfl, (s3.trans s5) _ _ upd_same, sC _ _ hfa, hr5, MvsNew.nil, ne_of_none hr5 hq⟩
      · rw [List.mem_singleton.mp hx]
        exact ⟨_, rfl, sC _ _ hfa⟩
      · rw [List.mem_singleton.mp hs]; exact vs_first gok
      · rw [List.mem_singleton.mp hx]; exact ⟨vs_first gok, rfl⟩
    · rintro n σ Hs ⟨lv, met, kk, L, xs, mx, u5, u6, u7, u8, u9, u10, u11, rfl, sH, hb, hL, hLv, hM, hV, hnd, hlv, hkk⟩
      refine ⟨_, rfl, Nat.zero_le _, fun e he => ?_⟩
      have se := same_new he (o := .lst [])
      refine ⟨_, _, .lst (SqL.of (se _ _ hL)) (dpa_same se (hLv e he).dpa), dp_nilL (SqL.of upd_same), shaped_lv lv, rfl, _, rfl, ?_⟩
      rw [eqv_nil]
      cases n with
      | zero => exact absurd hb (by intro z; cases z)
      | succ n =>
      cases lv with
      | nil =>
        have er : r = none := by
          have : some none = some r := hb
          injection this with this
          exact this.symm
        exact iteF (kN er _ (sH.trans se))
      | cons x0 lv0 =>
      generalize hlvE : x0 :: lv0 = lv at hb hLv hlv ⊢
      have hne : (lv.map lvD).isEmpty = false := by rw [← hlvE]; rfl
      rw [hne]
      have hbI : ∀ row, tryL (gMoves g) (gNext g) (gBad g least noises) gFar lv (met, []) = .inl row → r = some row := fun row e => by
        rw [← hlvE] at hb e
        unfold gBfs at hb
        rw [bfs_cons, e] at hb
        exact (Option.some.inj hb).symm
      have hbR : ∀ mb, tryL (gMoves g) (gNext g) (gBad g least noises) gFar lv (met, []) = .inr mb → gBfs g least noises n mb.2 mb.1 = some r := fun mb e => by
        rw [← hlvE] at hb e
        unfold gBfs at hb
        rw [bfs_cons, e] at hb
        exact hb
      refine iteT ⟨fun σ' H' => ∃ (lv : LV GS Mv) (met : List GS) (kk : Nat) (L : Addr) (xs : List V) (mx : MX) (u5 u6 u7 u8 u9 u10 u11 : Option V), σ' = [some (.ref p), some (.int least), some (.bl noises), some (.ref L), some (.ref D0), u5, u6, u7, u8, u9, u10, u11] ∧
        Same H H' ∧ gBfs g least noises n lv met = some r ∧ H' L = some (.lst xs) ∧ (∀ q, H' q = none → LvIs H H' q xs lv) ∧ MetIs P w H' D0 mx met ∧ (∀ s ∈ met, VS g s) ∧ met.Nodup ∧ (∀ x ∈ lv, VS g x.1 ∧ x.2.length = kk) ∧ kk + n ≤ 1000000, fun σ' H' h' => ⟨n, Nat.lt_succ_self _, h'⟩, ?_⟩
      generalize hT : tryL (gMoves g) (gNext g) (gBad g least noises) gFar lv (met, []) = T at hbI hbR
      -- what is behind
      refine ⟨Nat.zero_le _, fun q hq => ?_⟩
      have sq := same_new hq (o := .lst [])
      have seq := se.trans sq
      have hLv1 := (hLv q (se.free hq)).mono seq
      have hM1 := hM.mono seq
      have hL1 := seq _ _ hL
      have sH1 := sH.trans seq
      have hq1 : (upd (upd Hs e (.lst [])) q (.lst [])) q = some (.lst []) := upd_same
      have nqL : L ≠ q := ne_of_none (se _ _ hL) hq
      have qfree : H q = none := (sH.trans se).free hq
      revert hLv1 hM1 hL1 sH1 hq1
      generalize upd (upd Hs e (.lst [])) q (.lst []) = H1
      intro hLv1 hM1 hL1 sH1 hq1
      have nDq : D0 ≠ q := fun z => by have := hM1.1; rw [z, hq1] at this; cases this
      have nLD : L ≠ D0 := fun z => by have := hM1.1; rw [← z, hL1] at this; cases this
      have D0free : H D0 = none := sA.free hD0
      have lenMet : ∀ {mt : List GS}, (∀ s ∈ mt, VS g s) → mt.Nodup → mt.length ≤ 423360 := fun {mt} h1 h2 => Nat.le_trans (len_le_of_sub h2 fun s hs => (mem_some gok).mpr (h1 s hs)) (some_len g)
      refine ⟨_, rfl, L, rfl, ⟨xs, SqL.of hL1⟩, for_it (walk_list (xs := xs)) (fun i σ H' => ∃ (mb : List GS × LV GS Mv) (mx : MX) (ys : List V) (u6 u7 u8 u9 u10 u11 : Option V), σ = [some (.ref p), some (.int least), some (.bl noises), some (.ref L), some (.ref D0), some (.ref q), u6, u7, u8, u9, u10, u11] ∧
        Same H H' ∧ Frm [q, D0] H1 H' ∧ tryL (gMoves g) (gNext g) (gBad g least noises) gFar (lv.drop i) mb = T ∧ MetIs P w H' D0 mx mb.1 ∧ H' q = some (.lst ys) ∧ LvIs H H' q ys mb.2 ∧ (∀ s ∈ mb.1, VS g s) ∧ mb.1.Nodup ∧ (∀ x ∈ mb.2, VS g x.1 ∧ x.2.length = kk + 1) ∧ mb.2.length ≤ mb.1.length)
        ?_ ?_ ?_ ?_⟩
      · exact ⟨(met, []), mx, [], u6, u7, u8, u9, u10, u11, rfl, sH1, Frm.refl, hT, hM1, hq1, ⟨rfl, by simp⟩, hV, hnd, by simp, Nat.zero_le _⟩
      · rintro i σ H' _ ⟨mb, mx', ys, v6, v7, v8, v9, v10, v11, rfl, sH', fr', _⟩
        exact SqL.of (fr' _ _ (by simp [nqL, nLD]) hL1)
      · rintro i x σ H2 H3 hi ⟨mb, mx', ys, v6, v7, v8, v9, v10, v11, rfl, sH2, fr2, hTi, hM2, hq2, hB2, hV2, hnd2, hlv2, hle2⟩ ⟨rfl, hx⟩
        have hil : i < lv.length := by rw [← (hLv1).1]; exact hi
        obtain ⟨t, sa, ra, ms, h1, h2, h3, h4, h5, h6⟩ := (hLv1.frm fr2 hq1 hM1.1).2 i lv[i] (List.getElem?_eq_getElem hil)
        rw [h1] at hx
        cases hx
        have hdrop : lv.drop i = lv[i] :: lv.drop (i + 1) := List.drop_eq_getElem_cons hil
        obtain ⟨hVx, hkx⟩ := hlv lv[i] (List.getElem_mem hil)
        revert h3 h5 hVx hkx hdrop
        generalize lv[i] = X
        obtain ⟨s0, row⟩ := X
        intro h3 h5 hdrop hVx hkx
        dsimp only at h3 h5 hVx hkx
        refine ⟨t, _, rfl, SqT.of h2, rfl, _, _, rfl, _, _, rfl, rfl, ?_⟩
        have hg2 := hg.same sH2
        obtain ⟨dx2, fa2, hp2, _⟩ := id hg2
        -- its moves
        refine ⟨_, rfl, p, dx2, _, rfl, hp2, rfl, _, rfl, p, .ref sa, g, s0, rfl, hg2, .tup (SqT.of h3) (dpa_gs s0), fun l zs H4 hl s4 hl4 hZ => ?_⟩
        have nlq : l ≠ q := (ne_of_none hq2 hl).symm
        have nlD : l ≠ D0 := (ne_of_none hM2.1 hl).symm
        have hTm : (match tryMs (gNext g) (gBad g least noises) gFar s0 row ((gMoves g s0).drop 0) mb with | .inl y => Sum.inl y | .inr mb' => tryL (gMoves g) (gNext g) (gBad g least noises) gFar (lv.drop (i + 1)) mb') = T := by
          rw [hdrop] at hTi
          rw [← hTi, tryL, List.drop_zero]
          dsimp only
          cases tryMs (gNext g) (gBad g least noises) gFar s0 row (gMoves g s0) mb <;> rfl
        refine ⟨l, rfl, ⟨zs, SqL.of hl4⟩, for_it (walk_list (xs := zs)) (fun j σ H' => ∃ (mb : List GS × LV GS Mv) (mx : MX) (ys : List V) (u8 u9 u10 u11 : Option V), σ = [some (.ref p), some (.int least), some (.bl noises), some (.ref L), some (.ref D0), some (.ref q), some (.ref sa), some (.ref ra), u8, u9, u10, u11] ∧
          Same H H' ∧ Frm [q, D0] H4 H' ∧ (match tryMs (gNext g) (gBad g least noises) gFar s0 row ((gMoves g s0).drop j) mb with | .inl y => Sum.inl y | .inr mb' => tryL (gMoves g) (gNext g) (gBad g least noises) gFar (lv.drop (i + 1)) mb') = T ∧
          MetIs P w H' D0 mx mb.1 ∧ H' q = some (.lst ys) ∧ LvIs H H' q ys mb.2 ∧ (∀ s ∈ mb.1, VS g s) ∧ mb.1.Nodup ∧ (∀ x ∈ mb.2, VS g x.1 ∧ x.2.length = kk + 1) ∧ mb.2.length ≤ mb.1.length)
          ?_ ?_ ?_ ?_⟩
        · exact ⟨mb, mx', ys, v8, v9, v10, v11, rfl, sH2.trans s4, Frm.refl, hTm, hM2.mono s4, s4 _ _ hq2, hB2.mono s4, hV2, hnd2, hlv2, hle2⟩
        · rintro j σ H' _ ⟨mb, mx', ys, w8, w9, w10, w11, rfl, sH', fr', _⟩
          exact SqL.of (fr' _ _ (by simp [nlq, nlD]) hl4)
        · rintro j x σ H5 H6 hj ⟨mb, mx', ys, w8, w9, w10, w11, rfl, sH5, fr5, hTj, hM5, hq5, hB5, hV5, hnd5, hlv5, hle5⟩ ⟨rfl, hx⟩
          have hjl : j < (gMoves g s0).length := by rw [← hZ.1]; exact hj
          obtain ⟨mt, k1, k2, k3⟩ := hZ.2 j (gMoves g s0)[j] (List.getElem?_eq_getElem hjl)
          rw [k1] at hx
          cases hx
          have hmd : (gMoves g s0).drop j = (gMoves g s0)[j] :: (gMoves g s0).drop (j + 1) := List.drop_eq_getElem_cons hjl
          have hmm : (gMoves g s0)[j] ∈ gMoves g s0 := List.getElem_mem hjl
          revert k3 hmd hmm
          generalize (gMoves g s0)[j] = m
          intro k3 hmd hmm
          rw [hmd] at hTj
          have mtH : H mt = none := sH2.free k2
          have qD4 : H4 q = some (.lst _) := s4 _ _ hq2
          have mD4 := s4 _ _ hM2.1
          have k5 : H6 mt = some (.tup [.int m.1, .bl m.2]) := tup_keep fr5 qD4 mD4 k3
          have h35 : H6 sa = some (.tup (gsV s0)) := tup_keep fr5 qD4 mD4 (s4 _ _ h3)
          have h45 : H6 ra = some (.lst ms) := fr5 _ _ (by
            intro hm
            simp only [List.mem_cons, List.not_mem_nil, or_false] at hm
            rcases hm with e | e
            · exact h6 e
            · rw [e, hM2.1] at h4; cases h4) (s4 _ _ h4)
          have h55 : MvsNew H H6 ms row := ⟨h5.1, fun j m hm => by
            obtain ⟨u, a, b, c⟩ := h5.2 j m hm
            exact ⟨u, a, b, tup_keep fr5 qD4 mD4 (s4 _ _ c)⟩⟩
          have hml : ms.length = kk := by rw [h5.1, hkx]
          have hg5 := hg.same sH5
          obtain ⟨dx5, fa5, hp5, _⟩ := id hg5
          refine ⟨_, rfl, p, dx5, _, rfl, hp5, rfl, _, rfl, _, rfl, p, .ref sa, .ref mt, g, s0, m, rfl, hg5, gok, .tup (SqT.of h35) (dpa_gs s0), .tup (SqT.of k5) (dpa_ib _ _), fun tt o H7 htt ho s7 htt7 ho7 => ?_⟩
          refine ⟨tt, _, rfl, SqT.of htt7, rfl, _, _, rfl, _, _, rfl, _, _, rfl, rfl, ?_⟩
          have sH7 := sH5.trans s7
          have fr7 : Frm [q, D0] H4 H7 := fr5.trans (Frm.of_same s7)
          have hM7 := hM5.mono s7
          have hq7 := s7 _ _ hq5
          have hB7 := hB5.mono s7
          have hra7 := s7 _ _ h45
          have hms7 := h55.mono s7
          have hmt7 := s7 _ _ k5
          have oD : Dp K H7 (.ref o) (gsD (gNext g s0 m)) := .tup (SqT.of ho7) (dpa_gs _)
          have hkk' : kk ≤ 1000000 := by omega
          -- a fault
          refine ⟨fun b H' => b = gBad g least noises s0 m ∧ H' = H7, ?_, ?_⟩
          · unfold gBad
            refine ⟨_, rfl, _, rfl, _, rfl, _, _, rfl, rfl, _, rfl, ?_⟩
            by_cases c1 : least ≤ absI (gBy g s0 m)
            · rw [decide_eq_true c1, Bool.true_or]
              exact iteDT c1 ⟨rfl, rfl⟩
            · rw [decide_eq_false c1, Bool.false_or]
              refine iteDF c1 ⟨_, rfl, _, rfl, iteB (fun e => ?_) (fun e => ?_)⟩
              · rw [e, Bool.true_and]; exact ⟨_, rfl, _, rfl, rfl, rfl⟩
              · rw [e, Bool.false_and]; exact ⟨rfl, rfl⟩
          rintro b H8 ⟨rfl, rfl⟩
          refine iteB (fun hbad => ?_) (fun hbad => ?_)
          · refine ⟨_, rfl, _, rfl, (by show 1 ≤ sizeLine; decide), fun e1 he1 => ?_⟩
            have se1 := same_new he1 (o := .lst [.ref mt])
            refine ⟨ra, e1, ms, _, rfl, rfl, se1 _ _ hra7, upd_same, Nat.le_of_lt (small6 (by show ms.length + 1 ≤ 2000000; omega)), fun l1 hl1 => ?_⟩
            have sl1 := same_new hl1 (o := .lst (ms ++ [.ref mt]))
            have eT : T = .inl (row ++ [m]) := by
              rw [← hTj]
              unfold tryMs tryM
              rw [if_pos hbad]
            refine kS _ (hbI _ eT) l1 _ _ ((sH7.trans se1).free hl1) ((sH7.trans se1).trans sl1) upd_same (MvsNew.snoc (hms7.mono (se1.trans sl1)) mtH ((se1.trans sl1) _ _ hmt7)) ?_
            rw [List.length_append, List.length_singleton, hkx]; omega
          -- met already
          have eTj : (match tryM (gNext g) (gBad g least noises) gFar s0 row mb m with | .inl x => Sum.inl x | .inr mb' => (match tryMs (gNext g) (gBad g least noises) gFar s0 row ((gMoves g s0).drop (j + 1)) mb' with | .inl y => Sum.inl y | .inr mb' => tryL (gMoves g) (gNext g) (gBad g least noises) gFar (lv.drop (i + 1)) mb')) = T := by
            rw [← hTj, tryMs]
            cases tryM (gNext g) (gBad g least noises) gFar s0 row mb m <;> rfl
          unfold tryM at eTj
          rw [if_neg (by rw [hbad]; decide)] at eTj
          refine ⟨fun b H' => b = decide (gNext g s0 m ∉ mb.1 ∧ gFar (gNext g s0 m) = true) ∧ H' = H8, ?_, ?_⟩
          · refine ⟨_, rfl, _, rfl, D0, o, mx', gsD (gNext g s0 m), rfl, rfl, hM7.at, oD, hsh_gs _, depth_gs _, _, rfl, ?_⟩
            by_cases c1 : gNext g s0 m ∈ mb.1
            · rw [decide_eq_true ((hM7.mem _).mpr c1)]
              exact iteF ⟨(decide_eq_false (fun h => h.1 c1)).symm, rfl⟩
            · rw [decide_eq_false (fun h => c1 ((hM7.mem _).mp h))]
              refine iteT ⟨_, rfl, o, _, _, _, rfl, rfl, SqT.of ho7, at_of (j := 3) rfl rfl, _, rfl, _, _, rfl, rfl, _, rfl, ?_, rfl⟩
              show decide (absI (gNext g s0 m).kept < 8) = _
              by_cases c2 : absI (gNext g s0 m).kept < 8
              · rw [decide_eq_true c2, decide_eq_true ⟨c1, decide_eq_true c2⟩]
              · rw [decide_eq_false c2, decide_eq_false (fun h => c2 (of_decide_eq_true h.2))]
          rintro b H9 ⟨rfl, rfl⟩
          refine iteD (fun hc => ?_) (fun hc => ?_)
          · rw [if_pos hc] at eTj
            dsimp only at eTj
            have hVn : VS g (gNext g s0 m) := vs_next gok hVx hmm hc.2
            have hl1 := lenMet hV5 hnd5
            refine ⟨_, rfl, _, rfl, D0, o, mx', gsD (gNext g s0 m), rfl, rfl, rfl, hM7.at, oD, hsh_gs _, depth_gs _, fun h => hc.1 ((hM7.mem _).mp h), small6 (by rw [hM7.length]; omega), ?_⟩
            have fD : Frm [q, D0] H9 (upd H9 D0 (metO P w D0 (mx' ++ [(keyOf (gsD (gNext g s0 m)), o)]))) := Frm.set (by simp)
            have sH10 : Same H (upd H9 D0 (metO P w D0 (mx' ++ [(keyOf (gsD (gNext g s0 m)), o)]))) := same_put D0free sH7
            have hB10 := hB7.frm fD hq7 hM7.1
            have hq10 : (upd H9 D0 (metO P w D0 (mx' ++ [(keyOf (gsD (gNext g s0 m)), o)]))) q = some (.lst ys) := by rw [upd_ne nDq.symm]; exact hq7
            have tk : ∀ {b : Addr} {ys : List V}, H9 b = some (.tup ys) → (upd H9 D0 (metO P w D0 (mx' ++ [(keyOf (gsD (gNext g s0 m)), o)]))) b = some (.tup ys) := fun {b ys} h => tup_keep fD hq7 hM7.1 h
            have ho10 := tk ho7
            have hmt10 := tk hmt7
            have hra10 : (upd H9 D0 (metO P w D0 (mx' ++ [(keyOf (gsD (gNext g s0 m)), o)]))) ra = some (.lst ms) := by
              rw [upd_ne (fun z => by rw [z, hM7.1] at hra7; cases hra7)]; exact hra7
            have hms10 : MvsNew H (upd H9 D0 (metO P w D0 (mx' ++ [(keyOf (gsD (gNext g s0 m)), o)]))) ms row := ⟨hms7.1, fun j m hm => by
              obtain ⟨u, a, b, c⟩ := hms7.2 j m hm
              exact ⟨u, a, b, tk c⟩⟩
            have hM10 : MetIs P w (upd H9 D0 (metO P w D0 (mx' ++ [(keyOf (gsD (gNext g s0 m)), o)]))) D0 (mx' ++ [(keyOf (gsD (gNext g s0 m)), o)]) (mb.1 ++ [gNext g s0 m]) := by
              refine ⟨upd_same, by rw [List.map_append, hM7.2.1, List.map_append]; rfl, fun x hx => ?_⟩
              rcases List.mem_append.mp hx with h | h
              · obtain ⟨s, e1, e2⟩ := hM7.2.2 x h
                exact ⟨s, e1, tk e2⟩
              · rw [List.mem_singleton.mp h]
                exact ⟨_, rfl, ho10⟩
            have fr10 : Frm [q, D0] H4 (upd H9 D0 (metO P w D0 (mx' ++ [(keyOf (gsD (gNext g s0 m)), o)]))) := fr7.trans fD
            revert sH10 hB10 hq10 ho10 hmt10 hra10 hms10 hM10 fr10
            generalize upd H9 D0 (metO P w D0 (mx' ++ [(keyOf (gsD (gNext g s0 m)), o)])) = H10
            intro sH10 hB10 hq10 ho10 hmt10 hra10 hms10 hM10 fr10
            -- behind.append
            refine ⟨_, rfl, .inl ⟨rfl, _, SqL.of hq10⟩, _, rfl, _, rfl, _, rfl, (by show 1 ≤ sizeLine; decide), fun e1 he1 => ?_⟩
            have se1 := same_new he1 (o := .lst [.ref mt])
            refine ⟨ra, e1, ms, _, rfl, rfl, se1 _ _ hra10, upd_same, Nat.le_of_lt (small6 (by show ms.length + 1 ≤ 2000000; omega)), fun l1 hl1' => ?_⟩
            have sl1 := same_new hl1' (o := .lst (ms ++ [.ref mt]))
            refine ⟨(by show 2 ≤ sizeLine; decide), fun tp htp => ?_⟩
            have stp := same_new htp (o := .tup [.ref o, .ref l1])
            have sZ := se1.trans (sl1.trans stp)
            have hqZ := sZ _ _ hq10
            have hyl : ys.length ≤ 423360 := by rw [hB10.1]; omega
            refine ⟨q, ys, _, rfl, rfl, hqZ, small6 (by omega), ?_⟩
            have nl1 : l1 ≠ q := (ne_of_none (se1 _ _ hq10) hl1').symm
            have fQ : Frm [q, D0] (upd (upd (upd H10 e1 (.lst [.ref mt])) l1 (.lst (ms ++ [.ref mt]))) tp (.tup [.ref o, .ref l1])) (upd (upd (upd (upd H10 e1 (.lst [.ref mt])) l1 (.lst (ms ++ [.ref mt]))) tp (.tup [.ref o, .ref l1])) q (.lst (ys ++ [.ref tp]))) := Frm.set (by simp)
            have hMZ := hM10.mono sZ
            have hBZ := (hB10.mono sZ).snoc (x := (gNext g s0 m, row ++ [m])) (t := tp) (sa := o) (ra := l1) (ms := ms ++ [.ref mt]) upd_same (sZ _ _ ho10) (stp _ _ upd_same) (MvsNew.snoc (hms10.mono sZ) mtH (sZ _ _ hmt10)) nl1
            have tz : ∀ {b : Addr} {zs : List V}, (upd (upd (upd H10 e1 (.lst [.ref mt])) l1 (.lst (ms ++ [.ref mt]))) tp (.tup [.ref o, .ref l1])) b = some (.tup zs) → (upd (upd (upd (upd H10 e1 (.lst [.ref mt])) l1 (.lst (ms ++ [.ref mt]))) tp (.tup [.ref o, .ref l1])) q (.lst (ys ++ [.ref tp]))) b = some (.tup zs) := fun {b zs} h => tup_keep fQ hqZ hMZ.1 h
            refine ⟨(mb.1 ++ [gNext g s0 m], mb.2 ++ [(gNext g s0 m, row ++ [m])]), mx' ++ [(keyOf (gsD (gNext g s0 m)), o)], ys ++ [.ref tp], _, _, _, _, rfl, same_put qfree (sH10.trans sZ), fr10.trans ((Frm.of_same sZ).trans fQ), eTj, ?_, upd_same, hBZ.frm fQ hqZ hMZ.1, ?_, ?_, ?_, ?_⟩
            · exact ⟨by rw [upd_ne nDq]; exact hMZ.1, hMZ.2.1, fun x hx => let ⟨s, a, b⟩ := hMZ.2.2 x hx; ⟨s, a, tz b⟩⟩
            · intro s hs
              rcases List.mem_append.mp hs with h | h
              · exact hV5 s h
              · rw [List.mem_singleton.mp h]; exact hVn
            · refine List.nodup_append.mpr ⟨hnd5, by simp, fun a ha b hb e => ?_⟩
              rw [List.mem_singleton.mp hb] at e
              exact hc.1 (e ▸ ha)
            · intro x hx
              rcases List.mem_append.mp hx with h | h
              · exact hlv5 x h
              · rw [List.mem_singleton.mp h]; exact ⟨hVn, by simp [hkx]⟩
            · show (mb.2 ++ [_]).length ≤ (mb.1 ++ [_]).length
              simp; exact hle5
          · rw [if_neg hc] at eTj
            exact ⟨mb, mx', ys, _, _, _, _, rfl, sH7, fr7, eTj, hM7, hq7, hB7, hV5, hnd5, hlv5, hle5⟩
        · rintro σ H5 ⟨mb, mx', ys, w8, w9, w10, w11, rfl, sH5, fr5, hTj, hM5, hq5, hB5, hV5, hnd5, hlv5, hle5⟩
          rw [hZ.1, List.drop_length] at hTj
          refine ⟨mb, mx', ys, _, _, _, _, _, _, rfl, sH5, fr2.trans ((Frm.of_same s4).trans fr5), hTj, hM5, hq5, hB5, hV5, hnd5, hlv5, hle5⟩
      · rintro σ H2 ⟨mb, mx', ys, v6, v7, v8, v9, v10, v11, rfl, sH2, fr2, hTi, hM2, hq2, hB2, hV2, hnd2, hlv2, hle2⟩
        rw [hLv1.1, List.drop_length] at hTi
        have hmb : T = .inr mb := hTi.symm
        refine ⟨_, rfl, mb.2, mb.1, kk + 1, q, ys, mx', _, _, _, _, _, _, _, rfl, sH2, hbR mb hmb, hq2, fun q' hq' => ?_, hM2, hV2, hnd2, hlv2, by omega⟩
        refine ⟨hB2.1, fun i x hx => ?_⟩
        obtain ⟨t, sa, ra, ms, h1, h2, h3, h4, h5, h6⟩ := hB2.2 i x hx
        exact ⟨t, sa, ra, ms, h1, h2, h3, h4, h5, ne_of_none h4 hq'⟩
end
/-! ### what the game tells -/
def gOf (a b c d : Int) : GP := ⟨a, b, c, d⟩
/-- a tuple of a word and a new row -/
def WordRow (H H' : Hp) (p : Addr) (x : Str) (row : List Mv) : Prop := ∃ l xs, H l = none ∧ H' p = some (.tup [.str x, .ref l]) ∧ H' l = some (.lst xs) ∧ MvsNew H H' xs row ∧ row.length ≤ 1000000
def gRes (g : GP) (least : Int) (noises : Bool) (r : Option (List Mv)) : Prop := gBfs g least noises 1000000 [(gFirst g, [])] [gFirst g] = some r
theorem MvsNew.up {H0 H H' : Hp} {xs : List V} {row : List Mv} (h : MvsNew H H' xs row) (e : Same H0 H) : MvsNew H0 H' xs row := ⟨h.1, fun i m q => let ⟨t, a, b, c⟩ := h.2 i m q; ⟨t, a, e.free b, c⟩⟩
/-- what is told is a fault, and none is shorter; none where there is none -/
theorem res_spec {g : GP} {least : Int} {noises : Bool} {r : Option (List Mv)} (h : gRes g least noises r) :
    (∀ row, r = some row → gFault g least noises row ∧ ∀ row', gFault g least noises row' → row.length ≤ row'.length) ∧ (r = none → ∀ row', ¬ gFault g least noises row') :=
  bfs_spec (gone_start (by simp)) h
theorem mem_move {g : GP} {s : GS} {t : Int} {m : Mv} : m ∈ gMove g s t ↔ m.1 = t ∧ (t = 0 ∨ g.gap ≤ s.since) ∧ (m.2 = true → s.phase = 0 ∧ gAge s t < g.bounce ∧ (t ≠ 0 ∨ s.last ≠ 0)) := by
  obtain ⟨a, b⟩ := m
  unfold gMove
  constructor
  · intro h
    split at h
    · rename_i c
      rcases List.mem_cons.mp h with e | h
      · cases e; exact ⟨rfl, c, fun z => by cases z⟩
      · split at h
        · rename_i c2
          cases List.mem_singleton.mp h
          exact ⟨rfl, c, fun _ => c2⟩
        · cases h
    · cases h
  · rintro ⟨rfl, h2, h3⟩
    dsimp only at h2 h3 ⊢
    rw [if_pos h2]
    cases b with
    | false => exact List.mem_cons_self ..
    | true => rw [if_pos (h3 rfl)]; exact List.mem_cons_of_mem _ (List.mem_cons_self ..)
theorem mem_moves {g : GP} {s : GS} {m : Mv} : m ∈ gMoves g s ↔ (m.1 = 0 ∨ m.1 = -1 ∨ m.1 = 1) ∧ (m.1 = 0 ∨ g.gap ≤ s.since) ∧ (m.2 = true → s.phase = 0 ∧ gAge s m.1 < g.bounce ∧ (m.1 ≠ 0 ∨ s.last ≠ 0)) := by
  unfold gMoves
  rw [List.mem_append, List.mem_append, mem_move, mem_move, mem_move]
  constructor
  · rintro ((⟨e, h⟩ | ⟨e, h⟩) | ⟨e, h⟩)
    · exact ⟨.inl e, by rw [e]; exact h⟩
    · exact ⟨.inr (.inl e), by rw [e]; exact h⟩
    · exact ⟨.inr (.inr e), by rw [e]; exact h⟩
  · rintro ⟨e | e | e, h⟩
    · exact .inl (.inl ⟨e, by rw [e] at h; exact h⟩)
    · exact .inl (.inr ⟨e, by rw [e] at h; exact h⟩)
    · exact .inr ⟨e, by rw [e] at h; exact h⟩
theorem vs_clean {g : GP} (o : g.Ok) {least : Int} {noises : Bool} {row : List Mv} {s : GS} (h : gClean g least noises (gFirst g) row s) : VS g s := by
  induction h with
  | nil => exact vs_first o
  | snoc _ hm _ hf ih => exact vs_next o ih hm hf
/-! ### judged -/
def spJudged (K : PySem.W.Frag) : Sp := fun vs H Q _ => ∃ (v u : V) (g : GP), vs = [v, u] ∧ Dp K H v (knD g.gap g.bounce) ∧ Dp K H u (knD g.apart g.same) ∧ g.Ok ∧ ∀ r3 r2, gRes g 3 false r3 → gRes g 2 false r2 →
  ∀ (p : Addr) (H' : Hp), H p = none → Same H H' → (∀ row, r3 = some row → WordRow H H' p "wrong" row) → (r3 = none → ∀ row, r2 = some row → WordRow H H' p "missed" row) → (r3 = none → r2 = none → H' p = some (.tup [.str "right"])) → Q (.ref p) H'
section
variable {P : Program} {w : World} {K : PySem.W.Frag} {mg : Str → Option Value} {base : Heap}
theorem sc_judged : FnScope ["knob", "reader", "game", "row"] ["knob", "reader"] (defScope (top 23)) := ⟨rfl, rfl, rfl, by decide +kernel, rfl, by decide +kernel, by decide +kernel⟩
set_option maxHeartbeats 1000000 in
theorem ok_judged {f C : Addr} {fd : FuncData} {t1 : Tok} (F : Fun K "judged" "judged" (top 23) f fd) (gk : GameK K C) (g_MISSED : mg "MISSED" = some (.int 2 t1)) (c_need_knob : Cal P w K mg base 1 "need_knob" ["knob"] (spNeedKnob K)) (c_need_reader : Cal P w K mg base 1 "need_reader" ["reader"] (spNeedReader K))
    (m_Game : Mkr P w K mg base 1 C "Game" ["self", "knob", "reader"] (spGInit K C)) (m_first_row : Mtd P w K mg base 2 C "first_row" ["self", "least", "noises"] (spFirst K C)) : FnOk P w K mg base CX0 3 f fd ["knob", "reader"] (spJudged K) := by
  have sc := sc_judged
  have cl := gk.cl
  refine F.ok sc (fun vs H Q E h => ?_) (fun cdv A outer s H vs Q E hr h => ?_)
  · obtain ⟨v, u, g, rfl, _⟩ := h
    rfl
  · obtain ⟨v, u, g, rfl, hv, hu, gok, k⟩ := h
    obtain ⟨r3, h3⟩ := game_ends gok 3 false
    obtain ⟨r2, h2⟩ := game_ends gok 2 false
    have k := k r3 r2 h3 h2
    refine ⟨_, (pss_cons (ps_expr (pe_cal c_need_knob (hr.mono (by first | decide | omega)) (pa_cons (pv 0) pa_nil)))
(pss_cons (ps_expr (pe_cal c_need_reader (hr.mono (by first | decide | omega)) (pa_cons (pv 1) pa_nil)))
(pss_cons (ps_set (i := 2) sc.nd rfl (Or.inl rfl) (pe_mkr m_Game (hr.mono (by first | decide | omega)) (pa_cons (pv 0) (pa_cons (pv 1) pa_nil))))
(pss_cons (ps_set (i := 3) sc.nd rfl (Or.inl rfl) (pe_mtd m_first_row cl (hr.mono (by first | decide | omega)) (pv 2) (pa_cons (pe_op op_add (pe_glob (v := .int 2) rfl g_MISSED ⟨_, rfl⟩) pe_int) (pa_cons pe_bl pa_nil))))
(pss_cons (ps_if (pt_cmpR op_notN (pv 3) pe_non (nomark _))
(pss_one (ps_ret (pe_tup (pa_cons pe_str (pa_cons (pv 3) pa_nil)))))
pss_nil)
(pss_cons (ps_set (i := 3) sc.nd rfl (Or.inl rfl) (pe_mtd m_first_row cl (hr.mono (by first | decide | omega)) (pv 2) (pa_cons (pe_glob (v := .int 2) rfl g_MISSED ⟨_, rfl⟩) (pa_cons pe_bl pa_nil))))
(pss_one (ps_ret (pe_ifExp (pt_cmpR op_isN (pv 3) pe_non (nomark _)) (pe_tup (pa_cons pe_str pa_nil)) (pe_tup (pa_cons pe_str (pa_cons (pv 3) pa_nil)))))))))))), ?_⟩
    refine ⟨_, rfl, v, g.gap, g.bounce, rfl, hv, gok.g1, gok.g6, gok.b0, gok.b1, ?_⟩
    refine ⟨_, rfl, u, g.apart, g.same, rfl, hu, gok.a1, gok.a6, gok.s1, gok.s3, ?_⟩
    refine ⟨_, rfl, _, rfl, fun x dx hx hdx ne => ?_⟩
    have sA : Same H (upd (upd H dx (.own x)) x (.ins C dx [])) := (same_new hdx).trans (same_new (by rw [upd_ne ne.symm]; exact hx))
    have sF : Same H (Fz [x] (upd (upd H dx (.own x)) x (.ins C dx []))) := same_fz (by simpa using hx) sA
    refine ⟨x, dx, v, u, g, rfl, upd_same, dp_same sF hv, dp_same sF hu, fun H1 fr1 hg1 => ⟨rfl, ?_⟩⟩
    have s1 : Same H H1 := fun b o e => fr1 b o (by simpa using ne_of_none e hx) (sA b o e)
    obtain ⟨dx1, fa1, hp1, _⟩ := id hg1
    refine ⟨_, rfl, x, dx1, _, rfl, hp1, rfl, _, _, rfl, rfl, x, 3, false, g, rfl, hg1, gok, fun r hr3 => ?_⟩
    have er : r = r3 := Option.some.inj (hr3.symm.trans h3)
    subst er
    refine ⟨fun er H2 s2 => ?_, fun row er l xs H2 hl s2 hl2 hX hlen => ?_⟩
    · refine ⟨_, rfl, rfl, _, rfl, iteF ?_⟩
      have hg2 := hg1.same s2
      obtain ⟨dx2, fa2, hp2, _⟩ := id hg2
      refine ⟨_, rfl, x, dx2, _, rfl, hp2, rfl, x, 2, false, g, rfl, hg2, gok, fun r' hr2 => ?_⟩
      have er2 : r' = r2 := Option.some.inj (hr2.symm.trans h2)
      subst er2
      refine ⟨fun er' H3 s3 => ?_, fun row er' l xs H3 hl s3 hl3 hX hlen => ?_⟩
      · refine ⟨_, rfl, rfl, _, rfl, iteT ⟨(by show 1 ≤ sizeLine; decide), fun p hp => ?_⟩⟩
        have sZ := s1.trans (s2.trans s3)
        exact k p _ (sZ.free hp) (sZ.trans (same_new hp)) (fun row e => by rw [er] at e; cases e) (fun _ row e => by rw [er'] at e; cases e) (fun _ _ => upd_same)
      · refine ⟨_, rfl, rfl, _, rfl, iteF ⟨_, rfl, (by show 2 ≤ sizeLine; decide), fun p hp => ?_⟩⟩
        have sZ := s1.trans (s2.trans s3)
        have sp := same_new hp (o := .tup [.str "missed", .ref l])
        refine k p _ (sZ.free hp) (sZ.trans sp) (fun row e => by rw [er] at e; cases e) (fun _ row' e => ?_) (fun _ e => by rw [er'] at e; cases e)
        rw [er'] at e
        cases e
        exact ⟨l, xs, (s1.trans s2).free hl, upd_same, sp _ _ hl3, (hX.mono sp).up (s1.trans s2), hlen⟩
    · refine ⟨_, rfl, rfl, _, rfl, iteT ⟨_, rfl, (by show 2 ≤ sizeLine; decide), fun p hp => ?_⟩⟩
      have sZ := s1.trans s2
      have sp := same_new hp (o := .tup [.str "wrong", .ref l])
      refine k p _ (sZ.free hp) (sZ.trans sp) (fun row' e => ?_) (fun e => by rw [er] at e; cases e) (fun e => by rw [er] at e; cases e)
      rw [er] at e
      cases e
      exact ⟨l, xs, s1.free hl, upd_same, sp _ _ hl2, (hX.mono sp).up s1, hlen⟩
end
/-! ### errors of the program: made, raised, by what they say -/
section
open PySem PySem.Spec PyProof.Rows L2
/-- what the written part says of the class that the others rest on -/
structure BaseC (K : PySem.W.Frag) (B : Addr) : Prop where
  ga : PySem.W.specialIn K (.ref B) "__getattribute__" = some (some (.builtin "type.__getattribute__"))
  rd : PySem.W.readsIn K B (.type "type") = true
  ini : PySem.W.findCls K (.ref B) (.type "type") "__init__" = some (.val (.builtin "ValueError.__init__"))
/-- Base.__init__(self, ..) -/
theorem pe_binit {X : Cx} {x : Str} {B : Addr} {e : Expr} {es : List Expr} {ta : TA} {p1 p2 pos : Pos} {pl : Sem Bool} (hg : Gl X x) (hm : X.mg x = some (.ref B)) (T : BaseC X.K B) (ha : PA X (e :: es) ta)
    (hdb : (x == ("__debug__" : Str)) = false := by decide)
    (hc : eval (.Call (.Attribute (.Name x p1) "__init__" p2) (e :: es) [] pos) X.env = (eval (.Name x p1) X.env >>= fun ov => standAt p2.atName >>= fun _ => holding [ov] (getMethod ov "__init__" pl) >>= fun q => callWith pos q.1 q.2 (backTo pos (starEach (e :: es) X.env)) (backToKw pos (keywordEach [] X.env))) := by rfl)
    (he : starEach (e :: es) X.env = (false, eval e X.env) :: starEach es X.env := by rfl) (hpl : (backTo pos (starEach es X.env)).any (·.1) = false := by rfl) :
    PE X (.Call (.Attribute (.Name x p1) "__init__" p2) (e :: es) [] pos) (tVeI X.K ta) := by
  refine ⟨fun pins s σ H Q I h => PySem.W.methodCall_KW (pl := pl) (ld_glob I hg hm ?_ hdb) hc⟩
  refine PySem.W.method_cls I.kIn T.ga (PySem.W.cls_value I.kIn T.rd T.ini (by decide +kernel) ?_)
  refine PyProof.Rows.callWith_method1 (thn (ha.run pos pins _ σ H _ (I.tok _) h) fun us s1 z => ?_) he hpl
  obtain ⟨vs, H1, J, rv, a, C, ws, rfl, hl, TC, ea, q⟩ := z
  cases rv with
  | cons ra rt =>
    cases ra
    exact oinit_ok TC J ea (by rw [← Paired.length rt, sizeLine_eq]; omega) fun s2 J2 => ⟨.non, H1, J2, rfl, q⟩
end
def spBadI (C : Addr) (fl : Str) : Sp := fun vs H Q _ => ∃ (a : Addr) (y : V), vs = [.ref a, y] ∧ H a = some (exo a C none) ∧ ∀ dx, H dx = none → dx ≠ a → Q .non (upd (upd H dx (exd dx [(fl, y)])) a (exo a C (some dx)))
section
variable {P : Program} {w : World} {K : PySem.W.Frag} {mg : Str → Option Value} {base : Heap}
theorem sc_bki : FnScope ["self", "why"] ["self", "why"] (defScope (inClass (top 2) 0)) := ⟨rfl, rfl, rfl, by decide +kernel, rfl, by decide +kernel, by decide +kernel⟩
theorem sc_bri : FnScope ["self", "why"] ["self", "why"] (defScope (inClass (top 3) 0)) := ⟨rfl, rfl, rfl, by decide +kernel, rfl, by decide +kernel, by decide +kernel⟩
theorem sc_bwi : FnScope ["self", "at"] ["self", "at"] (defScope (inClass (top 4) 0)) := ⟨rfl, rfl, rfl, by decide +kernel, rfl, by decide +kernel, by decide +kernel⟩
theorem sc_bti : FnScope ["self", "at"] ["self", "at"] (defScope (inClass (top 5) 0)) := ⟨rfl, rfl, rfl, by decide +kernel, rfl, by decide +kernel, by decide +kernel⟩
theorem ok_bki {f B C : Addr} {fd : FuncData} (F : Fun K "__init__" "BadKnob.__init__" (inClass (top 2) 0) f fd) (g_KnobError : mg "KnobError" = some (.ref B)) (tb : BaseC K B) (tc : OexC K C) (hno : PySem.W.findIn K (.ref C) "why" = some none) : FnOk P w K mg base CX0 1 f fd ["self", "why"] (spBadI C "why") := by
  refine F.ok sc_bki (fun vs H Q E h => ?_) (fun cdv A outer s H vs Q E hr h => ?_)
  · obtain ⟨a, y, rfl, _⟩ := h
    rfl
  · obtain ⟨a, y, rfl, ha, k⟩ := h
    refine ⟨_, pss_cons (ps_expr (pe_binit rfl g_KnobError tb (pa_cons (pv 0) (pa_cons (pv 1) pa_nil)))) (pss_one (ps_ost (pv 0) (pv 1))), ?_⟩
    exact ⟨_, rfl, _, rfl, a, C, [y], rfl, (by show 1 ≤ 1000; decide), tc, ha, _, rfl, _, rfl, a, C, rfl, tc, hno, .inl ⟨ha, k⟩⟩
theorem ok_bri {f B C : Addr} {fd : FuncData} (F : Fun K "__init__" "BadReader.__init__" (inClass (top 3) 0) f fd) (g_KnobError : mg "KnobError" = some (.ref B)) (tb : BaseC K B) (tc : OexC K C) (hno : PySem.W.findIn K (.ref C) "why" = some none) : FnOk P w K mg base CX0 1 f fd ["self", "why"] (spBadI C "why") := by
  refine F.ok sc_bri (fun vs H Q E h => ?_) (fun cdv A outer s H vs Q E hr h => ?_)
  · obtain ⟨a, y, rfl, _⟩ := h
    rfl
  · obtain ⟨a, y, rfl, ha, k⟩ := h
    refine ⟨_, pss_cons (ps_expr (pe_binit rfl g_KnobError tb (pa_cons (pv 0) (pa_cons (pv 1) pa_nil)))) (pss_one (ps_ost (pv 0) (pv 1))), ?_⟩
    exact ⟨_, rfl, _, rfl, a, C, [y], rfl, (by show 1 ≤ 1000; decide), tc, ha, _, rfl, _, rfl, a, C, rfl, tc, hno, .inl ⟨ha, k⟩⟩
theorem ok_bwi {f B C : Addr} {fd : FuncData} (F : Fun K "__init__" "BadRow.__init__" (inClass (top 4) 0) f fd) (g_KnobError : mg "KnobError" = some (.ref B)) (tb : BaseC K B) (tc : OexC K C) (hno : PySem.W.findIn K (.ref C) "at" = some none) : FnOk P w K mg base CX0 1 f fd ["self", "at"] (spBadI C "at") := by
  refine F.ok sc_bwi (fun vs H Q E h => ?_) (fun cdv A outer s H vs Q E hr h => ?_)
  · obtain ⟨a, y, rfl, _⟩ := h
    rfl
  · obtain ⟨a, y, rfl, ha, k⟩ := h
    refine ⟨_, pss_cons (ps_expr (pe_binit rfl g_KnobError tb (pa_cons (pv 0) (pa_cons (pv 1) pa_nil)))) (pss_one (ps_ost (pv 0) (pv 1))), ?_⟩
    exact ⟨_, rfl, _, rfl, a, C, [y], rfl, (by show 1 ≤ 1000; decide), tc, ha, _, rfl, _, rfl, a, C, rfl, tc, hno, .inl ⟨ha, k⟩⟩
theorem ok_bti {f B C : Addr} {fd : FuncData} (F : Fun K "__init__" "BadText.__init__" (inClass (top 5) 0) f fd) (g_KnobError : mg "KnobError" = some (.ref B)) (tb : BaseC K B) (tc : OexC K C) (hno : PySem.W.findIn K (.ref C) "at" = some none) : FnOk P w K mg base CX0 1 f fd ["self", "at"] (spBadI C "at") := by
  refine F.ok sc_bti (fun vs H Q E h => ?_) (fun cdv A outer s H vs Q E hr h => ?_)
  · obtain ⟨a, y, rfl, _⟩ := h
    rfl
  · obtain ⟨a, y, rfl, ha, k⟩ := h
    refine ⟨_, pss_cons (ps_expr (pe_binit rfl g_KnobError tb (pa_cons (pv 0) (pa_cons (pv 1) pa_nil)))) (pss_one (ps_ost (pv 0) (pv 1))), ?_⟩
    exact ⟨_, rfl, _, rfl, a, C, [y], rfl, (by show 1 ≤ 1000; decide), tc, ha, _, rfl, _, rfl, a, C, rfl, tc, hno, .inl ⟨ha, k⟩⟩
end
/-! raise C(e), the error's context told to be None -/
section
open PySem PySem.Spec PyProof.Rows L2
theorem pmkN {X : Cx} {x : Str} {C fI : Addr} {k : Nat} {fd : FuncData} {ps : List Str} {sp : Sp} {e : Expr} {es : List Expr} {ta : TA} {p pos : Pos} (T : OexC X.K C) (iC : PySem.W.findIn X.K (.ref C) "__init__" = some (some (.ref fI))) (tI : PySem.W.typeIn X.K (.ref fI) = some (.type "function"))
    (F1 : FnOk X.prog X.w X.K X.mg X.base CX0 k fI fd ps sp) (hr : Room (k + 1) X.A) (hb : Binds X.K fd ps []) (hg : Gl X x) (hm : X.mg x = some (.ref C)) (ha : PA X (e :: es) ta)
    (hdb : (x == ("__debug__" : Str)) = false := by decide) (he : starEach (e :: es) X.env = (false, eval e X.env) :: starEach es X.env := by rfl) (hpl : (backTo pos (starEach es X.env)).any (·.1) = false := by rfl) :
    L2N.PMk X (.Call (.Name x p) (e :: es) [] pos) (tMkO C sp [] ta) := by
  intro pins s σ H Q I h
  obtain ⟨nm, qn, N, bs, bm, sn, sub, ab, col, dd, k0, k1, k2, k3, k5, hC, hbm⟩ := T.cls
  refine wpAny_Call_Name_kw (ld_glob I hg hm (PySem.W.callWith_K (h₀ := X.base) I.ok.mod.kin T.kC (thn (ha.run pos pins s σ H _ I h) fun us s1 z => ?_) he hpl) hdb)
  obtain ⟨vs, H1, J, rv, hz, q⟩ := z
  refine ⟨J.kIn, ?_⟩
  obtain ⟨hp, g, dr, tk, os⟩ := s1
  generalize hA : hp.objs.size + 1 = a
  have hle : hp.objs.size ≤ a := by omega
  have hn : H1 a = none := J.hok.fresh hle
  have hq := q a hn
  rw [List.append_nil] at hq
  have up2 : ∀ b o, hp.get? b = some o → ((hp.push (PySem.W.kdv_tup us)).push (PySem.HandSPX.excO C hp.objs.size)).get? b = some o := fun b o z => Heap.get?_push_of_some _ (Heap.get?_push_of_some _ z)
  have hget : ((hp.push (PySem.W.kdv_tup us)).push (PySem.HandSPX.excO C hp.objs.size)).get? a = some (PySem.HandSPX.excO C hp.objs.size) := by rw [← hA]; heap_get
  have J2 : Inv X pins σ (upd H1 a (exo a C none)) ⟨(hp.push (PySem.W.kdv_tup us)).push (PySem.HandSPX.excO C hp.objs.size), g, dr, tk, os⟩ := J.laid (t' := tk) (o := exo a C none) up2 hle (exo_ok hget)
  have r2 : Vals (V.ref a :: vs) (Value.ref a :: us) := .cons rfl rv
  have hlen : (Value.ref a :: us ++ []).length = ps.length := by rw [List.append_nil, ← r2.length]; exact F1.len _ _ _ _ hq
  have b2 := hb _ (Value.ref a :: us) J2.kIn hlen
  rw [List.append_nil] at b2
  have hsz : us.length ≤ sizeLine := by rw [← Paired.length rv, sizeLine_eq]; omega
  have run := F1.run _ X.stack _ _ ⟨Value.ref a :: us, []⟩ (Value.ref a :: us) _ _ (fun _ _ _ => False) (hr.make C us []) (J2.env0.make C us []) b2 r2 hq
  have at_ : PySem.HandSPX.excO C hp.objs.size = PySem.HandSPX.excO C hp.objs.size := rfl
  show wpAny _ _ (call (.ref C) us) _ _ _
  refine wpAny_call (PySem.HandSPX.call_own F.excBase_ValueError (fun Y => PySem.HandSPX.refsVE_contains Y bm hbm) (J.kIn _ _ hC) (PySem.W.looks_findIn J.kIn iC) (fun self => PySem.W.bind_fn J.kIn self tI) hsz (codeAny_mono (by subst hA; exact run) fun r s' hr' => ?_))
  subst hA
  match r, hr' with
  | .error er, hr' => exact (show False from hr').elim
  | .ok .next, hr' => exact False.elim hr'
  | .ok .brk, hr' => exact False.elim hr'
  | .ok .cont, hr' => exact False.elim hr'
  | .ok (.ret u), hr' =>
    obtain ⟨v, H2, os2, bare2, un2, hok2, rvv, rfl, d, fs, ea, ed, hd1, q2⟩ := hr'
    obtain ⟨h2, g2, d2, t2, os'⟩ := s'
    obtain ⟨t0, Gh, J3, kG, ge, hoe, na⟩ := mk_end0 (d2 := d2) (t2 := t2) J hle up2 un2 hok2 os2 bare2 ea ed hd1
    exact ⟨rvv, _, _, _, ⟨Gh, g2, d2, t2, os'⟩, _, .ref C, some d, rfl, J3, kG, ge, hoe, ⟨rfl, rfl, fun vs hv => by cases hv; rfl⟩, rfl, rfl, na, rfl, bare2, raises_own T.exC T.tyC, q2⟩
end
/-! ### defs that may raise -/
section
open PySem PySem.Spec PyProof.Rows L2
variable {P : Program} {w : World} {K : PySem.W.Frag} {mg : Str → Option Value} {base : Heap}
theorem okN {x qual : Str} {st : Stmt} {f : Addr} {fd : FuncData} {N ps : List Str} {k : Nat} {sp : Sp} (F : Fun K x qual st f fd) (S : FnScope N ps (defScope st)) (len : ∀ vs H Q E, sp vs H Q E → vs.length = ps.length)
    (hb : ∀ (cdv : Value) (A : Around) (outer : List Env) (s : Shared) (H : Hp) (vs : List V) (Q : VK) (E : XK), Room k (A.deeper (envOfC qual (defScope st) s.heap.objs.size f cdv)) → sp vs H Q E →
      ∃ t, PSs (cxOf (L2N.CX P w) P w K mg base N qual (defScope st) f cdv A outer s H E) (defBody st) t ∧ t { nx := fun _ H' => Q .non H', rt := Q } (L2.start N vs) H) : FnOk P w K mg base (L2N.CX P w) (k + 1) f fd ps sp := by
  obtain ⟨oc, od, kV, doc, pm, an, cdv, ct, osl, rfl, lk, hcd⟩ := F.ex
  exact fn_of lk hcd S len fun A outer s H vs Q E hr hsp => hb cdv A outer s H vs Q E hr hsp
end
/-- a def that may raise, called -/
def CalN (P : Program) (w : World) (K : PySem.W.Frag) (mg : Str → Option Value) (base : Heap) (k : Nat) (x : Str) (ps : List Str) (sp : Sp) : Prop :=
  ∃ f fd, FnOk P w K mg base (L2N.CX P w) k f fd ps sp ∧ mg x = some (.ref f) ∧ PySem.W.keepIn K (.ref f) = true ∧ Binds K fd ps []
section
open PySem PySem.Spec PyProof.Rows L2
variable {X : Cx} {k : Nat} {x : Str} {qs : List Str} {sp : Sp} {p pos : Pos} {e : Expr} {es : List Expr} {t : TA} {W : WX}
theorem pe_calN (c : CalN X.prog X.w X.K X.mg X.base k x qs sp) (hr : Room k X.A) (tk : L2N.Takes X W) (ha : PA X (e :: es) t) (hg : Gl X x := by rfl) (hdb : (x == ("__debug__" : Str)) = false := by decide)
    (he : starEach (e :: es) X.env = (false, eval e X.env) :: starEach es X.env := by rfl) (hpl : (backTo pos (starEach es X.env)).any (·.1) = false := by rfl) : PE X (.Call (.Name x p) (e :: es) [] pos) (tCallS sp (fun σ => WE W σ) t) := by
  obtain ⟨f, fd, F, hm, hk, hb⟩ := c
  exact pe_callS F hr hg hm hk hb (fun σ => L2N.passAt tk σ) ha hdb he hpl
end
/-- a class of the program's errors, its field -/
structure ErrK (K : PySem.W.Frag) (mg : Str → Option Value) (C : Addr) (x fl : Str) : Prop where
  g : mg x = some (.ref C)
  T : OexC K C
  no : PySem.W.findIn K (.ref C) fl = some none
/-- .. and its __init__ -/
def ErrI (P : Program) (w : World) (K : PySem.W.Frag) (mg : Str → Option Value) (base : Heap) (C : Addr) (fl : Str) (ps : List Str) : Prop :=
  ∃ fI fd, PySem.W.findIn K (.ref C) "__init__" = some (some (.ref fI)) ∧ PySem.W.typeIn K (.ref fI) = some (.type "function") ∧ FnOk P w K mg base CX0 1 fI fd ps (spBadI C fl) ∧ Binds K fd ps []
section
open PySem PySem.Spec PyProof.Rows L2
theorem del_back {H : Hp} {a dx : Addr} {x y z u : HO} (ha : H a = none) (hd : dx ≠ a) : upd (del (upd (upd (upd H a x) dx y) a z) a) dx u = upd H dx u := by
  funext b
  by_cases h1 : b = dx
  · rw [h1, upd_same, upd_same]
  · rw [upd_ne h1, upd_ne h1]
    by_cases h2 : b = a
    · rw [h2, del_same, ha]
    · rw [del_ne h2, upd_ne h2, upd_ne h1, upd_ne h2]
/-- raise C(e) -/
abbrev tRaise (C : Addr) (fl : Str) (W : WX) (te : TE) : TS := fun _ σ H => tMkO C (spBadI C fl) [] (tCons te tNil) σ H fun cls d H' => W cls d σ H'
theorem ps_raiseN {X : Cx} {W : WX} {C : Addr} {x fl : Str} {ps : List Str} {e : Expr} {te : TE} {p q pos : Pos} (hc : X.calm = true) (tk : L2N.Takes X W) (ek : ErrK X.K X.mg C x fl) (ei : ErrI X.prog X.w X.K X.mg X.base C fl ps) (hr : Room 2 X.A) (he : PA X [e] (tCons te tNil)) (hg : Gl X x := by rfl)
    (hdb : (x == ("__debug__" : Str)) = false := by decide) (hst : starEach [e] X.env = (false, eval e X.env) :: starEach [] X.env := by rfl) (hpl : (backTo q (starEach [] X.env)).any (·.1) = false := by rfl) : PS X (.Raise (some (.Call (.Name x p) [e] [] q)) none pos) (tRaise C fl W te) := by
  obtain ⟨fI, fd, i1, i2, F1, hb⟩ := ei
  exact L2N.ps_raise (pos := pos) hc tk (pmkN (p := p) (pos := q) ek.T i1 i2 F1 hr hb hg ek.g he hdb hst hpl)
/-- what it comes to -/
theorem raise_ok {C : Addr} {fl : Str} {y : V} {H : Hp} {Q : XK} (h : ∀ d, H d = none → Q (.ref C) (some d) (upd H d (.xd [(fl, y)]))) : [y].length ≤ 1000 ∧ ∀ a, H a = none → spBadI C fl (.ref a :: ([y] ++ [])) (upd H a (exo a C none))
    (fun v H2 => v = .non ∧ ∃ (d : Addr) (fs : List (Str × V)), H2 a = some (exo a C (some d)) ∧ H2 d = some (exd d fs) ∧ H d = none ∧ Q (.ref C) (some d) (upd (del H2 a) d (.xd fs))) (fun _ _ _ => False) := by
  refine ⟨by show 1 ≤ 1000; decide, fun a ha => ⟨a, y, rfl, upd_same, fun dx hd ne => ⟨rfl, dx, [(fl, y)], upd_same, ?_, ?_, ?_⟩⟩⟩
  · rw [upd_ne ne, upd_same]
  · rw [upd_ne ne] at hd; exact hd
  · rw [upd_ne ne] at hd
    rw [del_back ha ne]
    exact h dx hd
end
/-! ### the first moment at which a knob can't go so -/
/-- the moments of turns ahead of moment i -/
def tns (row : List Mv) (i : Nat) : List Nat := (List.range i).filter fun k => decide ((row[k]?.getD (0, false)).1 ≠ 0)
def okM (g b : Int) (s : Int × Bool) (m : Mv) : Bool := decide (m.1 = -1 ∨ m.1 = 0 ∨ m.1 = 1) && ((decide (m.1 = 0) || decide (g ≤ s.1)) && (!m.2 || ((s.2 || decide (m.1 ≠ 0)) && decide ((if m.1 = 0 then s.1 else 0) < b))))
theorem okM_iff {g b : Int} {s : Int × Bool} {m : Mv} : okM g b s m = true ↔ OkM g b s m := by
  unfold okM
  simp only [Bool.and_eq_true, Bool.or_eq_true, decide_eq_true_eq, Bool.not_eq_true']
  constructor
  · rintro ⟨h1, h2, h3⟩
    refine ⟨h1, fun c => h2.resolve_left c, fun c => ?_⟩
    rcases h3 with h3 | h3
    · rw [c] at h3; cases h3
    · exact h3
  · rintro ⟨h1, h2, h3⟩
    refine ⟨h1, ?_, ?_⟩
    · by_cases c : m.1 = 0
      · exact .inl c
      · exact .inr (h2 c)
    · cases c : m.2 with
      | false => exact .inl rfl
      | true => exact .inr (h3 c)
def isBad (g b : Int) (row : List Mv) (i : Nat) : Bool := decide (200 ≤ i) || !okM g b (rst g (row.take i)) (row[i]?.getD (0, false))
def badAt (g b : Int) (row : List Mv) : Option Nat := (List.range row.length).find? (isBad g b row)
theorem find_first {p : Nat → Bool} {n i : Nat} (hi : i < n) (h : p i = true) (hl : ∀ j, j < i → p j = false) : (List.range n).find? p = some i := by
  obtain ⟨d, rfl⟩ : ∃ d, n = i + (d + 1) := ⟨n - i - 1, by omega⟩
  rw [List.range_add, List.find?_append]
  have : (List.range i).find? p = none := by
    rw [List.find?_eq_none]
    intro x hx
    rw [hl x (List.mem_range.mp hx)]
    decide
  rw [this, List.range_succ_eq_map, List.map_cons, List.find?_cons]
  show (match p (i + 0) with | true => some (i + 0) | false => _) = _
  rw [Nat.add_zero, h]
theorem bad_some {g b : Int} {row : List Mv} {i : Nat} (hi : i < row.length) (h : isBad g b row i = true) (hl : ∀ j, j < i → isBad g b row j = false) : badAt g b row = some i := find_first hi h hl
theorem bad_none {g b : Int} {row : List Mv} (hl : ∀ j, j < row.length → isBad g b row j = false) : badAt g b row = none := by
  unfold badAt
  rw [List.find?_eq_none]
  intro x hx
  rw [hl x (List.mem_range.mp hx)]
  decide
theorem good_iff {g b : Int} {row : List Mv} : Good g b row ↔ ∀ j, j < row.length → isBad g b row j = false := by
  constructor
  · rintro ⟨h1, h2⟩ j hj
    unfold isBad
    have hm : row[j]? = some row[j] := List.getElem?_eq_getElem hj
    rw [hm, Option.getD_some, decide_eq_false (by omega), okM_iff.mpr (h2 j _ hm)]
    rfl
  · intro h
    refine ⟨?_, fun i m hm => ?_⟩
    · refine Nat.le_of_not_lt fun z => ?_
      have := h 200 z
      unfold isBad at this
      rw [decide_eq_true (Nat.le_refl 200), Bool.true_or] at this
      cases this
    · have hi := (List.getElem?_eq_some_iff.mp hm).1
      have := h i hi
      unfold isBad at this
      rw [Bool.or_eq_false_iff, hm, Option.getD_some] at this
      exact okM_iff.mp (by simpa using this.2)
theorem bad_good {g b : Int} {row : List Mv} (h : Good g b row) : badAt g b row = none := bad_none (good_iff.mp h)
theorem tns_succ {row : List Mv} {i : Nat} {m : Mv} (h : row[i]? = some m) : tns row (i + 1) = tns row i ++ (if m.1 = 0 then [] else [i]) := by
  unfold tns
  rw [List.range_succ, List.filter_append]
  congr 1
  by_cases c : m.1 = 0
  · rw [if_pos c, List.filter_cons_of_neg (by simp [h, c])]; rfl
  · rw [if_neg c, List.filter_cons_of_pos (by simp [h, c])]; rfl
theorem tns_lt {row : List Mv} {i k : Nat} (h : k ∈ tns row i) : k < i := List.mem_range.mp (List.mem_filter.mp h).1
theorem tns_len (row : List Mv) (i : Nat) : (tns row i).length ≤ i := by
  unfold tns
  have := List.length_filter_le (fun k => decide ((row[k]?.getD (0, false)).1 ≠ 0)) (List.range i)
  rw [List.length_range] at this
  exact this
/-- the state of a row by its turns -/
theorem rst_tns {g : Int} (hg : 1 ≤ g) {row : List Mv} : ∀ {i : Nat}, i ≤ row.length → (rst g (row.take i)).2 = !(tns row i).isEmpty ∧ (rst g (row.take i)).1 = match (tns row i).getLast? with
    | none => g
    | some k => min g ((i : Int) - k)
  | 0, _ => by
    rw [List.take_zero]
    exact ⟨rfl, rfl⟩
  | i + 1, h => by
    have hm : row[i]? = some row[i] := List.getElem?_eq_getElem (by omega)
    obtain ⟨h1, h2⟩ := rst_tns hg (row := row) (i := i) (by omega)
    rw [rst_snoc hm, tns_succ hm]
    unfold stp
    by_cases c : row[i].1 = 0
    · rw [show (if row[i].1 = 0 then ([] : List Nat) else [i]) = [] from if_pos c, List.append_nil]
      dsimp only
      rw [if_pos c, h1, h2]
      refine ⟨by simp [c], ?_⟩
      cases e : (tns row i).getLast? with
      | none => dsimp only; omega
      | some k =>
        dsimp only
        have : k < i := tns_lt (List.mem_of_getLast? e)
        have : ((i + 1 : Nat) : Int) = (i : Int) + 1 := by omega
        rw [this, min2, min2, min2]
        (repeat' split) <;> omega
    · rw [show (if row[i].1 = 0 then ([] : List Nat) else [i]) = [i] from if_neg c]
      dsimp only
      rw [if_neg c]
      refine ⟨by simp [c], ?_⟩
      rw [List.getLast?_append, List.getLast?_singleton]
      show min g (0 + 1) = min g (((i + 1 : Nat) : Int) - (i : Nat))
      congr 1
      omega
def optV : Option Nat → V
  | none => .non
  | some i => .int i
/-! ### need_knob, need_row, as they refuse -/
theorem inV_intsX (z : Int) (ns : List Int) : inV (V.int z) (ns.map V.int) = decide (z ∈ ns) := by
  unfold inV
  induction ns with
  | nil => rfl
  | cons y r ih =>
    rw [List.map_cons, List.any_cons, ih]
    show ((y == z) || decide (z ∈ r)) = decide (z ∈ y :: r)
    by_cases h : y = z
    · subst h; simp
    · rw [beq_eq_false_iff_ne.mpr h, Bool.false_or]
      simp only [List.mem_cons, show ¬ z = y from fun e => h e.symm, false_or]
def xd1 (fl : Str) (y : V) : HO := .xd [(fl, y)]
/-- the first thing that no knob has -/
def knobBad (g b : Int) : Option Str := if ¬ (1 ≤ g ∧ g ≤ 6) then some "gap" else if ¬ (0 ≤ b ∧ b ≤ g) then some "bounce" else none
def spNeedKnobX (K : PySem.W.Frag) (Ck : Addr) : Sp := fun vs H Q E => ∃ (v : V) (g b : Int), vs = [v] ∧ Dp K H v (knD g b) ∧ (∀ x, knobBad g b = some x → ∀ d, H d = none → E (.ref Ck) (some d) (upd H d (xd1 "why" (.str x)))) ∧ (knobBad g b = none → Q .non H)
def spNeedRowX (K : PySem.W.Frag) (Cw : Addr) : Sp := fun vs H Q E => ∃ (v u : V) (g b : Int) (row : List Mv), vs = [v, u] ∧ Dp K H v (knD g b) ∧ Dp K H u (rowD row) ∧ row.length ≤ 900 ∧ (∀ i, badAt g b row = some i → ∀ d H', Same H H' → H' d = none → E (.ref Cw) (some d) (upd H' d (xd1 "at" (.int (i : Nat))))) ∧ (badAt g b row = none → ∀ H', Same H H' → Q .non H')
section
variable {P : Program} {w : World} {K : PySem.W.Frag} {mg : Str → Option Value} {base : Heap}
theorem sc_needkx : FnScope ["knob", "gap", "bounce"] ["knob"] (defScope (top 12)) := ⟨rfl, rfl, rfl, by decide +kernel, rfl, by decide +kernel, by decide +kernel⟩
theorem ok_needkx {f Ck : Addr} {fd : FuncData} {t1 : Tok} {ps : List Str} (F : Fun K "need_knob" "need_knob" (top 12) f fd) (g_MOST_GAP : mg "MOST_GAP" = some (.int 6 t1)) (ek_BadKnob : ErrK K mg Ck "BadKnob" "why") (ei_BadKnob : ErrI P w K mg base Ck "why" ps) : FnOk P w K mg base (L2N.CX P w) 3 f fd ["knob"] (spNeedKnobX K Ck) := by
  have sc := sc_needkx
  refine okN F sc (fun vs H Q E h => ?_) (fun cdv A outer s H vs Q E hr h => ?_)
  · obtain ⟨v, g, b, rfl, _⟩ := h
    rfl
  · obtain ⟨v, g, b, rfl, hv, kE, kQ⟩ := h
    obtain ⟨a, rfl, hT⟩ := dp_ii hv
    refine ⟨_, (pss_cons (ps_asg (pv 0) (pg_tup rfl (pgs_cons (pg_name (i := 1) sc.nd rfl (Or.inl rfl)) (pgs_cons (pg_name (i := 2) sc.nd rfl (Or.inl rfl)) pgs_nil))))
(pss_cons (ps_if (pt_not (pt_chain op_le op_le pe_int (pv 1) (pe_glob (v := .int 6) rfl g_MOST_GAP ⟨_, rfl⟩)))
(pss_one (ps_raiseN rfl (L2N.takes_of rfl rfl rfl rfl) ek_BadKnob ei_BadKnob (hr.mono (by first | decide | omega)) (pa_cons pe_str pa_nil)))
pss_nil)
(pss_one (ps_if (pt_not (pt_chain op_le op_le pe_int (pv 2) (pv 1)))
(pss_one (ps_raiseN rfl (L2N.takes_of rfl rfl rfl rfl) ek_BadKnob ei_BadKnob (hr.mono (by first | decide | omega)) (pa_cons pe_str pa_nil)))
pss_nil)))), ?_⟩
    refine ⟨_, rfl, a, _, rfl, hT, rfl, _, _, rfl, _, _, rfl, rfl, ?_⟩
    have gapE : ¬ (1 ≤ g ∧ g ≤ 6) → ∀ d, H d = none → E (.ref Ck) (some d) (upd H d (.xd [("why", .str "gap")])) := fun c d hd => kE "gap" (if_pos c) d hd
    have bouE : 1 ≤ g ∧ g ≤ 6 → ¬ (0 ≤ b ∧ b ≤ g) → ∀ d, H d = none → E (.ref Ck) (some d) (upd H d (.xd [("why", .str "bounce")])) := fun c c2 d hd => kE "bounce" (by unfold knobBad; rw [if_neg (fun z => z c), if_pos c2]) d hd
    refine ⟨_, rfl, _, _, rfl, rfl, _, rfl, ?_⟩
    by_cases c1 : 1 ≤ g
    · refine iteDT c1 ⟨_, _, rfl, rfl, _, rfl, ?_⟩
      by_cases c2 : g ≤ 6
      · rw [decide_eq_true c2]
        refine iteF ⟨_, rfl, _, _, rfl, rfl, _, rfl, ?_⟩
        by_cases c3 : 0 ≤ b
        · refine iteDT c3 ⟨_, rfl, _, _, rfl, rfl, _, rfl, ?_⟩
          by_cases c4 : b ≤ g
          · rw [decide_eq_true c4]
            exact iteF (kQ (by unfold knobBad; rw [if_neg (fun z => z ⟨c1, c2⟩), if_neg (fun z => z ⟨c3, c4⟩)]))
          · rw [decide_eq_false c4]
            exact iteT (raise_ok (bouE ⟨c1, c2⟩ fun z => c4 z.2))
        · exact iteDF c3 ⟨_, rfl, iteT (raise_ok (bouE ⟨c1, c2⟩ fun z => c3 z.1))⟩
      · rw [decide_eq_false c2]
        exact iteT (raise_ok (gapE fun z => c2 z.2))
    · exact iteDF c1 ⟨_, rfl, iteT (raise_ok (gapE fun z => c1 z.1))⟩
theorem sc_needwx : FnScope ["knob", "row", "gap", "bounce", "since", "turned", "at", "turn", "old"] ["knob", "row"] (defScope (top 14)) := ⟨rfl, rfl, rfl, by decide +kernel, rfl, by decide +kernel, by decide +kernel⟩
set_option maxHeartbeats 1000000 in
theorem ok_needwx {f Cw : Addr} {fd : FuncData} {t1 : Tok} {ps : List Str} (F : Fun K "need_row" "need_row" (top 14) f fd) (g_MOST_ROW : mg "MOST_ROW" = some (.int 200 t1)) (n_enumerate : mg "enumerate" = none) (n_min : mg "min" = none) (ek_BadRow : ErrK K mg Cw "BadRow" "at") (ei_BadRow : ErrI P w K mg base Cw "at" ps) : FnOk P w K mg base (L2N.CX P w) 3 f fd ["knob", "row"] (spNeedRowX K Cw) := by
  have sc := sc_needwx
  refine okN F sc (fun vs H Q E h => ?_) (fun cdv A outer s H vs Q E hr h => ?_)
  · obtain ⟨v, u, g, b, row, rfl, _⟩ := h
    rfl
  · obtain ⟨v, u, g, b, row, rfl, hd, hrow, hlen, kE, kQ⟩ := h
    obtain ⟨a, rfl, hT⟩ := dp_ii hd
    obtain ⟨l, xs, rfl, hL, hX⟩ := dp_lst hrow
    have hxl : xs.length = row.length := by rw [dpa_length hX, List.length_map]
    refine ⟨_, (pss_cons (ps_asg (pv 0) (pg_tup rfl (pgs_cons (pg_name (i := 2) sc.nd rfl (Or.inl rfl)) (pgs_cons (pg_name (i := 3) sc.nd rfl (Or.inl rfl)) pgs_nil))))
(pss_cons (ps_set (i := 4) sc.nd rfl (Or.inl rfl) (pv 2))
(pss_cons (ps_set (i := 5) sc.nd rfl (Or.inl rfl) pe_bl)
(pss_one (ps_for PassesOwn.leaving rfl (pi_enum (by rfl) n_enumerate (pa_cons (pv 1) pa_nil)) (pg_tup rfl (pgs_cons (pg_name (i := 6) sc.nd rfl (Or.inl rfl)) (pgs_cons (pg_tup rfl (pgs_cons (pg_name (i := 7) sc.nd rfl (Or.inl rfl)) (pgs_cons (pg_name (i := 8) sc.nd rfl (Or.inl rfl)) pgs_nil))) pgs_nil)))
(pss_cons (ps_if (pt_cut (PW.pt (pw_or (pt_cmpR op_ge (pv 6) (pe_glob (v := .int 200) rfl g_MOST_ROW ⟨_, rfl⟩) (nomark _)) (pw_or (pt_cmpR (r := rIn K true) op_notIn_seq (pv 7) (pe_tup (pa_cons (pe_un un_neg pe_int) (pa_cons pe_int (pa_cons pe_int pa_nil)))) (by rfl)) (pw_or1 (PW.pt (pw_and (pt_cmpR op_ne (pv 7) pe_int (nomark _)) (pw_and1 (pt_cmpR op_lt (pv 4) (pv 2) (nomark _))))))))))
(pss_one (ps_raiseN rfl (L2N.takes_of rfl rfl rfl rfl) ek_BadRow ei_BadRow (hr.mono (by first | decide | omega)) (pa_cons (pv 6) pa_nil)))
pss_nil)
(C8.pss_cut (ps_if (pt_cmpR op_ne (pv 7) pe_int (nomark _))
(pss_cons (ps_set (i := 4) sc.nd rfl (Or.inl rfl) pe_int)
(pss_one (ps_set (i := 5) sc.nd rfl (Or.inl rfl) pe_bl)))
pss_nil)
(pss_cons (ps_if (pt_cut (PW.pt (pw_and (pt_val (pv 8)) (pw_and1 (PW.pt (pw_or (pt_not (pt_val (pv 5))) (pw_or1 (pt_cmpR op_ge (pv 4) (pv 3) (nomark _)))))))))
(pss_one (ps_raiseN rfl (L2N.takes_of rfl rfl rfl rfl) ek_BadRow ei_BadRow (hr.mono (by first | decide | omega)) (pa_cons (pv 6) pa_nil)))
pss_nil)
(pss_one (ps_set (i := 4) sc.nd rfl (Or.inl rfl) (pe_callB (call_min2 rfl) (by rfl) n_min (by decide +kernel) (pa_cons (pv 2) (pa_cons (pe_op op_add (pv 4) pe_int) pa_nil))))))))))))), ?_⟩
    refine ⟨_, rfl, a, _, rfl, hT, rfl, _, _, rfl, _, _, rfl, rfl, ?_⟩
    refine ⟨_, rfl, ?_⟩
    refine ⟨_, rfl, l, xs, rfl, hL, for_it (walk_enum (xs := xs)) (fun i σ H' => (∃ v1 v2 v3, σ = [some (.ref a), some (.ref l), some (.int g), some (.int b), some (.int (rst g (row.take i)).1), some (.bl (rst g (row.take i)).2), v1, v2, v3]) ∧ Same H H' ∧ ∀ j, j < i → isBad g b row j = false)
      ⟨⟨none, none, none, rfl⟩, Same.refl H, fun j h => by omega⟩ (fun i σ H' _ e => e.2.1.seq hL) ?_ ?_⟩
    · rintro i x σ H1 H2 hi ⟨⟨v1, v2, v3, rfl⟩, hs, hno⟩ ⟨T, y, z, rfl, hT0, rfl, hy, hz⟩
      cases hy
      obtain ⟨m, hm, hz2⟩ := dpa_map_at (dpa_same hs hX) hz
      have hz3 := dp_same (same_new hT0 (o := .tup [.int ((i : Nat) : Int), z])) hz2
      obtain ⟨q, rfl, hq⟩ := dp_ib hz3
      have hil : i < row.length := by omega
      refine ⟨T, _, rfl, SqT.of upd_same, rfl, _, _, rfl, _, _, rfl, ?_⟩
      refine ⟨q, _, rfl, hq, rfl, _, _, rfl, _, _, rfl, rfl, rfl, ?_⟩
      have e0 : (rst g (row.take (i + 1))) = stp g (rst g (row.take i)) m := rst_snoc hm
      have hbad : isBad g b row i = (decide (200 ≤ i) || !okM g b (rst g (row.take i)) m) := by unfold isBad; rw [hm, Option.getD_some]
      have raise : isBad g b row i = true → ∀ H', Same H H' → ∀ d, H' d = none → E (.ref Cw) (some d) (upd H' d (.xd [("at", .int ((i : Nat) : Int))])) := fun hb H' sH' d hd => kE i (bad_some hil hb hno) d H' sH' hd
      have sT := hs.trans (same_new hT0 (o := .tup [.int ((i : Nat) : Int), .ref q]))
      revert hbad e0 sT
      generalize rst g (row.take i) = R
      generalize upd H1 T (.tup [.int ((i : Nat) : Int), .ref q]) = H2
      intro e0 hbad sT
      refine ⟨fun x H' => x = (decide (200 ≤ i) || (!decide (m.1 = -1 ∨ m.1 = 0 ∨ m.1 = 1) || (decide (m.1 ≠ 0) && decide (R.1 < g)))) ∧ Same H2 H', ?_, ?_⟩
      · refine ⟨_, rfl, _, _, rfl, rfl, _, rfl, ?_⟩
        by_cases c1 : 200 ≤ i
        · rw [decide_eq_true c1, Bool.true_or]
          exact iteDT (by omega) ⟨rfl, Same.refl _⟩
        rw [decide_eq_false c1, Bool.false_or]
        refine iteDF (by omega) ⟨_, rfl, _, rfl, (by show 3 ≤ sizeLine; decide), fun tp htp => ?_⟩
        have st := same_new htp (o := .tup [.int (-1), .int 0, .int 1])
        refine ⟨tp, _, rfl, .inr (SqT.of upd_same), rfl, rfl, _, rfl, ?_⟩
        have ein : (!(inV (V.int m.1) [V.int (-1), V.int 0, V.int 1])) = !decide (m.1 = -1 ∨ m.1 = 0 ∨ m.1 = 1) := by
          show (!(inV (V.int m.1) ([(-1 : Int), 0, 1].map V.int))) = _
          rw [inV_intsX]
          congr 1
          exact decide_eq_decide.mpr (by simp)
        by_cases c2 : m.1 = -1 ∨ m.1 = 0 ∨ m.1 = 1
        · rw [decide_eq_true c2] at ein ⊢
          refine iteBF ein ⟨_, rfl, rfl, _, rfl, ?_⟩
          by_cases h0 : m.1 = 0
          · exact iteNS (vint_eq h0) ⟨by simp [h0], st⟩
          · refine iteNT (vint_ne h0) ⟨_, rfl, _, rfl, _, _, rfl, rfl, _, rfl, ?_, st⟩
            rw [decide_eq_true h0]; rfl
        · rw [decide_eq_false c2] at ein ⊢
          exact iteBT ein ⟨rfl, st⟩
      rintro x H3 ⟨rfl, s3⟩
      have sH3 := sT.trans s3
      refine iteB (fun e => ?_) (fun e => ?_)
      · refine ⟨_, rfl, raise_ok (raise ?_ _ sH3)⟩
        rw [hbad]
        unfold okM
        rcases (show 200 ≤ i ∨ ¬ (m.1 = -1 ∨ m.1 = 0 ∨ m.1 = 1) ∨ (m.1 ≠ 0 ∧ R.1 < g) by simpa using e) with c | c | c
        · rw [decide_eq_true c, Bool.true_or]
        · rw [decide_eq_false c]; simp
        · rw [decide_eq_false c.1, decide_eq_false (show ¬ g ≤ R.1 by omega)]; simp
      have hok1 : ¬ 200 ≤ i ∧ (m.1 = -1 ∨ m.1 = 0 ∨ m.1 = 1) ∧ (m.1 = 0 ∨ g ≤ R.1) := by
        rw [Bool.or_eq_false_iff, Bool.or_eq_false_iff, decide_eq_false_iff_not, Bool.not_eq_false', decide_eq_true_eq, Bool.and_eq_false_iff, decide_eq_false_iff_not, decide_eq_false_iff_not] at e
        exact ⟨e.1, e.2.1, by omega⟩
      refine ⟨fun σ H' => σ = [some (.ref a), some (.ref l), some (.int g), some (.int b), some (.int (if m.1 = 0 then R.1 else 0)), some (.bl (R.2 || decide (m.1 ≠ 0))), some (.int ((i : Nat) : Int)), some (.int m.1), some (.bl m.2)] ∧ H' = H3, ?_, ?_⟩
      · refine ⟨_, rfl, rfl, _, rfl, ?_⟩
        by_cases h0 : m.1 = 0
        · refine iteNS (vint_eq h0) ⟨?_, rfl⟩
          rw [if_pos h0, decide_eq_false (show ¬ m.1 ≠ 0 from fun z => z h0), Bool.or_false]
          rfl
        · refine iteNT (vint_ne h0) ⟨?_, rfl⟩
          rw [if_neg h0, decide_eq_true (show m.1 ≠ 0 from h0), Bool.or_true]
          rfl
      rintro σ H4 ⟨rfl, rfl⟩
      refine ⟨fun x H' => x = (m.2 && !((R.2 || decide (m.1 ≠ 0)) && decide ((if m.1 = 0 then R.1 else 0) < b))) ∧ H' = H4, ?_, ?_⟩
      · refine ⟨_, rfl, _, rfl, iteB (fun eo => ?_) (fun eo => ?_)⟩
        · rw [eo, Bool.true_and]
          refine ⟨_, rfl, _, rfl, ?_⟩
          cases et : (R.2 || decide (m.1 ≠ 0)) with
          | false => exact iteT ⟨rfl, rfl⟩
          | true =>
            refine iteF ⟨_, rfl, _, rfl, _, _, rfl, rfl, _, rfl, ?_, rfl⟩
            rw [Bool.true_and, ← decide_not]
            exact decide_eq_decide.mpr (by omega)
        · rw [eo, Bool.false_and]; exact ⟨rfl, rfl⟩
      rintro x H5 ⟨rfl, rfl⟩
      refine iteB (fun e2 => ?_) (fun e2 => ?_)
      · refine ⟨_, rfl, raise_ok (raise ?_ _ sH3)⟩
        rw [Bool.and_eq_true] at e2
        rw [hbad]
        unfold okM
        rw [e2.1]
        have : ((R.2 || decide (m.1 ≠ 0)) && decide ((if m.1 = 0 then R.1 else 0) < b)) = false := by rw [Bool.not_eq_true'] at e2; exact e2.2
        rw [this]
        simp
      · refine ⟨_, rfl, _, rfl, _, _, rfl, rfl, _, _, rfl, ⟨some (.int ((i : Nat) : Int)), some (.int m.1), some (.bl m.2), ?_⟩, sH3, fun j hj => ?_⟩
        · rw [e0]
          unfold stp
          dsimp only
          rw [min2]
          rfl
        · by_cases hji : j < i
          · exact hno j hji
          · have : j = i := by omega
            subst this
            rw [hbad]
            unfold okM
            rw [decide_eq_false hok1.1, decide_eq_true hok1.2.1, Bool.false_or, Bool.true_and]
            have q1 : (decide (m.1 = 0) || decide (g ≤ R.1)) = true := by simpa using hok1.2.2
            rw [q1, Bool.true_and]
            cases hm2 : m.2 with
            | false => rfl
            | true =>
              rw [hm2, Bool.true_and, Bool.not_eq_false'] at e2
              rw [e2]
              rfl
    · rintro σ H1 ⟨⟨v1, v2, v3, rfl⟩, hs, hno⟩
      exact kQ (bad_none fun j hj => hno j (by omega)) H1 hs
end
/-! ### a list gone through, and a list made, while an error is handled -/
namespace HotL
open PySem PySem.Spec PyProof.Rows L2 HotX L2H
theorem hot_apart {A : Around} {x1 it l : Addr} {i : Nat} {h : Heap} (hot : HotAt A x1 h) (st : h.IsListIter it l i) : x1 ≠ it := fun z => by
  obtain ⟨_, o, vs, h1, d1, c1⟩ := hot
  obtain ⟨o2, h2, _, d2⟩ := st
  rw [z, h2] at h1
  cases h1
  rw [d2] at d1
  cases d1
  cases c1
theorem list_end {P : Program} {w : World} {A : Around} {E : Value → Shared → Prop} {s : Shared} {it l x1 : Addr} {i : Nat} {items : Array Value} {Q : Option Value → Shared → Prop}
    (hot : HotAt A x1 s.heap) (st : s.heap.IsListIter it l i) (hl : s.heap.IsList l items) (out : items[i]? = none) (fin : ∀ h', (∀ b o, b ≠ it → s.heap.get? b = some o → h'.get? b = some o) → Q none { s with heap := h' }) :
    wpAny (model P w) A (pyNext (.ref it)) Q E s := by
  have ap := hot_apart hot st
  obtain ⟨oi, gi, ci, di⟩ := id st
  obtain ⟨ol, gl, _, nl, dl⟩ := hl
  obtain ⟨hh, o1, v1, g1, d1, c1⟩ := hot
  unfold pyNext
  refine wpAny_bind (wpAny_attempt (wpAny_callSpecial?_slot (name := Str.ofString "__next__") st.typeIs slot_listiter_next (wpAny_call_entry slot_listiter_next st.typeIs entry_listiter_next ?_ (args_listiter_next _))))
  show wpAny _ _ (field (.ref it) 0 >>= _) _ _ s
  refine wpAny_bind (wpAny_field gi di (x := .ref l) rfl ?_)
  show wpAny _ _ (if (Value.ref l == Value.none) = true then _ else _) _ _ s
  rw [if_neg (show ¬ ((Value.ref l == Value.none) = true) from Bool.false_ne_true)]
  show wpAny _ _ (field (.ref it) 1 >>= _) _ _ s
  refine wpAny_bind (wpAny_field gi di (x := .int i 0) rfl ?_)
  show wpAny _ _ (seqItems? (.ref l) >>= _) _ _ s
  refine wpAny_bind (wpAny_seqItems gl dl ?_)
  simp only [Int.toNat_natCast, out]
  refine wpAny_bind (wpAny_rule (wpAny_bind (wpAny_setField gi di (by simp) ?_)))
  show wpAny _ _ (newExc (.type "StopIteration") [] >>= _) _ _ _
  refine wpAny_bind ?_
  simp only [newExc, newTuple]
  refine wpAny_bind (wpAny_newObj_type ?_ (by size_fits))
  refine wpAny_bind (m := firstArgMember _ _) (wpAny_of_eq (a := Value.none) (by first | rfl | (simp only [firstArgMember]; rfl)) ?_)
  refine wpAny_newObj_type ?_ (by size_fits)
  have g2 := (Heap.get?_update_other s.heap (Obj.mapFields (·.setIfInBounds 0 Value.none)) (Ne.symm ap)).trans g1
  have keep2 : ∀ b o, b ≠ it → s.heap.get? b = some o → (s.heap.update it (Obj.mapFields (·.setIfInBounds 0 Value.none))).get? b = some o := fun b o nb e => (Heap.get?_update_other _ _ (Ne.symm nb)).trans e
  refine raiseNew_hot ⟨hh, o1, v1, Heap.get?_push_of_some _ (Heap.get?_push_of_some _ g2), d1, c1⟩ (Nat.ne_of_lt (Heap.lt_size (Heap.get?_push_of_some _ g2))) (Heap.get?_push_size _ rfl) rfl (by first | (simp; done) | (simp; omega) | (simp only [Array.size_append]; simp; omega)) ?_
  refine wpAny_bind (wpAny_isInstance (T := "StopIteration") (b := true) ⟨_, Heap.get?_update_self _ (Heap.get?_push_size _ rfl) rfl, rfl⟩ isSubtype_stop ?_)
  refine wpAny_pure (fin _ fun b o nb e => ?_)
  have e2 := keep2 b o nb e
  rw [Heap.get?_update_other _ _ (Nat.ne_of_gt (Heap.lt_size (Heap.get?_push_of_some _ e2)))]
  exact Heap.get?_push_of_some _ (Heap.get?_push_of_some _ e2)
theorem turnL {P : Program} {w : World} {K : PySem.W.Frag} {tg : Expr} (a it : Addr) : TurnH P w K tg (Itl K a) [it] it (fun i h => h.IsListIter it a i) where
  mem := (turn_list (P := P) (w := w) (K := K) (tg := tg) a it).mem
  obj := (turn_list (P := P) (w := w) (K := K) (tg := tg) a it).obj
  keep := (turn_list (P := P) (w := w) (K := K) (tg := tg) a it).keep
  item := fun X hP hw hK _ i pins s σ H E I hf st hg => by
    subst hP hw hK
    obtain ⟨xs, x, hq, hx⟩ := hg
    obtain ⟨its, rv, pl, _⟩ := I.list hq
    obtain ⟨u, hu, ru⟩ := rv.get hx
    have ff := hf it (by simp)
    refine wpAny_pyNext_list_item st pl.isList (x := u) (by simpa using hu) fun h' st' sb => ?_
    have J : Inv X pins σ H { s with heap := h' } := I.turned (t' := s.toks) (fun b o nb e => (sb.2 b nb).trans e) ff.1 ff.2.1 ff.2.2.2.1 ff.2.2.2.2.1 ff.2.2.2.2.2
    obtain ⟨o, e, c, d⟩ := id st'
    refine ⟨u, rfl, go_of (s := { s with heap := h' }) e c d (by decide) ⟨x, H, J, ru, ⟨rfl, fun ys hy => ?_⟩, st', fun b hb => (hf b hb).1⟩⟩
    rw [I.list_inj hy hq]
    exact hx
  done := fun X hP hw hK hc i pins s σ H E I hf st hg => by
    subst hP hw hK
    obtain ⟨xs, hq, hx⟩ := hg
    obtain ⟨its, rv, pl, _⟩ := I.list hq
    have ff := hf it (by simp)
    have hl := rv.length
    obtain ⟨x1, hot⟩ := hc.at I
    exact list_end hot st pl.isList (by simp; omega) fun h' kk => ⟨rfl, I.turned (t' := s.toks) kk ff.1 ff.2.1 ff.2.2.2.1 ff.2.2.2.2.1 ff.2.2.2.2.2⟩
  self := (turn_list (P := P) (w := w) (K := K) (tg := tg) a it).self
theorem pi_listH {X : Cx} {tg l : Expr} {tl : TE} (hl : PE X l tl) : PIH X tg l (iList X.K tl) := by
  constructor
  intro pins s σ H R I h
  refine thn (hl.run pins s σ H _ I h) fun v s1 hv => ?_
  obtain ⟨x, H1, J, r, a, e, ⟨xs, hq⟩, q⟩ := hv
  subst e
  cases r
  obtain ⟨its, rv, pl, _⟩ := J.list hq
  refine wpAny_pyIter_list pl.isList ⟨s1.heap.objs.size, [s1.heap.objs.size], _, _, H1, rfl, J.kept (t' := s1.toks) fun b o e => Heap.get?_push_of_some _ e, turnL a _, ⟨_, Heap.get?_push_size _ rfl, rfl, rfl⟩, fun b hb => ?_, q⟩
  have e : b = s1.heap.objs.size := by simpa using hb
  rw [e]
  exact J.fpOk (Nat.le_refl _) (J.hok.fresh (Nat.le_refl _))
/-- a block's context that keeps the pins -/
abbrev blkP (X : Cx) (s : Shared) (H : Hp) (scope : Scope) (cenv : Env) (fp : List Addr) : Cx := { X.blk s H scope cenv fp with pn := X.pn }
theorem ok_pn {X : Cx} {pn : List (Addr × Obj)} (k : X.Ok) : ({ X with pn := pn } : Cx).Ok :=
  ⟨k.mod, k.kind, k.glob, k.blt, k.above, k.inj, k.has, k.cab, k.hd, k.frames, k.stk, k.exf, k.bs, k.bsz, k.noex, k.exfs, k.funs, k.frf⟩
theorem startP {X : Cx} {pins : List (Addr × Obj)} {σ : L2.St} {H : Hp} {s : Shared} {scope : Scope} {own : List (Str × Nat)} {fp : List Addr} (I : Inv X pins σ H s) (ok : BlkOk X.N X.env.scope scope own) (nd : X.N.Nodup) (hfp : ∀ b ∈ fp, FpOk X pins H b ∧ b < s.heap.objs.size) :
    Inv (blkP X s H scope (compEnvC scope (cellsFrom (s.heap.objs.size + 1) scope.names (cloFrom X.env.cells scope.names [])) s.heap.objs.size X.env) fp) [] (wipe σ (own.map (·.2))) H { s with heap := pushCells (s.heap.push { cls := .type "dict", data := .dict #[] }) scope.names } := by
  have B := block_start I ok nd hfp
  refine ⟨ok_pn B.ok, B.os, B.bare, B.base, B.loc, B.cell, B.free, B.freeC, fun p hp => ?_, B.hok, B.len⟩
  have hp : p ∈ X.pn := by simpa using hp
  obtain ⟨a1, a2, a3, a4, a5⟩ := I.pin p (List.mem_append_left _ hp)
  refine ⟨pushCells_keeps _ _ _ _ (Heap.get?_push_of_some _ a1), a2, ?_, fun hm => ?_, a5⟩
  · show p.1 ≠ s.heap.objs.size
    exact Nat.ne_of_lt (Heap.lt_size a1)
  · rcases List.mem_cons.mp (I.stkSub p.1 hm) with z | z
    · exact a3 z
    · exact a4 z
/-- [e for x in l] in an except suite -/
theorem pe_lcH {X : Cx} {elt tg iter : Expr} {ifs : List Expr} {scope : Scope} {own : List (Str × Nat)} {pos : Pos} {wi : TI} {g : TG} {tt : TT} {te : TE} (hc : HotC X) (nd : X.N.Nodup) (hi : PIH X tg iter wi) (ok : BlkOk X.N X.env.scope scope own)
    (hg : ∀ (s : Shared) (H : Hp) (C : Addr) (cl : List (Str × Addr)) (fp : List Addr), PG (blkP X s H scope (compEnvC scope cl C X.env) fp) tg g)
    (ht : ∀ (s : Shared) (H : Hp) (C : Addr) (cl : List (Str × Addr)) (fp : List Addr), PTs (blkP X s H scope (compEnvC scope cl C X.env) fp) ifs tt)
    (he : ∀ (s : Shared) (H : Hp) (C : Addr) (cl : List (Str × Addr)) (fp : List Addr), PE (blkP X s H scope (compEnvC scope cl C X.env) fp) elt te)
    (hs : ∀ x, foldedSetIterable iter X.env x = pure x := by intro _; rfl) : PE X (.ListComp elt [⟨tg, iter, ifs, 0⟩] scope pos) (tLc wi g tt te (own.map (·.2))) := by
  constructor
  intro pins s σ H Q I h
  rw [eval_ListComp]
  have fr : ∀ y ∈ scope.names, y.2 = .free → ∃ c, X.env.cells.lookup y.1 = some c := fun y hy e => (ok.free y hy e).elim (fun k => I.ok.has _ (.inl k)) fun k => I.ok.has _ (.inr k)
  refine wpAny_comprehension_free rfl hs (closure_ok fr) ok.kind (fun y hy e => by rw [ok.uniq y hy, e]) (thn (hi.run pins s σ H _ I h) fun _ s1 hx => thn hx fun _ s2 h2 => ?_)
  obtain ⟨it, fp, tn, J, H2, e, I2, T, st2, f2, q⟩ := h2
  subst e
  refine wpAny_newObj_type (newEnv_comp ?_) (by show 0 ≤ sizeLine; decide)
  generalize hD : s2.heap.objs.size = D
  obtain ⟨W, ⟨m0, w0⟩, turn⟩ := q D (I2.hok.fresh (Nat.le_of_eq hD))
  generalize hs3 : ({ s2 with heap := s2.heap.push { cls := .type "list", data := .seq ([] : List Value).toArray } } : Shared) = s3
  have h3 : s3.heap = s2.heap.push { cls := .type "list", data := .seq ([] : List Value).toArray } := by rw [← hs3]
  have I3 : Inv X pins σ (upd H2 D (.lst [])) s3 := by
    rw [← hs3]
    refine I2.laid (t' := s2.toks) (fun b o e => Heap.get?_push_of_some _ e) (Nat.le_of_eq hD) ⟨Nat.zero_le _, [], 0, .nil, ?_⟩
    rw [← hD]
    exact Heap.get?_push_size _ rfl
  have f3 : ∀ b ∈ fp, FpOk X pins (upd H2 D (.lst [])) b ∧ b < s3.heap.objs.size := fun b hb => by
    obtain ⟨o, eo, _⟩ := T.obj _ _ st2 b hb
    have lt := Heap.lt_size eo
    have nb : b ≠ D := by rw [← hD]; exact Nat.ne_of_lt lt
    exact ⟨⟨by rw [upd_ne nb]; exact (f2 b hb).1, (f2 b hb).2⟩, by rw [h3, Heap.size_push]; exact Nat.lt_succ_of_lt lt⟩
  have st3 : tn 0 s3.heap := T.keep _ _ _ st2 fun b _ o e => by rw [h3]; exact Heap.get?_push_of_some _ e
  have I4 := startP I3 ok nd f3
  have pg := hg s3 (upd H2 D (.lst [])) s3.heap.objs.size (cellsFrom (s3.heap.objs.size + 1) scope.names (cloFrom X.env.cells scope.names [])) fp
  have pt := ht s3 (upd H2 D (.lst [])) s3.heap.objs.size (cellsFrom (s3.heap.objs.size + 1) scope.names (cloFrom X.env.cells scope.names [])) fp
  have pe := he s3 (upd H2 D (.lst [])) s3.heap.objs.size (cellsFrom (s3.heap.objs.size + 1) scope.names (cloFrom X.env.cells scope.names [])) fp
  show codeAny _ _ (.compStart (.ListComp elt [⟨tg, iter, ifs, 0⟩] scope pos) 0 (.ref it) (.ref D) (compEnvC scope (cellsFrom (s3.heap.objs.size + 1) scope.names (cloFrom X.env.cells scope.names [])) s3.heap.objs.size X.env)) _ { s3 with heap := pushCells (s3.heap.push { cls := .type "dict", data := .dict #[] }) scope.names }
  generalize hce : compEnvC scope (cellsFrom (s3.heap.objs.size + 1) scope.names (cloFrom X.env.cells scope.names [])) s3.heap.objs.size X.env = ce at I4 pg pt pe ⊢
  have cL : ce.locals = s3.heap.objs.size := by subst hce; rfl
  generalize hs4 : ({ s3 with heap := pushCells (s3.heap.push { cls := .type "dict", data := .dict #[] }) scope.names } : Shared) = s4 at I4 ⊢
  have st4 : tn 0 s4.heap := T.keep _ _ _ st3 fun b _ o e => by rw [← hs4]; exact pushCells_keeps _ _ _ _ (Heap.get?_push_of_some _ e)
  have hB : HotC (blkP X s3 (upd H2 D (.lst [])) scope ce fp) := hc
  have stat : ∀ {σ' : L2.St} {H' : Hp} {s' : Shared}, Inv (blkP X s3 (upd H2 D (.lst [])) scope ce fp) [] σ' H' s' → (∀ b ∈ fp, H' b = none) → ∀ b ∈ fp, FpOk (blkP X s3 (upd H2 D (.lst [])) scope ce fp) [] H' b := fun I' hn b hb =>
    ⟨hn b hb, (I'.ok.exf b hb).1, I'.ok.exfs b hb, .inl hb, (I'.ok.exf b hb).2, fun p hp => (f3 b hb).1.2.2.2.2.2 p (List.mem_append_left _ (by simpa using hp))⟩
  have loop : codeAny (model X.prog X.w) X.A (.compLoop (.ListComp elt [⟨tg, iter, ifs, 0⟩] scope pos) 0 (.ref it) (.ref D) ce) (compPost (model X.prog X.w) X.A X.xe none (EP X pins σ Q) (.ref D) s3.heap.objs.size) s4 := by
    refine compLoop_any (fun n s' => ∃ i H', Inv (blkP X s3 (upd H2 D (.lst [])) scope ce fp) [] (wipe σ (own.map (·.2))) H' s' ∧ tn i s'.heap ∧ (∀ b ∈ fp, H' b = none) ∧ W i n H') ?_ m0 ⟨0, _, I4, st4, fun b hb => (f3 b hb).1.1, w0⟩
    rintro n s5 ⟨i, H5, I5, st5, n5, w5⟩
    rcases turn i n H5 w5 with ⟨stop, qq⟩ | ⟨go, Nx, hNx, step⟩
    · refine thnF (T.done (blkP X s3 (upd H2 D (.lst [])) scope ce fp) rfl rfl rfl hB i [] s5 _ H5 (fun _ _ => False) I5 (stat I5 n5) st5 stop) fun r s6 ⟨hr, I6⟩ => ?_
      subst hr
      have I7 : Inv X pins σ H5 s6 := I3.call' (ch := fp) I6.os I6.base I6.hok I6.bare fun b hb => ⟨(f3 b hb).1.2.2.2.1, (f3 b hb).1.2.1, (f3 b hb).1.2.2.2.2.1, (f3 b hb).1.2.2.2.2.2⟩
      have nC : H5 s3.heap.objs.size = none := by
        have z : H5 ce.locals = none := I6.free
        rw [cL] at z
        exact z
      obtain ⟨m, hn, _⟩ := I6.loc
      have hn : s6.heap.Ns ce.locals m := hn
      rw [cL] at hn
      refine ⟨m, hn, fun h'' sb => ?_⟩
      have ff := I3.fpOk (H' := H5) (Nat.le_refl _) nC
      exact ⟨.ref D, H5, I7.turned (t' := s6.toks) (fun b o nb e => (sb.2 b nb).trans e) ff.1 ff.2.1 ff.2.2.2.1 ff.2.2.2.2.1 ff.2.2.2.2.2, rfl, qq⟩
    · refine thnF (T.item (blkP X s3 (upd H2 D (.lst [])) scope ce fp) rfl rfl rfl hB i [] s5 _ H5 (fun _ _ => False) I5 (stat I5 n5) st5 go) fun r s6 ⟨u, hr, h6⟩ => ?_
      subst hr
      refine thnF h6 fun _ s7 ⟨x, H7, I7, r7, y7, st7, n7⟩ => ?_
      refine thnF (pg.run _ s7 _ H7 x u _ (I7.pinned (stat I7 n7) (T.obj _ _ st7)) r7 (step x H7 y7)) fun _ s8 ⟨σ8, H8, I8, hw8, q8⟩ => ?_
      refine thnF (pt.run _ s8 σ8 H8 _ I8 q8) fun b s9 ⟨H9, I9, q9⟩ => ?_
      have again : ∀ {s' : Shared} {H' : Hp}, Inv (blkP X s3 (upd H2 D (.lst [])) scope ce fp) ([] ++ pinsAt fp s7.heap) σ8 H' s' → Nx H' →
          ∃ m, m < n ∧ ∃ i H', Inv (blkP X s3 (upd H2 D (.lst [])) scope ce fp) [] (wipe σ (own.map (·.2))) H' s' ∧ tn i s'.heap ∧ (∀ b ∈ fp, H' b = none) ∧ W i m H' := fun {s' H'} I' nx => by
        obtain ⟨m', hm, w'⟩ := hNx H' nx
        have pin' : ∀ b ∈ fp, ∀ o, s7.heap.get? b = some o → s'.heap.get? b = some o ∧ H' b = none := fun b hb o e =>
          ⟨(I'.pin (b, o) (List.mem_append_right _ (List.mem_append_right _ (mem_pinsAt hb e)))).1, (I'.pin (b, o) (List.mem_append_right _ (List.mem_append_right _ (mem_pinsAt hb e)))).2.1⟩
        refine ⟨m', hm, i + 1, H', (I'.unpinned (pins := [])).weak (by rw [← hw8, wipe_length]) (fun j v e => ?_), T.keep _ _ _ st7 fun b hb o e => (pin' b hb o e).1, fun b hb => ?_, w'⟩
        · rw [← hw8] at e
          exact (wipe_some e).1
        · obtain ⟨o, e, _⟩ := T.obj _ _ st7 b hb
          exact (pin' b hb o e).2
      cases b with
      | false =>
        simp only [Bool.false_eq_true, if_false] at q9 ⊢
        exact again I9 q9
      | true =>
        simp only [if_true] at q9 ⊢
        refine thnF (pe.run _ s9 σ8 H9 _ I9 q9) fun z s10 ⟨yv, H10, I10, r10, acc, hD10, hz10, nx⟩ => ?_
        exact app_ok (X := blkP X s3 (upd H2 D (.lst [])) scope ce fp) I10 hD10 hz10 r10 fun s11 I11 => again I11 nx
  exact codeAny_compStart_list loop (T.self X.A 0 _ _ _ st4 loop)
end HotL
/-! ### what is refused -/
section
open PySem PySem.Spec PyProof.Rows L2 L2H
variable {P : Program} {w : World} {K : PySem.W.Frag} {mg : Str → Option Value} {base : Heap}
theorem okH {CX : CXT} {x qual : Str} {st : Stmt} {f : Addr} {fd : FuncData} {N ps : List Str} {k : Nat} {sp : Sp} (F : Fun K x qual st f fd) (S : FnScope N ps (defScope st)) (len : ∀ vs H Q E, sp vs H Q E → vs.length = ps.length)
    (hb : ∀ (cdv : Value) (A : Around) (outer : List Env) (s : Shared) (H : Hp) (vs : List V) (Q : VK) (E : XK) (p : Addr × Obj), Hot1 A p → RoomH k (A.deeper (envOfC qual (defScope st) s.heap.objs.size f cdv)) → sp vs H Q E →
      ∃ t, PSs (cxH CX P w K mg base N qual (defScope st) f cdv A outer s H E p) (defBody st) t ∧ t { nx := fun _ H' => Q .non H', rt := Q } (L2.start N vs) H) : FnH P w K mg base CX (k + 1) f fd ps sp := by
  obtain ⟨oc, od, kV, doc, pm, an, cdv, ct, osl, rfl, lk, hcd⟩ := F.ex
  exact fn_ofH lk hcd S len fun A outer s H vs Q E p hp hr hsp => hb cdv A outer s H vs Q E p hp hr hsp
/-- _law_alike of one number or one text, while an error is handled -/
def spAlikeH : Sp := fun vs H Q _ => ∃ v : V, vs = [v, v] ∧ ((∃ n, v = .int n) ∨ ∃ z, v = .str z) ∧ Q (.bl true) H
theorem sc_alikeh : FnScope ["_law_found", "_law_due", "_law_k"] ["_law_found", "_law_due"] (defScope (top 34)) := ⟨rfl, rfl, rfl, by decide +kernel, rfl, by decide +kernel, by decide +kernel⟩
theorem ok_alikeh {f : Addr} {fd : FuncData} (F : Fun K "_law_alike" "_law_alike" (top 34) f fd) (n_isinstance : mg "isinstance" = none) (n_bool : mg "bool" = none) (n_int : mg "int" = none) (n_str : mg "str" = none) : FnH P w K mg base CX0 1 f fd ["_law_found", "_law_due"] spAlikeH := by
  have sc := sc_alikeh
  refine okH F sc (fun vs H Q E h => ?_) (fun cdv A outer s H vs Q E p hp hr h => ?_)
  · obtain ⟨v, rfl, _⟩ := h
    rfl
  · obtain ⟨v, rfl, hv, k⟩ := h
    refine ⟨_, (pss_cons (ps_if (pt_cmpR op_isN (pv 1) pe_non (nomark _))
(pss_one (ps_ret (pe_cmpR op_isN (pv 0) pe_non (nomark _))))
pss_nil)
(pss_cons (ps_if (pt_val (pe_callB (r := rIsi K) call_isi (by rfl) n_isinstance (by decide +kernel) (pa_cons (pv 1) (pa_cons (pe_bltn (v := .ty "bool") (by rfl) n_bool (by decide +kernel) rfl) pa_nil))))
(pss_one (ps_ret (pe_and (pe_callB (r := rIsi K) call_isi (by rfl) n_isinstance (by decide +kernel) (pa_cons (pv 0) (pa_cons (pe_bltn (v := .ty "bool") (by rfl) n_bool (by decide +kernel) rfl) pa_nil))) (pe_one (pe_cmpR op_eq (pv 0) (pv 1) (nomark _))))))
pss_nil)
(pss_cons (ps_if (pt_val (pe_callB (r := rIsi K) call_isi (by rfl) n_isinstance (by decide +kernel) (pa_cons (pv 1) (pa_cons (pe_bltn (v := .ty "int") (by rfl) n_int (by decide +kernel) rfl) pa_nil))))
(pss_one (ps_ret (pe_and (pe_callB (r := rIsi K) call_isi (by rfl) n_isinstance (by decide +kernel) (pa_cons (pv 0) (pa_cons (pe_bltn (v := .ty "int") (by rfl) n_int (by decide +kernel) rfl) pa_nil))) (pe_and (pe_not (pe_callB (r := rIsi K) call_isi (by rfl) n_isinstance (by decide +kernel) (pa_cons (pv 0) (pa_cons (pe_bltn (v := .ty "bool") (by rfl) n_bool (by decide +kernel) rfl) pa_nil)))) (pe_one (pe_cmpR op_eq (pv 0) (pv 1) (nomark _)))))))
pss_nil)
(pss_cons (ps_if (pt_val (pe_callB (r := rIsi K) call_isi (by rfl) n_isinstance (by decide +kernel) (pa_cons (pv 1) (pa_cons (pe_bltn (v := .ty "str") (by rfl) n_str (by decide +kernel) rfl) pa_nil))))
(pss_one (ps_ret (pe_and (pe_callB (r := rIsi K) call_isi (by rfl) n_isinstance (by decide +kernel) (pa_cons (pv 0) (pa_cons (pe_bltn (v := .ty "str") (by rfl) n_str (by decide +kernel) rfl) pa_nil))) (pe_one (pe_cmpR op_eq (pv 0) (pv 1) (nomark _))))))
pss_nil)
pss_never)))), ?_⟩
    refine ⟨_, rfl, rfl, _, rfl, ?_⟩
    rcases hv with ⟨n, rfl⟩ | ⟨z, rfl⟩
    · refine iteDF (by simp) (t_isi (t := "int") (b := false) rfl (.base (.int n)) (by decide +kernel) (iteF ?_))
      refine t_isi (t := "int") (b := true) rfl (.base (.int n)) (by decide +kernel) (iteT ?_)
      refine e_isi (t := "int") (b := true) rfl (.base (.int n)) (by decide +kernel) ⟨_, rfl, iteT ?_⟩
      refine e_isi (t := "int") (b := false) rfl (.base (.int n)) (by decide +kernel) ⟨_, rfl, _, rfl, iteT ⟨_, rfl, _, rfl, rfl, ?_⟩⟩
      rw [decide_eq_true rfl]; exact k
    · refine iteDF (by simp) (t_isi (t := "str") (b := false) rfl (.base (.str z)) (by decide +kernel) (iteF ?_))
      refine t_isi (t := "str") (b := false) rfl (.base (.str z)) (by decide +kernel) (iteF ?_)
      refine t_isi (t := "str") (b := true) rfl (.base (.str z)) (by decide +kernel) (iteT ?_)
      refine e_isi (t := "str") (b := true) rfl (.base (.str z)) (by decide +kernel) ⟨_, rfl, iteT ⟨_, rfl, _, rfl, rfl, ?_⟩⟩
      rw [decide_eq_true rfl]; exact k
/-- what isinstance asks of an error's class -/
structure ExcK (K : PySem.W.Frag) (D : Addr) : Prop where
  cl : (PySem.W.clsIn K D).isSome = true
  hg : PySem.W.findIn K (.ref D) "__getattribute__" = some (some (.builtin "BaseException.__getattribute__"))
  hk : PySem.W.findIn K (.ref D) "__getattr__" = some none
  hs : PySem.W.subIn K (.ref D) (.type "BaseException") = some true
  ha : PySem.W.findIn K (.ref D) "__class__" = some (some (.builtin "object.__class__"))
  hn : PySem.W.specialIn K (.builtin "object.__class__") "__get__" = some (some (.builtin "getset_descriptor.__get__"))
  ht : PySem.W.takesIn K (.builtin "object.__class__") = some true
  hm : PySem.W.mroIn K D (.type "object") = some true
/-- isinstance(e, c) in the suite, e an error of the program -/
def rIsX (K : PySem.W.Frag) (a : Addr) (cls : Value) (d : Option Addr) : List V → Hp → VK → Prop := fun xs H Q => ∃ (c : V) (cv : Value) (b : Bool) (D dd : Addr) (fs : List (Str × V)),
  xs = [.ref a, c] ∧ (∀ u, RelV c u → u = cv) ∧ cls = .ref D ∧ d = some dd ∧ ExcK K D ∧ H dd = some (.xd fs) ∧ PySem.W.kitOne K (.ref D) cv = some b ∧ Q (.bl b) H
theorem e_isx {a C dd : Addr} {fs : List (Str × V)} {c : V} {cv : Value} {b : Bool} {i : Nat} {σ : L2.St} {H : Hp} {Q : VK} (h : σ[i]? = some (some (.ref a))) (T : ExcK K C) (hx : H dd = some (.xd fs)) (hc : ∀ u, RelV c u → u = cv) (hk : PySem.W.kitOne K (.ref C) cv = some b) (q : Q (.bl b) H) :
    tCB (rIsX K a (.ref C) (some dd)) (tCons (tVar i) (tCons (tC c) tNil)) σ H Q := ⟨_, h, _, _, _, C, dd, _, rfl, hc, rfl, rfl, T, hx, hk, q⟩
theorem t_isx {a C dd : Addr} {fs : List (Str × V)} {c : V} {cv : Value} {b : Bool} {i : Nat} {σ : L2.St} {H : Hp} {Q : Bool → Hp → Prop} (h : σ[i]? = some (some (.ref a))) (T : ExcK K C) (hx : H dd = some (.xd fs)) (hc : ∀ u, RelV c u → u = cv) (hk : PySem.W.kitOne K (.ref C) cv = some b) (q : Q b H) :
    tB (tCB (rIsX K a (.ref C) (some dd)) (tCons (tVar i) (tCons (tC c) tNil))) σ H Q := e_isx h T hx hc hk ⟨_, rfl, q⟩
theorem call_isX {X : Cx} {a : Addr} {oe : Obj} {cls : Value} {d : Option Addr} {pn : List (Addr × Obj)} (hz : L2N.Zn cls d oe) (hf : ∃ vs, oe.data = .fields vs) : CallR (X.suite a ((a, oe) :: pn)) (.builtin "isinstance") (rIsX X.K a cls d) := by
  intro pins s σ H xs us Q I r h
  obtain ⟨c, cv, b, D, dd, fs, rfl, hcv, ec, ed, T, hx, e, q⟩ := h
  cases r with
  | cons ra rr =>
    cases rr with
    | cons rc rn =>
      cases rn
      cases ra
      have e1 := hcv _ rc
      subst e1
      obtain ⟨hget, _⟩ := I.pin (a, oe) (List.mem_append_left _ List.mem_cons_self)
      obtain ⟨vs, hv⟩ := hf
      have ok : ObjOk X.prog X.w H s.heap dd (.xd fs) := I.hok dd _ hx
      obtain ⟨mA, hns, _⟩ := ok
      obtain ⟨od, ho, _⟩ := lookIn_ns hns
      have J : PySem.W.InstAt s.heap a oe D (some od) := ⟨hget, hz.1.trans ec, by unfold PySem.W.notCls; rw [hv] <;> rfl, by rw [hz.2.1, ed]; exact ho⟩
      exact PySem.W.kia_one (PySem.W.kitx_exc T.cl T.hg T.hk T.hs T.ha T.hn T.ht T.hm) I.kIn J e (fun z => nomatch z) fun tk => ⟨.bl b, H, I.kept (t' := tk) fun _ _ z => z, rfl, q⟩
theorem hot_suite {X : Cx} {a : Addr} {oe : Obj} {cls : Value} {d : Option Addr} {pn : List (Addr × Obj)} (hz : L2N.Zn cls d oe) (hf : ∃ vs, oe.data = .fields vs) : HotC (X.suite a ((a, oe) :: pn)) := by
  obtain ⟨vs, hv⟩ := hf
  exact ⟨(a, oe), ⟨rfl, vs, hv, hz.2.2 vs hv⟩, List.mem_cons_self⟩
theorem units_mark {k : Nat} {A : Around} {v : Option Value} (hr : Room k A) : (A.mark v).units + 64 < cLine := hr.units
theorem room_mark {k : Nat} {A : Around} {v : Option Value} (hr : Room k A) : RoomH k (A.mark v) := ⟨hr.dp, hr.un⟩
/-- what a call of f without arguments does, from any state behind (s, H) -/
def Act (P : Program) (w : World) (K : PySem.W.Frag) (mg : Str → Option Value) (base : Heap) (k : Nat) (outer : List Env) (s : Shared) (H : Hp) (f : Addr) (tl : XK → Hp → VK → Prop) : Prop :=
  ∀ (A : Around) (o2 : List Env) (s2 : Shared) (H2 : Hp) (Q : VK) (E : XK), Room k A → Env0 P w K mg base A o2 s2 H2 → Un (frs outer) [] H H2 s.heap s2.heap → tl E H2 Q →
    PySem.W.FnAt f s2.heap ∧ codeAny (model P w) A (.call (.ref f) ⟨[], []⟩) (CR (L2N.CX P w) o2 P w H2 s2 Q E) s2
def tAct (i : Nat) (f : Addr) (W : WX) (tl : XK → Hp → VK → Prop) : TE := fun σ H Q => σ[i]? = some (some (.ref f)) ∧ ∃ E : XK, (∀ cls d H', E cls d H' → W cls d σ H') ∧ tl E H Q
theorem pe_actN {X : Cx} {k i : Nat} {f : Addr} {a : Str} {W : WX} {tl : XK → Hp → VK → Prop} {p q : Pos} (act : Act X.prog X.w X.K X.mg X.base k X.outer X.s_0 X.H_0 f tl) (hr : Room k X.A) (tk : L2N.Takes X W) (hex : X.ex = []) (hN : X.N[i]? = some a) (hv : Vis X.env.scope a)
    (hd : (a == ("__debug__" : Str)) = false := by decide) (hcd : (a == ("__classdict__" : Str)) = false := by decide) : PE X (.Call (.Name a p) [] [] q) (tAct i f W tl) := by
  constructor
  intro pins s σ H Q I h
  obtain ⟨h1, E, hW, ht⟩ := h
  refine wpAny_Call_Name_kw (thn ((pe_var (pos := p) (i := i) hN hv hd hcd).run pins s σ H (fun v H1 => v = .ref f ∧ H1 = H) I ⟨.ref f, h1, rfl, rfl⟩) fun u s1 hu => ?_)
  obtain ⟨v, H1, I1, r1, ev, eH⟩ := hu
  subst ev
  rw [eH] at I1
  obtain rfl : u = Value.ref f := r1
  have un : Un (frs X.outer) [] X.H_0 H X.s_0.heap s1.heap := by
    have := I1.base
    rw [hex] at this
    exact this
  obtain ⟨fn, rc⟩ := act X.A X.stack s1 H Q E hr I1.env0 un ht
  refine PySem.W.callWith_F0 fn (wpAny_call (codeAny_mono rc fun r s' hq => ?_))
  cases r with
  | error e => exact L2N.passAt (W := W) tk σ pins H s1 e s' I1 (by obtain ⟨a, B, H', cls, d, e1, e2, e3, e4, e5, e6, e7, e8⟩ := hq; exact ⟨a, B, H', cls, d, e1, e2, e3, e4, e5, e6, e7, hW _ _ _ e8⟩)
  | ok fl =>
    cases fl with
    | ret u => exact I1.after hq
    | next => exact False.elim hq
    | brk => exact False.elim hq
    | cont => exact False.elim hq
/-- the class C of the errors that a word names -/
structure ErrW (K : PySem.W.Frag) (CE Ck Cr Cw Ct : Addr) (z : Str) (C : Addr) (fl : Str) : Prop where
  ex : PySem.W.exmOne K (.ref C) (.ref CE) = some true
  xc : ExcK K C
  xf : XfC K C
  n1 : PySem.W.findIn K (.ref C) "why" = some none
  n2 : PySem.W.findIn K (.ref C) "at" = some none
  k0 : PySem.W.kitOne K (.ref C) (.ref Ck) = some (decide (z = "knob"))
  k1 : PySem.W.kitOne K (.ref C) (.ref Cr) = some (decide (z = "reader"))
  k2 : PySem.W.kitOne K (.ref C) (.ref Cw) = some (decide (z = "row"))
  k3 : PySem.W.kitOne K (.ref C) (.ref Ct) = some (decide (z = "text"))
  kv : PySem.W.kitOne K (.ref C) (.type "ValueError") = some true
  fld : fl = if z = "knob" ∨ z = "reader" then "why" else "at"
def tRef (C : Addr) (fl : Str) (v : V) (tl : XK → Hp → VK → Prop) (H : Hp) (Q : VK) : Prop :=
  tl (fun cls d H' => cls = .ref C ∧ ∃ dd, d = some dd ∧ H' dd = some (.xd [(fl, v)]) ∧ ∀ H'', Same H' H'' → Q (.bl true) H'') H (fun _ H' => Q (.bl false) H')
/-- what _law_refused promises -/
def RefOk (P : Program) (w : World) (K : PySem.W.Frag) (mg : Str → Option Value) (base : Heap) (CE Ck Cr Cw Ct : Addr) (k : Nat) (g : Addr) (fd : FuncData) (ps : List Str) : Prop :=
  ∀ (A : Around) (outer : List Env) (s : Shared) (H : Hp) (args : Args) (us : List Value) (f C : Addr) (z fl : Str) (v : V) (Q : VK) (tl : XK → Hp → VK → Prop), Room (k + 1) A → Env0 P w K mg base A outer s H → BindsTo s fd args (ps.zip us) → Vals [.ref f, .str z, v] us →
    ((∃ n, v = .int n) ∨ ∃ y, v = .str y) → ErrW K CE Ck Cr Cw Ct z C fl → Act P w K mg base k outer s H f tl → tRef C fl v tl H Q → codeAny (model P w) A (.call (.ref g) args) (CR CX0 outer P w H s Q E0) s
theorem takesN0 {X : Cx} : L2N.Takes X (fun _ _ _ _ => False) := fun _ _ x => by
  obtain ⟨_, _, _, _, _, _, _, _, _, _, _, _, _, _, _, _, z⟩ := x
  exact z.elim
theorem sc_refd : FnScope ["_law_work", "_law_word", "_law_value", "e", "_law_kinds", "_law_words", "_law_one"] ["_law_work", "_law_word", "_law_value"] (defScope (top 35)) := ⟨rfl, rfl, rfl, by decide +kernel, rfl, by decide +kernel, by decide +kernel⟩
set_option maxHeartbeats 4000000 in
theorem ok_refd {f CE Ck Cr Cw Ct : Addr} {fd : FuncData} {k : Nat} (F : Fun K "_law_refused" "_law_refused" (top 35) f fd) (n_isinstance : mg "isinstance" = none) (n_ValueError : mg "ValueError" = none) (ge : mg "KnobError" = some (.ref CE)) (gk : mg "BadKnob" = some (.ref Ck)) (gr : mg "BadReader" = some (.ref Cr))
    (gw : mg "BadRow" = some (.ref Cw)) (gt : mg "BadText" = some (.ref Ct)) {fa : Addr} {fda : FuncData} (al : FnH P w K mg base CX0 1 fa fda ["_law_found", "_law_due"] spAlikeH) (ga : mg "_law_alike" = some (.ref fa)) (ka : PySem.W.keepIn K (.ref fa) = true) (ba : Binds K fda ["_law_found", "_law_due"] []) :
    RefOk P w K mg base CE Ck Cr Cw Ct (k + 2) f fd ["_law_work", "_law_word", "_law_value"] := by
  intro A outer s H args us fw C z fl v Q tl hr e0 hb rv hv ew hact ht
  have sc := sc_refd
  obtain ⟨oc, od, kV, doc, pm, an, cdv, ct, osl, rfl, lk, hcd⟩ := F.ex
  refine LamX.run_ofS (k := k + 2) lk hcd sc hr e0 hb rv rfl fun hr => ?_
  have nm_KnobError : Names (cxOf CX0 P w K mg base ["_law_work", "_law_word", "_law_value", "e", "_law_kinds", "_law_words", "_law_one"] "_law_refused" (defScope (top 35)) f cdv A outer s H E0).nox "KnobError" (.ref CE) := ⟨rfl, by decide, .inl ge⟩
  refine ⟨_, PSs.nox (pss_cons (L2N.ps_try_as (i := 3) rfl rfl sc.nd rfl rfl nm_KnobError takesN0 (fun W pn xe tk _ => (pss_one (ps_expr (pe_actN (i := 0) hact (hr.mono (by first | decide | omega)) tk rfl rfl (Or.inl rfl)))))
(fun a oe cls d pn hz hf => (pss_cons (ps_set (i := 4) sc.nd rfl (Or.inl rfl) (pe_lst (pa_cons (pe_callB (r := rIsX K a cls d) (call_isX hz hf) (by rfl) n_isinstance (by decide +kernel) (pa_cons (pv 3) (pa_cons (pe_glob (v := .ref Ck) rfl gk rfl) pa_nil))) (pa_cons (pe_callB (r := rIsX K a cls d) (call_isX hz hf) (by rfl) n_isinstance (by decide +kernel) (pa_cons (pv 3) (pa_cons (pe_glob (v := .ref Cr) rfl gr rfl) pa_nil))) (pa_cons (pe_callB (r := rIsX K a cls d) (call_isX hz hf) (by rfl) n_isinstance (by decide +kernel) (pa_cons (pv 3) (pa_cons (pe_glob (v := .ref Cw) rfl gw rfl) pa_nil))) (pa_cons (pe_callB (r := rIsX K a cls d) (call_isX hz hf) (by rfl) n_isinstance (by decide +kernel) (pa_cons (pv 3) (pa_cons (pe_glob (v := .ref Ct) rfl gt rfl) pa_nil))) pa_nil))))))
(pss_cons (ps_set (i := 5) sc.nd rfl (Or.inl rfl) (pe_lst (pa_cons pe_str (pa_cons pe_str (pa_cons pe_str (pa_cons pe_str pa_nil))))))
(pss_cons (ps_if (PW.pt (pw_or (pt_not (pt_val (pe_callB (r := rIsX K a cls d) (call_isX hz hf) (by rfl) n_isinstance (by decide +kernel) (pa_cons (pv 3) (pa_cons (pe_bltn (v := .ty "ValueError") (by rfl) n_ValueError (by decide +kernel) rfl) pa_nil))))) (pw_or1 (pt_cmpR (r := rNeD K) (op_neD (units_mark hr)) (pv 4) (HotL.pe_lcH (wi := iList K (tVar 5)) (X := ((cxOf CX0 P w K mg base ["_law_work", "_law_word", "_law_value", "e", "_law_kinds", "_law_words", "_law_one"] "_law_refused" (defScope (top 35)) f cdv A outer s H E0).nox).suite a ((a, oe) :: pn)) (own := [("_law_one", 6)]) (g := gName 6) (hot_suite hz hf) sc.nd (HotL.pi_listH (X := ((cxOf CX0 P w K mg base ["_law_work", "_law_word", "_law_value", "e", "_law_kinds", "_law_words", "_law_one"] "_law_refused" (defScope (top 35)) f cdv A outer s H E0).nox).suite a ((a, oe) :: pn)) (pv 5)) (blkOk_by (own := [("_law_one", 6)]) (N := ["_law_work", "_law_word", "_law_value", "e", "_law_kinds", "_law_words", "_law_one"]) (sc := defScope (top 35)) (by decide +kernel)) (fun _ _ _ _ _ => (pg_name (i := 6) sc.nd rfl (Or.inl rfl))) (fun _ _ _ _ _ => pts_nil) (fun _ _ _ _ _ => (pe_cmpR op_eq (pv 1) (pv 6) (nomark _)))) (nomark _)))))
(pss_one (ps_ret pe_bl))
pss_nil)
(pss_one (ps_ret (pe_callH (E := fun _ => E0) al (RoomH.mono (room_mark hr) (by omega)) (hot_suite hz hf) (by rfl) ga ka ba (fun _ _ _ _ _ _ _ h => h.elim) (pa_cons (pe_ifExp (pt_cmpR (r := rIn K false) op_in_seq (pv 1) (pe_tup (pa_cons pe_str (pa_cons pe_str pa_nil))) (by rfl)) (pe_xf (C := C) ew.xf ew.n1 hz.zc hf (pv 3)) (pe_xf (C := C) ew.xf ew.n2 hz.zc hf (pv 3))) (pa_cons (pv 2) pa_nil))))))))))
(pss_one (ps_ret pe_bl))), ?_⟩
  refine ⟨rfl, _, fun cls d H1 hE => ?_, ht⟩
  obtain ⟨rfl, dd, rfl, hdd, kk⟩ := hE
  refine ⟨true, ew.ex, fun _ a ha => ?_, fun z => nomatch z⟩
  have rc : ∀ {D : Addr} (u : Value), RelV (.ref D) u → u = .ref D := fun u h => h
  refine e_isx rfl ew.xc hdd rc ew.k0 (e_isx rfl ew.xc hdd rc ew.k1 (e_isx rfl ew.xc hdd rc ew.k2 (e_isx rfl ew.xc hdd rc ew.k3 ⟨by show 4 ≤ sizeLine; rw [sizeLine_eq]; omega, fun p1 hp1 => ?_⟩)))
  have nd1 : dd ≠ p1 := fun z => by rw [z, hp1] at hdd; cases hdd
  have sm1 := same_new hp1 (o := .lst [.bl (decide (z = "knob")), .bl (decide (z = "reader")), .bl (decide (z = "row")), .bl (decide (z = "text"))])
  refine ⟨by show 4 ≤ sizeLine; rw [sizeLine_eq]; omega, fun p2 hp2 => ?_⟩
  have sm2 := sm1.trans (same_new hp2 (o := .lst [.str "knob", .str "reader", .str "row", .str "text"]))
  have hK : upd (upd H1 p1 (.lst [.bl (decide (z = "knob")), .bl (decide (z = "reader")), .bl (decide (z = "row")), .bl (decide (z = "text"))])) p2 (.lst [.str "knob", .str "reader", .str "row", .str "text"]) p1 = some (.lst [.bl (decide (z = "knob")), .bl (decide (z = "reader")), .bl (decide (z = "row")), .bl (decide (z = "text"))]) := by
    rw [upd_ne (fun e => by rw [← e, upd_same] at hp2; cases hp2), upd_same]
  have hW := upd_same (H := upd H1 p1 (.lst [.bl (decide (z = "knob")), .bl (decide (z = "reader")), .bl (decide (z = "row")), .bl (decide (z = "text"))])) (a := p2) (o := .lst [.str "knob", .str "reader", .str "row", .str "text"])
  generalize upd (upd H1 p1 (.lst [.bl (decide (z = "knob")), .bl (decide (z = "reader")), .bl (decide (z = "row")), .bl (decide (z = "text"))])) p2 (.lst [.str "knob", .str "reader", .str "row", .str "text"]) = H3 at sm2 hK hW ⊢
  have hd3 := sm2 _ _ hdd
  refine t_isx (cv := .type "ValueError") rfl ew.xc hd3 (fun u h => h) ew.kv (iteF ⟨_, rfl, _, rfl, p2, rfl, ⟨_, SqL.of hW⟩, fun D hD => ?_⟩)
  refine lc_list (xs := [.str "knob", .str "reader", .str "row", .str "text"]) (fun i H' => Same H3 H' ∧ H' D = some (.lst (([.str "knob", .str "reader", .str "row", .str "text"] : List V).take i |>.map fun y => V.bl (decide (V.str z = y))))) ⟨same_new hD, upd_same⟩ (fun i H' _ h => SqL.of (h.1 _ _ hW)) ?_ ?_
  · rintro i x H' hx ⟨s1, hD1⟩
    have hi : i < 4 := by
      by_cases hi : i < 4
      · exact hi
      · rw [List.getElem?_eq_none (by simpa using hi)] at hx
        cases hx
    obtain ⟨y, rfl⟩ : ∃ y, x = .str y := by
      have hm := List.mem_of_getElem? hx
      simp only [List.mem_cons, List.not_mem_nil, or_false] at hm
      rcases hm with e | e | e | e <;> exact ⟨_, e⟩
    refine ⟨rfl, _, rfl, _, rfl, rfl, _, hD1, ?_, (fun b o e => ?_), ?_⟩
    · rw [sizeLine_eq]
      simp
      omega
    · rw [upd_ne (ne_of_none e hD)]
      exact s1 b o e
    · rw [upd_same, List.take_add_one, hx]
      simp
  · rintro H4 ⟨s4, hD4⟩
    have eD : (([.str "knob", .str "reader", .str "row", .str "text"] : List V).take 4 |>.map fun y => V.bl (decide (V.str z = y))) = [.bl (decide (z = "knob")), .bl (decide (z = "reader")), .bl (decide (z = "row")), .bl (decide (z = "text"))] := by simp
    have hD5 : H4 D = some (.lst [.bl (decide (z = "knob")), .bl (decide (z = "reader")), .bl (decide (z = "row")), .bl (decide (z = "text"))]) := by rw [← eD]; exact hD4
    refine ⟨.list [.bool (decide (z = "knob")), .bool (decide (z = "reader")), .bool (decide (z = "row")), .bool (decide (z = "text"))], .list [.bool (decide (z = "knob")), .bool (decide (z = "reader")), .bool (decide (z = "row")), .bool (decide (z = "text"))],
      .lst (SqL.of (s4 _ _ hK)) (.cons (.bl _) (.cons (.bl _) (.cons (.bl _) (.cons (.bl _) .nil)))), .lst (SqL.of hD5) (.cons (.bl _) (.cons (.bl _) (.cons (.bl _) (.cons (.bl _) .nil)))), by rfl, by rfl, false, ?_, ?_⟩
    · generalize decide (z = "knob") = b0, decide (z = "reader") = b1, decide (z = "row") = b2, decide (z = "text") = b3
      revert b0 b1 b2 b3
      decide
    · refine iteF ⟨_, rfl, by show 2 ≤ sizeLine; rw [sizeLine_eq]; omega, fun p3 hp3 => ?_⟩
      refine ⟨p3, _, rfl, .inr (SqT.of upd_same), rfl, rfl, _, rfl, ?_⟩
      have s5 := s4.trans (same_new hp3 (o := .tup [.str "knob", .str "reader"]))
      have d5 := s5 _ _ hd3
      have fin : ∀ H'', Same H1 H'' → Q (.bl true) H'' := kk
      by_cases hz : z = "knob" ∨ z = "reader"
      · have e1 : inV (.str z) [.str "knob", .str "reader"] = true := by
          rcases hz with e | e <;> (subst e; decide)
        have ef : fl = "why" := by rw [ew.fld, if_pos hz]
        show if inV (.str z) [.str "knob", .str "reader"] = true then _ else _
        rw [if_pos e1]
        exact ⟨_, rfl, rfl, rfl, dd, _, v, rfl, d5, by rw [ef]; rfl, _, rfl, v, rfl, hv, fin _ (sm2.trans s5)⟩
      · have e1 : ¬ inV (.str z) [.str "knob", .str "reader"] = true := by
          intro h
          have h : (eqV (.str "knob") (.str z) || (eqV (.str "reader") (.str z) || false)) = true := h
          simp [eqV] at h
          rcases h with h | h
          · exact hz (.inl h.symm)
          · exact hz (.inr h.symm)
        have ef : fl = "at" := by rw [ew.fld, if_neg hz]
        show if inV (.str z) [.str "knob", .str "reader"] = true then _ else _
        rw [if_neg e1]
        exact ⟨_, rfl, rfl, rfl, dd, _, v, rfl, d5, by rw [ef]; rfl, _, rfl, v, rfl, hv, fin _ (sm2.trans s5)⟩
end
/-! ### lambdas as values -/
section
open PySem PySem.Spec PyProof.Rows L2 LamX
/-- the function object of a lambda -/
def FunO (f : Addr) (o : Obj) : HO := .ext fun h => h.get? f = some o
theorem funO_ok {P : Program} {w : World} {H : Hp} {h : Heap} {f : Addr} {o : Obj} (e : h.get? f = some o) : ObjOk P w H h f (FunO f o) := ⟨e, ⟨o, e⟩, fun _ _ e1 k => k o e1⟩
/-- f is the lambda (params, body, scope) made in the context X, c its code object -/
def LamAt (X : Cx) (params : Arguments) (body : Expr) (scope : Scope) (f c : Addr) (H : Hp) : Prop :=
  H c = some (CodeO c (X.env.qual ++ "<lambda>")) ∧ ∃ pm ctv : Value, H f = some (FunO f (PySem.W.kla_obj "<lambda>" (X.env.qual ++ "<lambda>") params body scope (cloFrom X.env.cells scope.names []) pm c ctv))
theorem LamAt.ext {X : Cx} {params : Arguments} {body : Expr} {scope : Scope} {f c : Addr} {H H' : Hp} (l : LamAt X params body scope f c H) (s : Same H H') : LamAt X params body scope f c H' := by
  obtain ⟨h1, pm, ctv, h2⟩ := l
  exact ⟨s _ _ h1, pm, ctv, s _ _ h2⟩
def tLamV (X : Cx) (T : List (Addr × Str)) (params : Arguments) (body : Expr) (scope : Scope) : TE := fun _ H Q => Tabs T H ∧ ∀ (f c : Addr) (H1 : Hp), ExtN H H1 → Tabs T H1 → LamAt X params body scope f c H1 → Q (.ref f) H1
theorem funO_ne {f : Addr} {o : Obj} (ps : Array Value) : FunO f o ≠ .tbl ps := fun z => by
  unfold FunO at z
  cases z
/-- lambda: body -/
theorem pe_lam {X : Cx} {T : List (Addr × Str)} {c P : Addr} {params : Arguments} {body : Expr} {scope : Scope} {pos : Pos} (TB : TabB X.base X.mg c P) (hcode : X.env.code = .ref c) (hm : (P, X.env.qual ++ "<lambda>") ∈ T) (hu : ∀ p ∈ T, p.1 = P → p.2 = X.env.qual ++ "<lambda>")
    (L : LamS X.env.scope scope) (hdef : defaultsOf params X.env = ([], [])) : PE X (.Lambda params body scope pos) (tLamV X T params body scope) := by
  constructor
  intro pins s σ H Q I h
  obtain ⟨hT, h⟩ := h
  obtain ⟨ps, hP, ht, ha⟩ := hT _ hm
  have bP : s.heap.BuiltinsAt X.mg P := TB.bm.keeps I.bk
  have gP : s.heap.get? P = some { cls := .none, data := .fields ps } := I.hok P _ hP
  refine PySem.W.kla_eval hdef ?_
  cases hc : codeAmong pos ps.toList with
  | none =>
    refine PySem.W.kla_makeFunction (mg := X.mg) (c := c) (P := P) (ps := ps) (closure_ok (L.has I.ok)) I.ok.glob (I.mod.glob.keeps I.bk) hcode (TB.code.keeps I.bk) gP ht hc TB.gP bP fun c' ctv h' tk hx hge hlt hrec htb => ?_
    obtain ⟨c2, oc, vs, t, e2, hoc, hd, hv⟩ := hrec
    cases e2
    have nC : H c' = none := I.hok.fresh hge
    have J := inv_table (t' := tk) (more := #[rawInt pos.line, rawInt pos.col, .ref c']) (h' := h') I hP hx htb hge ⟨oc, vs, t, hoc, hd, hv⟩
    have nF : upd (upd H P (.tbl (ps ++ #[rawInt pos.line, rawInt pos.col, .ref c']))) c' (CodeO c' (X.env.qual ++ "<lambda>")) h'.objs.size = none := J.hok.fresh (Nat.le_refl _)
    have J2 := J.laid (a := h'.objs.size) (t' := tk) (o := FunO h'.objs.size (PySem.W.kla_obj "<lambda>" (X.env.qual ++ "<lambda>") params body scope (cloFrom X.env.cells scope.names []) ((X.mg "__name__").getD .none) c' ctv))
      (h' := h'.push (PySem.W.kla_obj "<lambda>" (X.env.qual ++ "<lambda>") params body scope (cloFrom X.env.cells scope.names []) ((X.mg "__name__").getD .none) c' ctv)) (fun b o e => Heap.get?_push_of_some _ e) (Nat.le_refl _) (funO_ok (Heap.get?_push_size _ rfl))
    have x1 : ExtN H (upd (upd H P (.tbl (ps ++ #[rawInt pos.line, rawInt pos.col, .ref c']))) c' (CodeO c' (X.env.qual ++ "<lambda>"))) := fun b o e n => by
      rw [upd_ne (ne_of_none e nC), upd_ne (fun z => n ps (Option.some.inj (e.symm.trans (by rw [z]; exact hP))))]
      exact e
    have T1 : Tabs T (upd (upd H P (.tbl (ps ++ #[rawInt pos.line, rawInt pos.col, .ref c']))) c' (CodeO c' (X.env.qual ++ "<lambda>"))) := fun p hp => by
      by_cases hb : p.1 = P
      · rw [hu p hp hb, hb]
        have eL : (ps ++ #[rawInt pos.line, rawInt pos.col, .ref c']).toList = ps.toList ++ [rawInt pos.line, rawInt pos.col, .ref c'] := by simp
        refine ⟨_, by rw [upd_ne (ne_of_none hP nC), upd_same], by rw [eL]; exact PySem.TriplesOk_snoc _ _ _ _ ht, fun p' cv hcv => ?_⟩
        rw [eL] at hcv
        rcases among_app _ ht hcv with z | z
        · obtain ⟨c0, e1, e2⟩ := ha p' cv z
          exact ⟨c0, e1, x1 _ _ e2 codeO_ne⟩
        · exact ⟨c', z, upd_same⟩
      · obtain ⟨ps', a1, a2, a3⟩ := hT p hp
        refine ⟨ps', by rw [upd_ne (ne_of_none a1 nC), upd_ne hb]; exact a1, a2, fun p' cv hcv => ?_⟩
        obtain ⟨c0, e1, e2⟩ := a3 p' cv hcv
        exact ⟨c0, e1, x1 _ _ e2 codeO_ne⟩
    have x2 := same_new nF (o := FunO h'.objs.size (PySem.W.kla_obj "<lambda>" (X.env.qual ++ "<lambda>") params body scope (cloFrom X.env.cells scope.names []) ((X.mg "__name__").getD .none) c' ctv))
    exact ⟨.ref h'.objs.size, _, J2, rfl, h _ c' _ (x1.trans (ExtN.of x2)) (T1.ext x2) ⟨x2 _ _ upd_same, _, _, upd_same⟩⟩
  | some cv =>
    obtain ⟨c', e, hco⟩ := ha pos cv hc
    subst e
    refine PySem.W.kla_makeFunctionHit (mg := X.mg) (c := c) (P := P) (ps := ps) (closure_ok (L.has I.ok)) I.ok.glob (I.mod.glob.keeps I.bk) hcode (TB.code.keeps I.bk) gP ht hc bP fun ctv h' tk hx hsz => ?_
    have J : Inv X pins σ H { s with heap := h', toks := tk } := I.kept hx
    have nF : H h'.objs.size = none := J.hok.fresh (Nat.le_refl _)
    have J2 := J.laid (a := h'.objs.size) (t' := tk) (o := FunO h'.objs.size (PySem.W.kla_obj "<lambda>" (X.env.qual ++ "<lambda>") params body scope (cloFrom X.env.cells scope.names []) ((X.mg "__name__").getD .none) c' ctv))
      (h' := h'.push (PySem.W.kla_obj "<lambda>" (X.env.qual ++ "<lambda>") params body scope (cloFrom X.env.cells scope.names []) ((X.mg "__name__").getD .none) c' ctv)) (fun b o e => Heap.get?_push_of_some _ e) (Nat.le_refl _) (funO_ok (Heap.get?_push_size _ rfl))
    have x2 := same_new nF (o := FunO h'.objs.size (PySem.W.kla_obj "<lambda>" (X.env.qual ++ "<lambda>") params body scope (cloFrom X.env.cells scope.names []) ((X.mg "__name__").getD .none) c' ctv))
    exact ⟨.ref h'.objs.size, _, J2, rfl, h _ c' _ (ExtN.of x2) (hT.ext x2) ⟨x2 _ _ hco, _, _, upd_same⟩⟩
/-- the context of a lambda's body -/
def lamN (X : Cx) (A : Around) (outer : List Env) (s : Shared) (H : Hp) (E : XK) (scope : Scope) (f c : Addr) : Cx :=
  { lamCx X A outer s H E scope f c with xe := fun e s' => wpAny (model X.prog X.w) (A.deeper (lamEnv X scope s.heap.objs.size f c)) (leaving (lamEnv X scope s.heap.objs.size f c) e) (fun _ s'' => L2N.CX X.prog X.w outer H s E e s'') (fun e' s'' => L2N.CX X.prog X.w outer H s E e' s'') s' }
theorem inv_lamN {X : Cx} {A : Around} {outer : List Env} {s s1 : Shared} {H H1 : Hp} {E : XK} {scope : Scope} {f c : Addr} {pins : List (Addr × Obj)} {σ : L2.St} (I : Inv (lamCx X A outer s H E scope f c) pins σ H1 s1) : Inv (lamN X A outer s H E scope f c) pins σ H1 s1 := by
  obtain ⟨k, h1, h2, h3, h4, h5, h6, h7, h8, h9, h10⟩ := I
  exact ⟨⟨k.mod, k.kind, k.glob, k.blt, k.above, k.inj, k.has, k.cab, k.hd, k.frames, k.stk, k.exf, k.bs, k.bsz, k.noex, k.exfs, k.funs, k.frf⟩, h1, h2, h3, h4, h5, h6, h7, h8, h9, h10⟩
/-- the lambda called, while the def that made it stands -/
theorem lam_act {X : Cx} {pins : List (Addr × Obj)} {σ : L2.St} {H : Hp} {s : Shared} {params : Arguments} {body : Expr} {scope : Scope} {f c : Addr} {k : Nat} {t : XK → TE} (I : Inv X pins σ H s) (L : LamS X.env.scope scope)
    (hbind : ∀ (q : Str) (cl : List (Str × Addr)) (pm cv ctv : Value), bindArgs (PySem.W.kla_fn "<lambda>" q params body scope cl pm cv ctv) ⟨[], []⟩ = pure [])
    (hbody : ∀ (A : Around) (outer : List Env) (s : Shared) (H : Hp) (E : XK) (f c : Addr), Room k (A.deeper (lamEnv X scope s.heap.objs.size f c)) → PE (lamN X A outer s H E scope f c) body (t E)) :
    Act X.prog X.w X.K X.mg X.base (k + 1) X.stack s H f (fun E H2 Q => LamAt X params body scope f c H2 ∧ t E σ H2 Q) := by
  intro A o2 s2 H2 Q E hr e0 un ht
  obtain ⟨⟨hc, pm, ctv, hf⟩, ht⟩ := ht
  have okf : ObjOk X.prog X.w H2 s2.heap f (FunO f _) := e0.hok f _ hf
  have gf := okf.1
  have okc : ObjOk X.prog X.w H2 s2.heap c (CodeO c _) := e0.hok c _ hc
  obtain ⟨oc, vs, tq, hoc, hdc, hvc⟩ := okc.1
  have lim : s2.heap.NoLimit := e0.mod.nolimit.keeps fun b o e => (e0.bs b o e).1
  refine ⟨⟨_, _, _, _, gf⟩, ?_⟩
  refine PySem.W.kla_callFunE hr.depth gf rfl L.co L.gen rfl ⟨c, oc, vs, tq, rfl, hoc, hdc, hvc⟩ ?_
  have eb := hbind (X.env.qual ++ "<lambda>") (cloFrom X.env.cells scope.names []) pm (.ref c) ctv
  rw [show bindArgs _ ⟨[], []⟩ = pure [] from eb]
  refine wpAny_pure (wpAny_newFunctionEnv (fun y hy => (L.own y hy).2) (fun y hy => absurd hy (by simp)) (fun h₁ hns hsb => ⟨lim.fresh _ hsb, ?_⟩) L.kind)
  show codeAny _ _ (.expr body (lamEnv X scope s2.heap.objs.size f c)) _ _
  have kp : ∀ b o, s2.heap.get? b = some o → h₁.get? b = some o := fun b o e => hsb.extBut b o (Nat.ne_of_lt (Heap.lt_size e)) (Heap.get?_push_of_some _ e)
  have J := inv_lamN (lam_start2 (E := E) (f := f) (c' := c) (tk := s2.toks + ([] : List (Str × Value)).length) I L e0 hr.hd un hns kp)
  refine PySem.W.kla_codeExpr (wpAny_mono ((hbody _ _ s2 H2 E f c (hr.deeper _)).run [] _ _ H2 Q J ht) (fun v s' hq => ?_) fun e s' hq => hq)
  obtain ⟨w', H', J', rv, q⟩ := hq
  exact ⟨w', H', J'.os, J'.bare, J'.base, J'.hok, rv, q⟩
/-- _law_refused(e1, e2, e3) -/
def tRefC (X : Cx) (CE Ck Cr Cw Ct : Addr) (k : Nat) (ta : TA) : TE := fun σ H Q => ta σ H fun vs H1 => ∃ (f C : Addr) (z fl : Str) (v : V) (tl : XK → Hp → VK → Prop), vs = [.ref f, .str z, v] ∧ ((∃ n, v = .int n) ∨ ∃ y, v = .str y) ∧ ErrW X.K CE Ck Cr Cw Ct z C fl ∧
  (∀ (pins : List (Addr × Obj)) (s : Shared), Inv X pins σ H1 s → Act X.prog X.w X.K X.mg X.base k X.stack s H1 f tl) ∧ tRef C fl v tl H1 Q
theorem pe_refd {X : Cx} {CE Ck Cr Cw Ct g : Addr} {fd : FuncData} {k : Nat} {ps : List Str} {x : Str} {e : Expr} {es : List Expr} {ta : TA} {p pos : Pos} (R : RefOk X.prog X.w X.K X.mg X.base CE Ck Cr Cw Ct k g fd ps) (hr : Room (k + 1) X.A) (hm : X.mg x = some (.ref g)) (hk : PySem.W.keepIn X.K (.ref g) = true) (hb : Binds X.K fd ps []) (h3 : ps.length = 3)
    (ha : PA X (e :: es) ta) (hg : Gl X x := by rfl) (hdb : (x == ("__debug__" : Str)) = false := by decide) (he : starEach (e :: es) X.env = (false, eval e X.env) :: starEach es X.env := by rfl) (hpl : (backTo pos (starEach es X.env)).any (·.1) = false := by rfl) :
    PE X (.Call (.Name x p) (e :: es) [] pos) (tRefC X CE Ck Cr Cw Ct k ta) := by
  constructor
  intro pins s σ H Q I h
  refine wpAny_Call_Name_kw (ld_glob I hg hm ?_ hdb)
  refine PySem.W.callWith_K (h₀ := X.base) I.ok.mod.kin hk (thn (ha.run pos pins s σ H _ I h) fun us s1 hu => ?_) he hpl
  obtain ⟨vs, H1, I1, r, f, C, z, fl, v, tl, rfl, hv, ew, act, q⟩ := hu
  refine ⟨I1.kIn, ?_⟩
  have b := hb s1 us I1.kIn (by rw [List.append_nil, ← r.length, h3]; rfl)
  rw [List.append_nil] at b
  refine wpAny_call (codeAny_mono (R X.A X.stack s1 H1 ⟨us, []⟩ us f C z fl v Q tl hr I1.env0 b r hv ew (act pins s1 I1) q) fun r s' hq => ?_)
  cases r with
  | error e => exact (show False from hq).elim
  | ok fl =>
    cases fl with
    | ret u => exact I1.after hq
    | next => exact False.elim hq
    | brk => exact False.elim hq
    | cont => exact False.elim hq
end
/-! ### the law -/
section
open LamX
theorem Tabs.frm {T : List (Addr × Str)} {H H' : Hp} {ps : List Addr} (t : Tabs T H) (f : Frm ps H H') (l : ∀ p ∈ ps, ∃ xs, H p = some (.lst xs)) : Tabs T H' := fun p hp => by
  obtain ⟨q, h1, h2, h3⟩ := t p hp
  have nl : ∀ b o, H b = some o → (∀ xs, o ≠ .lst xs) → H' b = some o := fun b o e n => f b o (fun hb => by
    obtain ⟨xs, z⟩ := l b hb
    rw [e] at z
    exact n xs (Option.some.inj z)) e
  refine ⟨q, nl _ _ h1 (fun xs z => by cases z), h2, fun pos cv hc => ?_⟩
  obtain ⟨c, e1, e2⟩ := h3 pos cv hc
  exact ⟨c, e1, nl _ _ e2 fun xs z => by unfold CodeO at z; cases z⟩
theorem Tabs.frm1 {T : List (Addr × Str)} {H H' : Hp} {d : Addr} {xs : List V} (t : Tabs T H) (f : Frm [d] H H') (h : H d = some (.lst xs)) : Tabs T H' := Tabs.frm t f fun p hp => by
  obtain rfl := List.mem_singleton.mp hp
  exact ⟨xs, h⟩
end
section
open PySem PySem.Spec PyProof.Rows L2
theorem okC {P : Program} {w : World} {K : PySem.W.Frag} {mg : Str → Option Value} {base : Heap} {x qual : Str} {st : Stmt} {f : Addr} {N ps : List Str} {k : Nat} {sp : Sp} {oc kV doc pm cdv ct : Value} {od an : Option Addr} {osl : Array (Option Value)}
    (lk : K.lookup f = some ⟨oc, od, .func (PySem.W.fnOf x qual (defArgs st) (defBody st) (defScope st) .none kV doc pm an cdv ct), osl⟩) (hcd : PySem.W.codeIn K cdv qual = true) (S : FnScope N ps (defScope st)) (len : ∀ vs H Q E, sp vs H Q E → vs.length = ps.length)
    (hb : ∀ (A : Around) (outer : List Env) (s : Shared) (H : Hp) (vs : List V) (Q : VK) (E : XK), Room k (A.deeper (envOfC qual (defScope st) s.heap.objs.size f cdv)) → sp vs H Q E →
      ∃ t, PSs (cxOf CX0 P w K mg base N qual (defScope st) f cdv A outer s H E).nox (defBody st) t ∧ t { nx := fun _ H' => Q .non H', rt := Q } (L2.start N vs) H) : FnOk P w K mg base CX0 (k + 1) f (PySem.W.fnOf x qual (defArgs st) (defBody st) (defScope st) .none kV doc pm an cdv ct) ps sp := by
  refine fn_of lk hcd S len fun A outer s H vs Q E hr hsp => ?_
  obtain ⟨t, h, q⟩ := hb A outer s H vs Q E hr hsp
  exact ⟨t, h.nox, q⟩
end
def spLaw (K : PySem.W.Frag) (T : List (Addr × Str)) : Sp := fun vs H Q _ => ∃ (a : Addr) (ns : List Int), vs = [.ref a] ∧ SqL K H a (ns.map V.int) ∧ ns.length ≤ 63 ∧ LamX.Tabs T H ∧ ∀ H', Q (.bl true) H'
section
variable {K : PySem.W.Frag} {H H' : Hp} {a : Addr}
theorem sql_extN {xs : List V} (e : LamX.ExtN H H') (h : SqL K H a xs) : SqL K H' a xs := by
  rcases h with (h | ⟨o, h⟩) | h
  · exact .inl (.inl (e _ _ h fun _ z => by cases z))
  · exact .inl (.inr ⟨o, e _ _ h fun _ z => by cases z⟩)
  · exact .inr h
theorem sqt_extN {xs : List V} (e : LamX.ExtN H H') (h : SqT K H a xs) : SqT K H' a xs := by
  rcases h with (h | ⟨o, h⟩) | h
  · exact .inl (.inl (e _ _ h fun _ z => by cases z))
  · exact .inl (.inr ⟨o, e _ _ h fun _ z => by cases z⟩)
  · exact .inr h
mutual
theorem dp_extN (e : LamX.ExtN H H') : ∀ {v : V} {d : PyData}, Dp K H v d → Dp K H' v d
  | _, _, .non => .non
  | _, _, .bl b => .bl b
  | _, _, .int i => .int i
  | _, _, .str x => .str x
  | _, _, .lst h t => .lst (sql_extN e h) (dpa_extN e t)
  | _, _, .tup h t => .tup (sqt_extN e h) (dpa_extN e t)
theorem dpa_extN (e : LamX.ExtN H H') : ∀ {vs : List V} {ds : List PyData}, DpAll K H vs ds → DpAll K H' vs ds
  | _, _, .nil => .nil
  | _, _, .cons h t => .cons (dp_extN e h) (dpa_extN e t)
end
end
/-! ### lambdas that outlive the def that made them -/
section
open PySem PySem.Spec PyProof.Rows L2 LamX NdefX
/-- a cell that no running frame holds, and what lies in it -/
def CellO (a : Addr) (v : V) : HO := .ext fun h => ∃ u, L2.RelV v u ∧ h.IsCell a (some u)
theorem cellO_ne {a : Addr} {v : V} (ps : Array Value) : CellO a v ≠ .tbl ps := fun z => by
  unfold CellO at z
  cases z
theorem cellO_ok {P : Program} {w : World} {H : Hp} {h : Heap} {a : Addr} {v : V} {u : Value} (r : L2.RelV v u) (c : h.IsCell a (some u)) : ObjOk P w H h a (CellO a v) := by
  obtain ⟨o, ho, hd⟩ := c
  exact ⟨⟨u, r, o, ho, hd⟩, ⟨o, ho⟩, fun h1 h2 ⟨u2, r2, o2, e2, d2⟩ k => ⟨u2, r2, o2, k o2 e2, d2⟩⟩
theorem hok_track {P : Program} {w : World} {H : Hp} {h : Heap} {a : Addr} {o : HO} (x : HOk P w H h) (n : H a = none) (new : ObjOk P w (upd H a o) h a o) : HOk P w (upd H a o) h := fun b u e => by
  by_cases hb : b = a
  · rw [hb, upd_same] at e
    cases e
    rw [hb]
    exact new
  · rw [upd_ne hb] at e
    exact (x b u e).stay (fun _ _ _ z => z) (fun c z => by rw [upd_ne (ne_of_none z n)]; exact z) fun c ys z => by rw [upd_ne (ne_of_none z n)]; exact z
theorem un_track {fs : List Addr} {H0 H : Hp} {h0 h : Heap} {a : Addr} {o : HO} (u : Un fs [] H0 H h0 h) (n : H a = none) (hs : h0.objs.size ≤ a) : Un fs [] H0 (upd H a o) h0 h where
  keep := u.keep
  slot := u.slot
  free := fun b ob e nb hx => by
    rw [upd_ne (Nat.ne_of_lt (Nat.lt_of_lt_of_le (Heap.lt_size e) hs))]
    exact u.free b ob e nb hx
  there := u.there
  tups := fun b ys e => by
    have z := u.tups b ys e
    rw [upd_ne (ne_of_none z n)]
    exact z
  frzs := fun b ob ys e => by
    have z := u.frzs b ob ys e
    rw [upd_ne (ne_of_none z n)]
    exact z
  tbls := fun b ps e => by
    obtain ⟨m, z⟩ := u.tbls b ps e
    exact ⟨m, by rw [upd_ne (ne_of_none z n)]; exact z⟩
/-- the cells of a frame that ends are handed on -/
def Hand (cells : List (Str × Addr)) (Q : Hp → Prop) : List (Str × V) → Hp → Prop
  | [], H => Q H
  | (y, v) :: r, H => ∀ c, cells.lookup y = some c → H c = none → Hand cells Q r (upd H c (CellO c v))
theorem hand_ok {P : Program} {w : World} {fs : List Addr} {h0 h : Heap} {H0 : Hp} {cells : List (Str × Addr)} {Q : Hp → Prop} (inj : ∀ x y c, cells.lookup x = some c → cells.lookup y = some c → x = y) :
    ∀ (zs : List (Str × V)) (H : Hp), HOk P w H h → Un fs [] H0 H h0 h → (zs.map (·.1)).Nodup → (∀ z ∈ zs, ∃ c u, cells.lookup z.1 = some c ∧ H c = none ∧ h0.objs.size ≤ c ∧ L2.RelV z.2 u ∧ h.IsCell c (some u)) → Hand cells Q zs H → ∃ H', HOk P w H' h ∧ Un fs [] H0 H' h0 h ∧ Q H'
  | [], H, x, u, _, _, q => ⟨H, x, u, q⟩
  | (y, v) :: r, H, x, u, nd, a, q => by
    obtain ⟨c, uu, e1, e2, e3, e4, e5⟩ := a (y, v) List.mem_cons_self
    have nd2 := List.nodup_cons.mp (show (y :: r.map (·.1)).Nodup from nd)
    refine hand_ok inj r _ (hok_track x e2 (cellO_ok e4 e5)) (un_track u e2 e3) nd2.2 (fun z hz => ?_) (q c e1 e2)
    obtain ⟨c2, u2, f1, f2, f3, f4, f5⟩ := a z (List.mem_cons_of_mem _ hz)
    have ne : c2 ≠ c := fun e => by
      have e9 := inj z.1 y c (by rw [← e]; exact f1) e1
      exact nd2.1 (by rw [← e9]; exact List.mem_map_of_mem hz)
    exact ⟨c2, u2, f1, by rw [upd_ne ne]; exact f2, f3, f4, f5⟩
/-- rows up to a return, with what the names hold there -/
structure PRs (X : Cx) (ss : List Stmt) (t : (V → L2.St → Hp → Prop) → L2.St → Hp → Prop) : Prop where
  run : ∀ (pins : List (Addr × Obj)) (s : Shared) (σ : L2.St) (H : Hp) (R : V → L2.St → Hp → Prop), Inv X pins σ H s → t R σ H →
    wpAny (model X.prog X.w) X.A (execs ss X.env) (fun fl s' => ∃ u, fl = .ret u ∧ ∃ v σ' H', Inv X pins σ' H' s' ∧ L2.RelV v u ∧ R v σ' H') X.xe s
theorem prs_ret {X : Cx} {e : Expr} {te : TE} {pos : Pos} (h : PE X e te) : PRs X [.Return (some e) pos] (fun R σ H => te σ H fun v H' => R v σ H') := by
  constructor
  intro pins s σ H R I q
  refine wpAny_execs_cons (wpAny_Return_some (thn (h.run pins s σ H _ I q) fun u s1 z => ?_))
  obtain ⟨v, H1, I1, r1, q1⟩ := z
  exact ⟨u, rfl, v, σ, H1, I1, r1, q1⟩
theorem prs_cons {X : Cx} {st : Stmt} {ss : List Stmt} {t : TS} {u : (V → L2.St → Hp → Prop) → L2.St → Hp → Prop} (h1 : PS X st t) (h2 : PRs X ss u) : PRs X (st :: ss) (fun R σ H => t { nx := u R, rt := fun _ _ => False } σ H) := by
  constructor
  intro pins s σ H R I q
  refine wpAny_execs_cons (thn (h1.run pins s σ H _ I q) fun fl s1 z => ?_)
  cases fl with
  | next =>
    obtain ⟨σ1, H1, I1, q1⟩ := z
    exact h2.run pins s1 σ1 H1 R I1 q1
  | ret v =>
    obtain ⟨_, _, _, _, _, q1⟩ := z
    exact q1.elim
  | brk =>
    obtain ⟨_, _, _, q1⟩ := z
    exact False.elim q1
  | cont =>
    obtain ⟨_, _, _, q1⟩ := z
    exact False.elim q1
/-- a def that hands on its cells -/
theorem okHand {P : Program} {w : World} {K : PySem.W.Frag} {mg : Str → Option Value} {base : Heap} {x qual : Str} {st : Stmt} {f : Addr} {N ps : List Str} {k : Nat} {sp : Sp} {oc kV doc pm cdv ct : Value} {od an : Option Addr} {osl : Array (Option Value)}
    (lk : K.lookup f = some ⟨oc, od, .func (PySem.W.fnOf x qual (defArgs st) (defBody st) (defScope st) .none kV doc pm an cdv ct), osl⟩) (hcd : PySem.W.codeIn K cdv qual = true) (S : FnScope N ps (defScope st)) (len : ∀ vs H Q E, sp vs H Q E → vs.length = ps.length)
    (hb : ∀ (A : Around) (outer : List Env) (s : Shared) (H : Hp) (vs : List V) (Q : VK) (E : XK), Room k (A.deeper (envOfC qual (defScope st) s.heap.objs.size f cdv)) → sp vs H Q E →
      ∃ t, PRs (cxOf CX0 P w K mg base N qual (defScope st) f cdv A outer s H E) (defBody st) t ∧ t (fun v σ' H' => (∀ x y c, (cellsFrom (s.heap.objs.size + 1) (defScope st).names []).lookup x = some c → (cellsFrom (s.heap.objs.size + 1) (defScope st).names []).lookup y = some c → x = y) →
        ∃ zs : List (Str × Nat × V), (zs.map (·.1)).Nodup ∧ (∀ z ∈ zs, N[z.2.1]? = some z.1 ∧ σ'[z.2.1]? = some (some z.2.2) ∧ (defScope st).names.lookup z.1 = some .cell) ∧
          Hand (cellsFrom (s.heap.objs.size + 1) (defScope st).names []) (Q v) (zs.map fun z => (z.1, z.2.2)) H') (L2.start N vs) H) : FnOk P w K mg base CX0 (k + 1) f (PySem.W.fnOf x qual (defArgs st) (defBody st) (defScope st) .none kV doc pm an cdv ct) ps sp := by
  refine ⟨len, fun A outer s H args us vs Q E hr e0 hbd rv hsp => ?_⟩
  have hK : K.In s.heap := e0.mod.kin.keeps fun b o e => (e0.bs b o e).1
  have hN := e0.mod.nolimit.keeps fun b o e => (e0.bs b o e).1
  have kinds : ∀ y ∈ ps.zip us, (defScope st).names.lookup y.1 = some .local ∨ ((defScope st).names.lookup y.1 = some .cell ∧ ((cellsFrom (s.heap.objs.size + 1) (defScope st).names []).lookup y.1).isSome = true) := fun y hy =>
    (S.par y.1 (List.of_mem_zip (a := y.1) (b := y.2) hy).1).elim .inl fun z => .inr ⟨z, PySem.W.cellsFrom_some _ _ _ (.inl z)⟩
  refine codeAny_call_function hr.depth (hK _ _ lk) rfl S.co S.gen rfl (PySem.W.codeRec_of hK hcd) (hbd _ _ _ _ (wpAny_newFunctionEnv_cells S.kind kinds fun env he s1 ic => ?_))
  subst he
  refine ⟨hN.keeps ic.toInCall.keep, codeAny_func ?_⟩
  obtain ⟨t, ht, hq⟩ := hb A outer s H vs Q E (hr.deeper _) hsp
  refine wpAny_mono (ht.run [] s1 (L2.start N vs) H _ (inv_start S hr.hd e0 (len _ _ _ _ hsp) rv ic) hq) (fun fl s' hs => ?_) fun _ _ z => z
  obtain ⟨u, rfl, v, σ', H', J, ru, q⟩ := hs
  obtain ⟨zs, nd, hz, hh⟩ := q J.ok.inj
  have B : Un (frs outer) [] H H' s.heap s'.heap := J.base
  obtain ⟨H2, g1, g2, g3⟩ := hand_ok (P := P) (w := w) (cells := cellsFrom (s.heap.objs.size + 1) (defScope st).names []) (Q := Q v) J.ok.inj (zs.map fun z : Str × Nat × V => (z.1, z.2.2)) H' J.hok B (by rw [List.map_map]; exact nd) (fun z hzm => by
    obtain ⟨y, hy, rfl⟩ := List.mem_map.mp hzm
    obtain ⟨a1, a2, a3⟩ := hz y hy
    obtain ⟨c, hc⟩ := J.ok.has y.1 (.inl a3)
    obtain ⟨m, _, hl⟩ := J.loc
    obtain ⟨u2, r2, lk2⟩ := hl y.2.1 y.1 y.2.2 a1 a2 (.inr (.inl a3))
    rcases lk2 with ⟨k2, _⟩ | ⟨_, c2, e2, ic2⟩
    · have k2 : (defScope st).names.lookup y.1 = some .local := k2
      rw [a3] at k2
      cases k2
    · exact ⟨c2, u2, e2, J.freeC _ _ e2, J.ok.cab _ _ rfl e2, r2, ic2⟩) hh
  exact ⟨v, H2, J.os, J.bare, g2, g1, ru, g3⟩
/-- f is a lambda (params, body, scope) of the name q, its captured names fr hold vs, in cells that are handed on -/
def Esc (q : Str) (params : Arguments) (body : Expr) (scope : Scope) (fr : List Str) (vs : List V) (f : Addr) (H : Hp) : Prop :=
  ∃ (cl : List (Str × Addr)) (c : Addr) (pm ctv : Value), H c = some (CodeO c q) ∧ H f = some (FunO f (PySem.W.kla_obj "<lambda>" q params body scope cl pm c ctv)) ∧ (∀ x y a, cl.lookup x = some a → cl.lookup y = some a → x = y) ∧ (∀ y a, cl.lookup y = some a → y ∈ fr) ∧ vs.length = fr.length ∧
    ∀ (i : Nat) (y : Str) (v : V), fr[i]? = some y → vs[i]? = some v → ∃ a, cl.lookup y = some a ∧ H a = some (CellO a v)
theorem Esc.extN {q : Str} {params : Arguments} {body : Expr} {scope : Scope} {fr : List Str} {vs : List V} {f : Addr} {H H' : Hp} (e : Esc q params body scope fr vs f H) (s : ExtN H H') : Esc q params body scope fr vs f H' := by
  obtain ⟨cl, c, pm, ctv, h1, h2, h3, h4, h5, h6⟩ := e
  refine ⟨cl, c, pm, ctv, s _ _ h1 codeO_ne, s _ _ h2 funO_ne, h3, h4, h5, fun i y v e1 e2 => ?_⟩
  obtain ⟨a, a1, a2⟩ := h6 i y v e1 e2
  exact ⟨a, a1, s _ _ a2 cellO_ne⟩
theorem esc_of {X : Cx} {params : Arguments} {body : Expr} {scope : Scope} {f c : Addr} {H H' : Hp} {fr : List Str} {vs : List V} (inj : ∀ x y c, X.env.cells.lookup x = some c → X.env.cells.lookup y = some c → x = y) (l : LamAt X params body scope f c H) (e : Same H H')
    (hfr : ∀ y ∈ scope.names, y.2 = .free → y.1 ∈ fr) (hin : ∀ y ∈ fr, (y, NameKind.free) ∈ scope.names) (hl : vs.length = fr.length) (hv : ∀ (i : Nat) (y : Str) (v : V), fr[i]? = some y → vs[i]? = some v → ∃ a, X.env.cells.lookup y = some a ∧ H' a = some (CellO a v)) :
    Esc (X.env.qual ++ "<lambda>") params body scope fr vs f H' := by
  obtain ⟨h1, pm, ctv, h2⟩ := l
  have hfree : ∀ y ∈ scope.names, y.2 = .free → ∃ c, X.env.cells.lookup y.1 = some c := fun y hy ey => by
    obtain ⟨i, hi⟩ := List.mem_iff_getElem?.mp (hfr y hy ey)
    have hlt : i < vs.length := by rw [hl]; exact (List.getElem?_eq_some_iff.mp hi).1
    obtain ⟨a, ha, _⟩ := hv i y.1 vs[i] hi (List.getElem?_eq_getElem hlt)
    exact ⟨a, ha⟩
  have cm : ∀ {y a}, (cloFrom X.env.cells scope.names []).lookup y = some a → X.env.cells.lookup y = some a := fun {y a} z => clo_cm hfree z
  refine ⟨cloFrom X.env.cells scope.names [], c, pm, ctv, e _ _ h1, e _ _ h2, fun x y a z1 z2 => inj x y a (cm z1) (cm z2), fun y a z => ?_, hl, fun i y v e1 e2 => ?_⟩
  · rcases cloFrom_mem (PySem.mem_of_lookup z) with hm | ⟨w1, _⟩
    · cases hm
    · exact hfr _ w1 rfl
  · obtain ⟨a, a1, a2⟩ := hv i y v e1 e2
    exact ⟨a, clo_has hfree (hin y (List.mem_of_getElem? e1)) a1, a2⟩
/-- cells put back -/
def Rt (cs : List Addr) (H H' : Hp) : Hp := fun a => if a ∈ cs then H a else H' a
theorem rt_in {cs : List Addr} {H H' : Hp} {a : Addr} (h : a ∈ cs) : Rt cs H H' a = H a := if_pos h
theorem rt_out {cs : List Addr} {H H' : Hp} {a : Addr} (h : a ∉ cs) : Rt cs H H' a = H' a := if_neg h
section
variable {P : Program} {w : World} {H H' : Hp} {h h' : Heap} {cs : List Addr}
/-- some tracked cells are let go -/
theorem hok_loose (x : HOk P w H h) (hc : ∀ a ∈ cs, ∃ v, H a = some (CellO a v)) : HOk P w (Fz cs H) h := fun b u e => by
  obtain ⟨n, e⟩ := fz_some.mp e
  refine (x b u e).stay (fun _ _ _ z => z) (fun c z => fz_some.mpr ⟨fun hm => ?_, z⟩) fun c ys z => fz_some.mpr ⟨fun hm => ?_, z⟩
  · obtain ⟨v, q⟩ := hc c hm
    rw [z] at q
    unfold CellO at q
    cases q
  · obtain ⟨v, q⟩ := hc c hm
    rw [z] at q
    unfold CellO at q
    cases q
theorem hok_back (x : HOk P w H' h') (hc : ∀ a ∈ cs, ∃ v u, H a = some (CellO a v) ∧ L2.RelV v u ∧ h'.IsCell a (some u)) (hn : ∀ a ∈ cs, H' a = none) : HOk P w (Rt cs H H') h' := fun b u e => by
  by_cases hb : b ∈ cs
  · rw [rt_in hb] at e
    obtain ⟨v, uu, q, r, ic⟩ := hc b hb
    rw [q] at e
    cases e
    exact cellO_ok r ic
  · rw [rt_out hb] at e
    refine (x b u e).stay (fun _ _ _ z => z) (fun c z => ?_) fun c ys z => ?_
    · rw [rt_out (fun hm => by rw [hn c hm] at z; cases z)]; exact z
    · rw [rt_out (fun hm => by rw [hn c hm] at z; cases z)]; exact z
theorem rt_same1 (hn : ∀ a ∈ cs, H' a = none) : Same H' (Rt cs H H') := fun b o e => by
  rw [rt_out (fun hm => by rw [hn b hm] at e; cases e)]
  exact e
theorem rt_same2 (s : Same (Fz cs H) H') : Same H (Rt cs H H') := fun b o e => by
  by_cases hb : b ∈ cs
  · rw [rt_in hb]; exact e
  · rw [rt_out hb]; exact s b o (fz_some.mpr ⟨hb, e⟩)
end
/-- the lambda called, wherever that is -/
theorem esc_act {P : Program} {w : World} {K : PySem.W.Frag} {mg : Str → Option Value} {base : Heap} {outer : List Env} {s : Shared} {H : Hp} {q : Str} {params : Arguments} {body : Expr} {scope : Scope} {fr : List Str} {vs : List V} {f : Addr} {k : Nat} {t : XK → TE} (S : NScope fr [] fr scope)
    (hbind : ∀ (q : Str) (cl : List (Str × Addr)) (pm cv ctv : Value), bindArgs (PySem.W.kla_fn "<lambda>" q params body scope cl pm cv ctv) ⟨[], []⟩ = pure [])
    (hbody : ∀ (cl : List (Str × Addr)) (c : Addr) (A : Around) (outer : List Env) (s : Shared) (H : Hp) (E : XK), Room k (A.deeper (envF ⟨"<lambda>", q, params, [], scope, cl, c⟩ f s.heap.objs.size)) → PE (ncx (L2N.CX P w) P w K mg base fr ⟨"<lambda>", q, params, [], scope, cl, c⟩ f A outer s H E) body (t E)) :
    Act P w K mg base (k + 1) outer s H f (fun E H2 Q => Esc q params body scope fr vs f H2 ∧ ∀ H3, Same H3 H2 → (∀ b o, H2 b = some o → (∀ φ, o ≠ .ext φ) → H3 b = some o) →
      t (fun cls d H' => ∀ H'', Same H' H'' → (Same H3 H' → Same H2 H'') → E cls d H'') (vs.map some) H3 (fun v H' => ∀ H'', Same H' H'' → (Same H3 H' → Same H2 H'') → Q v H'')) := by
  intro A o2 s2 H2 Q E hr e0 _ ht
  obtain ⟨⟨cl, c, pm, ctv, hc, hf, inj, sub, len, has⟩, ht⟩ := ht
  have okf : ObjOk P w H2 s2.heap f (FunO f _) := e0.hok f _ hf
  have gf := okf.1
  have okc : ObjOk P w H2 s2.heap c (CodeO c _) := e0.hok c _ hc
  obtain ⟨oc, cvs, tq, hoc, hdc, hvc⟩ := okc.1
  have lim : s2.heap.NoLimit := e0.mod.nolimit.keeps fun b o e => (e0.bs b o e).1
  have cat : ∀ y a, cl.lookup y = some a → ∃ v u, H2 a = some (CellO a v) ∧ L2.RelV v u ∧ s2.heap.IsCell a (some u) := fun y a e => by
    obtain ⟨i, hi⟩ := List.mem_iff_getElem?.mp (sub y a e)
    have hlt : i < vs.length := by rw [len]; exact (List.getElem?_eq_some_iff.mp hi).1
    obtain ⟨a2, b1, b2⟩ := has i y vs[i] hi (List.getElem?_eq_getElem hlt)
    rw [e] at b1
    cases b1
    have okl : ObjOk P w H2 s2.heap a (CellO a vs[i]) := e0.hok a _ b2
    obtain ⟨u, r, ic⟩ := okl.1
    exact ⟨_, u, b2, r, ic⟩
  generalize hcs : fr.filterMap (fun y => cl.lookup y) = cs
  have cmem : ∀ y a, cl.lookup y = some a → a ∈ cs := fun y a e => by rw [← hcs]; exact List.mem_filterMap.mpr ⟨y, sub y a e, e⟩
  have ccel : ∀ a ∈ cs, ∃ v u, H2 a = some (CellO a v) ∧ L2.RelV v u ∧ s2.heap.IsCell a (some u) := fun a ha => by
    rw [← hcs] at ha
    obtain ⟨y, _, e⟩ := List.mem_filterMap.mp ha
    exact cat y a e
  have e3 : Env0 P w K mg base A o2 s2 (Fz cs H2) := ⟨e0.frames, e0.mod, fun b o e => ⟨(e0.bs b o e).1, by
      by_cases hb : b ∈ cs
      · exact fz_in hb
      · rw [fz_out hb]; exact (e0.bs b o e).2⟩, e0.bsz, e0.funs, fun b hb => by
      by_cases hm : b ∈ cs
      · exact fz_in hm
      · rw [fz_out hm]; exact e0.frf b hb, hok_loose e0.hok fun a ha => by
      obtain ⟨v, u, z, _⟩ := ccel a ha
      exact ⟨v, z⟩, e0.bare⟩
  have C : CellsAt cl fr (vs.map some) s2.heap (Fz cs H2) := by
    refine ⟨by rw [List.length_map]; exact len, fun y a e => ⟨fz_in (cmem y a e), ?_⟩, inj, fun i y hi => ?_⟩
    · obtain ⟨v, u, _, _, ic⟩ := cat y a e
      exact ⟨_, ic⟩
    · have hlt : i < vs.length := by rw [len]; exact (List.getElem?_eq_some_iff.mp hi).1
      obtain ⟨a, b1, b2⟩ := has i y vs[i] hi (List.getElem?_eq_getElem hlt)
      refine ⟨a, b1, fun v hv => ?_⟩
      rw [List.getElem?_map, List.getElem?_eq_getElem hlt] at hv
      cases hv
      have okl : ObjOk P w H2 s2.heap a (CellO a vs[i]) := e0.hok a _ b2
      exact okl.1
  have ht3 := ht (Fz cs H2) fz_le (fun b o e n => fz_some.mpr ⟨fun hm => by
    obtain ⟨v, u, z, _⟩ := ccel b hm
    rw [e] at z
    exact n _ (Option.some.inj z), e⟩)
  refine ⟨⟨_, _, _, _, gf⟩, ?_⟩
  have inner : codeAny (model P w) A (.call (.ref f) ⟨[], []⟩) (CR (L2N.CX P w) o2 P w (Fz cs H2) s2 (fun v H' => ∀ H'', Same H' H'' → (Same (Fz cs H2) H' → Same H2 H'') → Q v H'') (fun cls d H' => ∀ H'', Same H' H'' → (Same (Fz cs H2) H' → Same H2 H'') → E cls d H'')) s2 := by
    refine PySem.W.kla_callFunE hr.depth gf rfl S.co S.gen rfl ⟨c, oc, cvs, tq, rfl, hoc, hdc, hvc⟩ ?_
    have eb := hbind q cl pm (.ref c) ctv
    rw [show bindArgs _ ⟨[], []⟩ = pure [] from eb]
    refine wpAny_pure (wpAny_newFunctionEnv S.nocell (fun y hy => absurd hy (by simp)) (fun h₁ hns hsb => ⟨lim.fresh _ hsb, ?_⟩) S.kind)
    show codeAny _ _ (.expr body (envF ⟨"<lambda>", q, params, [], scope, cl, c⟩ f s2.heap.objs.size)) _ _
    have kp : ∀ b o, s2.heap.get? b = some o → h₁.get? b = some o := fun b o e => hsb.extBut b o (Nat.ne_of_lt (Heap.lt_size e)) (Heap.get?_push_of_some _ e)
    have J := inv_startN (CX := L2N.CX P w) (F := ⟨"<lambda>", q, params, [], scope, cl, c⟩) (f := f) (vs := []) (us := []) (tk := s2.toks + ([] : List (Str × Value)).length) (E := fun cls d H' => ∀ H'', Same H' H'' → (Same (Fz cs H2) H' → Same H2 H'') → E cls d H'') S hr.hd e3 rfl .nil C hns kp
    have es : startF fr [] (vs.map some) = vs.map some := by
      unfold startF
      rw [List.map_nil, List.nil_append, List.length_map, len]
      simp
    rw [es] at J
    refine PySem.W.kla_codeExpr (wpAny_mono ((hbody cl c A o2 s2 (Fz cs H2) _ (hr.deeper _)).run [] _ _ _ _ J ht3) (fun v s' hq => ?_) fun e s' hq => hq)
    obtain ⟨w', H', J', rv, q'⟩ := hq
    exact ⟨w', H', J'.os, J'.bare, J'.base, J'.hok, rv, q'⟩
  refine codeAny_mono inner fun r s' hq => ?_
  have frn : ∀ a ∈ cs, a ∉ frs o2 := fun a ha hf => by
    obtain ⟨v, u, z, _⟩ := ccel a ha
    rw [e0.frf a hf] at z
    cases z
  have nocs : ∀ b, H2 b = none → b ∉ cs := fun b hb hm => by
    obtain ⟨v, u, z, _⟩ := ccel b hm
    rw [hb] at z
    cases z
  have nex : ∀ b o, H2 b = some o → (∀ φ, o ≠ .ext φ) → b ∉ cs := fun b o hb n hm => by
    obtain ⟨v, u, z, _⟩ := ccel b hm
    rw [hb] at z
    exact n _ (Option.some.inj z)
  have f3 : ∀ b, H2 b = none → Fz cs H2 b = none := fun b hb => by rw [fz_out (nocs b hb)]; exact hb
  cases r with
  | error e =>
    obtain ⟨a, B, H', cls, d, rfl, fl, hok, ub, na, os, ag, hE⟩ := (show L2N.CX P w o2 (Fz cs H2) s2 _ e s' from hq)
    have hn : ∀ a ∈ cs, H' a = none := fun a ha => by
      obtain ⟨v, u, _, _, o, ho, _⟩ := ccel a ha
      exact ub.free a o ho (fz_in ha)
    have hcB : ∀ a ∈ cs, ∃ v u, H2 a = some (CellO a v) ∧ L2.RelV v u ∧ B.IsCell a (some u) := fun a ha => by
      obtain ⟨v, u, z, r, o, ho, hd⟩ := ccel a ha
      exact ⟨v, u, z, r, o, ub.keep a o ho (fz_in ha) (frn a ha), hd⟩
    refine ⟨a, B, Rt cs H2 H', cls, d, rfl, fl, hok_back hok hcB hn, ⟨fun b o e n hb => ub.keep b o e (f3 b n) hb, ub.slot, fun b o e n => ?_, ub.there, fun b ys e => ?_, fun b o ys e => ?_, fun b ps e => ?_⟩, ?_, os, ag, hE _ (rt_same1 hn) rt_same2⟩
    · rw [rt_out (nocs b n)]; exact ub.free b o e (f3 b n)
    · have n := nex b _ e (fun φ z => by cases z)
      rw [rt_out n]; exact ub.tups b ys (fz_some.mpr ⟨n, e⟩)
    · have n := nex b _ e (fun φ z => by cases z)
      rw [rt_out n]; exact ub.frzs b o ys (fz_some.mpr ⟨n, e⟩)
    · have n := nex b _ e (fun φ z => by cases z)
      rw [rt_out n]; exact ub.tbls b ps (fz_some.mpr ⟨n, e⟩)
    · rw [rt_out (fun hm => by
        obtain ⟨v, u, _, _, o, ho, _⟩ := hcB a hm
        rw [fl.2.1] at ho
        cases ho)]
      exact na
  | ok fl =>
    cases fl with
    | next => exact False.elim hq
    | brk => exact False.elim hq
    | cont => exact False.elim hq
    | ret u =>
      obtain ⟨v, H', os, bare, un, hok, rv, hQ⟩ := (show CE o2 P w (Fz cs H2) s2 _ u s' from hq)
      have hn : ∀ a ∈ cs, H' a = none := fun a ha => by
        obtain ⟨v, u, _, _, o, ho, _⟩ := ccel a ha
        exact un.free a o ho (fz_in ha) (by simp)
      have hcB : ∀ a ∈ cs, ∃ v u, H2 a = some (CellO a v) ∧ L2.RelV v u ∧ s'.heap.IsCell a (some u) := fun a ha => by
        obtain ⟨v, u, z, r, o, ho, hd⟩ := ccel a ha
        exact ⟨v, u, z, r, o, un.keep a o ho (fz_in ha) (frn a ha) (by simp), hd⟩
      refine ⟨v, Rt cs H2 H', os, bare, ⟨fun b o e n hb hx => un.keep b o e (f3 b n) hb hx, fun b o e n hb hx => un.slot b o e (f3 b n) hb hx, fun b o e n hx => ?_, un.there, fun b ys e => ?_, fun b o ys e => ?_, fun b ps e => ?_⟩, hok_back hok hcB hn, rv, hQ _ (rt_same1 hn) rt_same2⟩
      · rw [rt_out (nocs b n)]; exact un.free b o e (f3 b n) hx
      · have n := nex b _ e (fun φ z => by cases z)
        rw [rt_out n]; exact un.tups b ys (fz_some.mpr ⟨n, e⟩)
      · have n := nex b _ e (fun φ z => by cases z)
        rw [rt_out n]; exact un.frzs b o ys (fz_some.mpr ⟨n, e⟩)
      · have n := nex b _ e (fun φ z => by cases z)
        rw [rt_out n]; exact un.tbls b ps (fz_some.mpr ⟨n, e⟩)
end
/-! ### a list made by a def's own lambdas: its frame is known within the block -/
section
open PySem PySem.Spec PyProof.Rows L2 LamX
abbrev blkQ (X : Cx) (s : Shared) (H : Hp) (scope : Scope) (cenv : Env) (fp : List Addr) : Cx := X.blk s H scope cenv fp
def tLcI (wi : TI) (g : TG) (tt : L2.St → TT) (te : TE) (vs : List Nat) : TE := fun σ H Q => tLc wi g (tt σ) te vs σ H Q
theorem pe_lcI {X : Cx} {elt tg iter : Expr} {ifs : List Expr} {scope : Scope} {own : List (Str × Nat)} {pos : Pos} {wi : TI} {g : TG} {tt : L2.St → TT} {te : TE} (hc : X.calm = true) (nd : X.N.Nodup) (hi : PI X tg iter wi) (ok : BlkOk X.N X.env.scope scope own)
    (hg : ∀ (s : Shared) (H : Hp) (C : Addr) (cl : List (Str × Addr)) (fp : List Addr), PG (blkQ X s H scope (compEnvC scope cl C X.env) fp) tg g)
    (ht : ∀ (s : Shared) (H : Hp) (C : Addr) (cl : List (Str × Addr)) (fp : List Addr) (pins : List (Addr × Obj)) (σ : L2.St), (∀ (qs : List (Addr × Obj)) (τ : L2.St) (H' : Hp) (s' : Shared), Inv (blkQ X s H scope (compEnvC scope cl C X.env) fp) qs τ H' s' → Inv X pins σ H' s') → PTs (blkQ X s H scope (compEnvC scope cl C X.env) fp) ifs (tt σ))
    (he : ∀ (s : Shared) (H : Hp) (C : Addr) (cl : List (Str × Addr)) (fp : List Addr), PE (blkQ X s H scope (compEnvC scope cl C X.env) fp) elt te)
    (hs : ∀ x, foldedSetIterable iter X.env x = pure x := by intro _; rfl) : PE X (.ListComp elt [⟨tg, iter, ifs, 0⟩] scope pos) (tLcI wi g tt te (own.map (·.2))) := by
  constructor
  intro pins s σ H Q I h
  rw [eval_ListComp]
  have fr : ∀ y ∈ scope.names, y.2 = .free → ∃ c, X.env.cells.lookup y.1 = some c := fun y hy e => (ok.free y hy e).elim (fun k => I.ok.has _ (.inl k)) fun k => I.ok.has _ (.inr k)
  refine wpAny_comprehension_free rfl hs (closure_ok fr) ok.kind (fun y hy e => by rw [ok.uniq y hy, e]) (thn (hi.run pins s σ H _ I h) fun _ s1 hx => thn hx fun _ s2 h2 => ?_)
  obtain ⟨it, fp, tn, J, H2, e, I2, T, st2, f2, q⟩ := h2
  subst e
  refine wpAny_newObj_type (newEnv_comp ?_) (by show 0 ≤ sizeLine; decide)
  generalize hD : s2.heap.objs.size = D
  obtain ⟨W, ⟨m0, w0⟩, turn⟩ := q D (I2.hok.fresh (Nat.le_of_eq hD))
  generalize hs3 : ({ s2 with heap := s2.heap.push { cls := .type "list", data := .seq ([] : List Value).toArray } } : Shared) = s3
  have h3 : s3.heap = s2.heap.push { cls := .type "list", data := .seq ([] : List Value).toArray } := by rw [← hs3]
  have I3 : Inv X pins σ (upd H2 D (.lst [])) s3 := by
    rw [← hs3]
    refine I2.laid (t' := s2.toks) (fun b o e => Heap.get?_push_of_some _ e) (Nat.le_of_eq hD) ⟨Nat.zero_le _, [], 0, .nil, ?_⟩
    rw [← hD]
    exact Heap.get?_push_size _ rfl
  have f3 : ∀ b ∈ fp, FpOk X pins (upd H2 D (.lst [])) b ∧ b < s3.heap.objs.size := fun b hb => by
    obtain ⟨o, eo, _⟩ := T.obj _ _ st2 b hb
    have lt := Heap.lt_size eo
    have nb : b ≠ D := by rw [← hD]; exact Nat.ne_of_lt lt
    exact ⟨⟨by rw [upd_ne nb]; exact (f2 b hb).1, (f2 b hb).2⟩, by rw [h3, Heap.size_push]; exact Nat.lt_succ_of_lt lt⟩
  have st3 : tn 0 s3.heap := T.keep _ _ _ st2 fun b _ o e => by rw [h3]; exact Heap.get?_push_of_some _ e
  have I4 := block_start I3 ok nd f3
  have back : ∀ (C : Addr) (cl : List (Str × Addr)) (qs : List (Addr × Obj)) (τ : L2.St) (H' : Hp) (s' : Shared), Inv (blkQ X s3 (upd H2 D (.lst [])) scope (compEnvC scope cl C X.env) fp) qs τ H' s' → Inv X pins σ H' s' := fun C cl qs τ H' s' I' =>
    I3.call' (ch := fp) I'.os I'.base I'.hok I'.bare fun b hb => ⟨(f3 b hb).1.2.2.2.1, (f3 b hb).1.2.1, (f3 b hb).1.2.2.2.2.1, (f3 b hb).1.2.2.2.2.2⟩
  have pg := hg s3 (upd H2 D (.lst [])) s3.heap.objs.size (cellsFrom (s3.heap.objs.size + 1) scope.names (cloFrom X.env.cells scope.names [])) fp
  have pt := ht s3 (upd H2 D (.lst [])) s3.heap.objs.size (cellsFrom (s3.heap.objs.size + 1) scope.names (cloFrom X.env.cells scope.names [])) fp pins σ (back _ _)
  have pe := he s3 (upd H2 D (.lst [])) s3.heap.objs.size (cellsFrom (s3.heap.objs.size + 1) scope.names (cloFrom X.env.cells scope.names [])) fp
  have bk := back s3.heap.objs.size (cellsFrom (s3.heap.objs.size + 1) scope.names (cloFrom X.env.cells scope.names []))
  show codeAny _ _ (.compStart (.ListComp elt [⟨tg, iter, ifs, 0⟩] scope pos) 0 (.ref it) (.ref D) (compEnvC scope (cellsFrom (s3.heap.objs.size + 1) scope.names (cloFrom X.env.cells scope.names [])) s3.heap.objs.size X.env)) _ { s3 with heap := pushCells (s3.heap.push { cls := .type "dict", data := .dict #[] }) scope.names }
  generalize hce : compEnvC scope (cellsFrom (s3.heap.objs.size + 1) scope.names (cloFrom X.env.cells scope.names [])) s3.heap.objs.size X.env = ce at I4 pg pt pe bk ⊢
  have cL : ce.locals = s3.heap.objs.size := by subst hce; rfl
  generalize hs4 : ({ s3 with heap := pushCells (s3.heap.push { cls := .type "dict", data := .dict #[] }) scope.names } : Shared) = s4 at I4 ⊢
  have st4 : tn 0 s4.heap := T.keep _ _ _ st3 fun b _ o e => by rw [← hs4]; exact pushCells_keeps _ _ _ _ (Heap.get?_push_of_some _ e)
  have hB : (blkQ X s3 (upd H2 D (.lst [])) scope ce fp).calm = true := hc
  have stat : ∀ {σ' : L2.St} {H' : Hp} {s' : Shared}, Inv (blkQ X s3 (upd H2 D (.lst [])) scope ce fp) [] σ' H' s' → (∀ b ∈ fp, H' b = none) → ∀ b ∈ fp, FpOk (blkQ X s3 (upd H2 D (.lst [])) scope ce fp) [] H' b := fun I' hn b hb =>
    ⟨hn b hb, (I'.ok.exf b hb).1, I'.ok.exfs b hb, .inl hb, (I'.ok.exf b hb).2, fun p hp => (by cases (show p ∈ ([] : List (Addr × Obj)) from hp))⟩
  have loop : codeAny (model X.prog X.w) X.A (.compLoop (.ListComp elt [⟨tg, iter, ifs, 0⟩] scope pos) 0 (.ref it) (.ref D) ce) (compPost (model X.prog X.w) X.A X.xe none (EP X pins σ Q) (.ref D) s3.heap.objs.size) s4 := by
    refine compLoop_any (fun n s' => ∃ i H', Inv (blkQ X s3 (upd H2 D (.lst [])) scope ce fp) [] (wipe σ (own.map (·.2))) H' s' ∧ tn i s'.heap ∧ (∀ b ∈ fp, H' b = none) ∧ W i n H') ?_ m0 ⟨0, _, I4, st4, fun b hb => (f3 b hb).1.1, w0⟩
    rintro n s5 ⟨i, H5, I5, st5, n5, w5⟩
    rcases turn i n H5 w5 with ⟨stop, qq⟩ | ⟨go, Nx, hNx, step⟩
    · refine thnF (T.done (blkQ X s3 (upd H2 D (.lst [])) scope ce fp) rfl rfl rfl hB i [] s5 _ H5 (fun _ _ => False) I5 (stat I5 n5) st5 stop) fun r s6 ⟨hr, I6⟩ => ?_
      subst hr
      have I7 : Inv X pins σ H5 s6 := bk _ _ _ _ I6
      have nC : H5 s3.heap.objs.size = none := by
        have z : H5 ce.locals = none := I6.free
        rw [cL] at z
        exact z
      obtain ⟨m, hn, _⟩ := I6.loc
      have hn : s6.heap.Ns ce.locals m := hn
      rw [cL] at hn
      refine ⟨m, hn, fun h'' sb => ?_⟩
      have ff := I3.fpOk (H' := H5) (Nat.le_refl _) nC
      exact ⟨.ref D, H5, I7.turned (t' := s6.toks) (fun b o nb e => (sb.2 b nb).trans e) ff.1 ff.2.1 ff.2.2.2.1 ff.2.2.2.2.1 ff.2.2.2.2.2, rfl, qq⟩
    · refine thnF (T.item (blkQ X s3 (upd H2 D (.lst [])) scope ce fp) rfl rfl rfl hB i [] s5 _ H5 (fun _ _ => False) I5 (stat I5 n5) st5 go) fun r s6 ⟨u, hr, h6⟩ => ?_
      subst hr
      refine thnF h6 fun _ s7 ⟨x, H7, I7, r7, y7, st7, n7⟩ => ?_
      refine thnF (pg.run _ s7 _ H7 x u _ (I7.pinned (stat I7 n7) (T.obj _ _ st7)) r7 (step x H7 y7)) fun _ s8 ⟨σ8, H8, I8, hw8, q8⟩ => ?_
      refine thnF (pt.run _ s8 σ8 H8 _ I8 q8) fun b s9 ⟨H9, I9, q9⟩ => ?_
      have again : ∀ {s' : Shared} {H' : Hp}, Inv (blkQ X s3 (upd H2 D (.lst [])) scope ce fp) ([] ++ pinsAt fp s7.heap) σ8 H' s' → Nx H' →
          ∃ m, m < n ∧ ∃ i H', Inv (blkQ X s3 (upd H2 D (.lst [])) scope ce fp) [] (wipe σ (own.map (·.2))) H' s' ∧ tn i s'.heap ∧ (∀ b ∈ fp, H' b = none) ∧ W i m H' := fun {s' H'} I' nx => by
        obtain ⟨m', hm, w'⟩ := hNx H' nx
        have pin' : ∀ b ∈ fp, ∀ o, s7.heap.get? b = some o → s'.heap.get? b = some o ∧ H' b = none := fun b hb o e =>
          ⟨(I'.pin (b, o) (List.mem_append_right _ (List.mem_append_right _ (mem_pinsAt hb e)))).1, (I'.pin (b, o) (List.mem_append_right _ (List.mem_append_right _ (mem_pinsAt hb e)))).2.1⟩
        refine ⟨m', hm, i + 1, H', (I'.unpinned (pins := [])).weak (by rw [← hw8, wipe_length]) (fun j v e => ?_), T.keep _ _ _ st7 fun b hb o e => (pin' b hb o e).1, fun b hb => ?_, w'⟩
        · rw [← hw8] at e
          exact (wipe_some e).1
        · obtain ⟨o, e, _⟩ := T.obj _ _ st7 b hb
          exact (pin' b hb o e).2
      cases b with
      | false =>
        simp only [Bool.false_eq_true, if_false] at q9 ⊢
        exact again I9 q9
      | true =>
        simp only [if_true] at q9 ⊢
        refine thnF (pe.run _ s9 σ8 H9 _ I9 q9) fun z s10 ⟨yv, H10, I10, r10, acc, hD10, hz10, nx⟩ => ?_
        exact app_ok (X := blkQ X s3 (upd H2 D (.lst [])) scope ce fp) I10 hD10 hz10 r10 fun s11 I11 => again I11 nx
  exact codeAny_compStart_list loop (T.self X.A 0 _ _ _ st4 loop)
/-- _law_refused(e1, e2, e3), by what is known of the works -/
def tRefB (K : PySem.W.Frag) (CE Ck Cr Cw Ct : Addr) (AC : Addr → (XK → Hp → VK → Prop) → Prop) (ta : TA) : TE := fun σ H Q => ta σ H fun vs H1 => ∃ (f C : Addr) (z fl : Str) (v : V) (tl : XK → Hp → VK → Prop), vs = [.ref f, .str z, v] ∧ ((∃ n, v = .int n) ∨ ∃ y, v = .str y) ∧ ErrW K CE Ck Cr Cw Ct z C fl ∧
  AC f tl ∧ tRef C fl v tl H1 Q
theorem pe_refB {X : Cx} {CE Ck Cr Cw Ct g : Addr} {fd : FuncData} {k : Nat} {ps : List Str} {x : Str} {e : Expr} {es : List Expr} {ta : TA} {p pos : Pos} {AC : Addr → (XK → Hp → VK → Prop) → Prop} (hAC : ∀ (f : Addr) (tl : XK → Hp → VK → Prop), AC f tl → ∀ (pins : List (Addr × Obj)) (σ : L2.St) (H : Hp) (s : Shared), Inv X pins σ H s → Act X.prog X.w X.K X.mg X.base k X.stack s H f tl)
    (mono : ∀ (σ : L2.St) (H : Hp) (Q Q' : List V → Hp → Prop), ta σ H Q → (∀ vs H', Q vs H' → Q' vs H') → ta σ H Q')
    (R : RefOk X.prog X.w X.K X.mg X.base CE Ck Cr Cw Ct k g fd ps) (hr : Room (k + 1) X.A) (hm : X.mg x = some (.ref g)) (hk : PySem.W.keepIn X.K (.ref g) = true) (hb : Binds X.K fd ps []) (h3 : ps.length = 3)
    (ha : PA X (e :: es) ta) (hg : Gl X x := by rfl) (hdb : (x == ("__debug__" : Str)) = false := by decide) (he : starEach (e :: es) X.env = (false, eval e X.env) :: starEach es X.env := by rfl) (hpl : (backTo pos (starEach es X.env)).any (·.1) = false := by rfl) :
    PE X (.Call (.Name x p) (e :: es) [] pos) (tRefB X.K CE Ck Cr Cw Ct AC ta) := by
  constructor
  intro pins s σ H Q I h
  refine (pe_refd R hr hm hk hb h3 ha hg hdb he hpl).run pins s σ H Q I (mono σ H _ _ h fun vs H1 z => ?_)
  obtain ⟨f, C, z, fl, v, tl, e1, e2, e3, e4, e5⟩ := z
  exact ⟨f, C, z, fl, v, tl, e1, e2, e3, fun pins s I' => hAC f tl e4 pins σ H1 s I', e5⟩
end
/-! ### need_reader, and all that a knob and a reader are handed to, as they refuse -/
/-- the first thing that no reader has -/
def readerBad (a s : Int) : Option Str := if ¬ (1 ≤ a ∧ a ≤ 6) then some "apart" else if ¬ (1 ≤ s ∧ s ≤ 3) then some "same" else none
def spNeedReaderX (K : PySem.W.Frag) (Cr : Addr) : Sp := fun vs H Q E => ∃ (v : V) (a s : Int), vs = [v] ∧ Dp K H v (knD a s) ∧ (∀ x, readerBad a s = some x → ∀ d, H d = none → E (.ref Cr) (some d) (upd H d (xd1 "why" (.str x)))) ∧ (readerBad a s = none → Q .non H)
/-- a knob that is none, ahead of n others -/
def spK1 (K : PySem.W.Frag) (Ck : Addr) (n : Nat) : Sp := fun vs H _ E => ∃ (v : V) (r : List V) (g b : Int) (x : Str), vs = v :: r ∧ r.length = n ∧ Dp K H v (knD g b) ∧ knobBad g b = some x ∧ ∀ d, H d = none → E (.ref Ck) (some d) (upd H d (xd1 "why" (.str x)))
/-- a knob and a reader, one of both none -/
def spKR (K : PySem.W.Frag) (Ck Cr : Addr) (n : Nat) : Sp := fun vs H _ E => ∃ (v u : V) (r : List V) (g b a s : Int) (x : Str) (C : Addr), vs = v :: u :: r ∧ r.length = n ∧ Dp K H v (knD g b) ∧ Dp K H u (knD a s) ∧
  ((knobBad g b = some x ∧ C = Ck) ∨ (knobBad g b = none ∧ readerBad a s = some x ∧ C = Cr)) ∧ ∀ d, H d = none → E (.ref C) (some d) (upd H d (xd1 "why" (.str x)))
def spRi (K : PySem.W.Frag) (Cr : Addr) : Sp := fun vs H _ E => ∃ (p u : V) (a s : Int) (x : Str), vs = [p, u] ∧ Dp K H u (knD a s) ∧ readerBad a s = some x ∧ ∀ d, H d = none → E (.ref Cr) (some d) (upd H d (xd1 "why" (.str x)))
section
variable {P : Program} {w : World} {K : PySem.W.Frag} {mg : Str → Option Value} {base : Heap}
theorem sc_needrx : FnScope ["reader", "apart", "same"] ["reader"] (defScope (top 13)) := ⟨rfl, rfl, rfl, by decide +kernel, rfl, by decide +kernel, by decide +kernel⟩
theorem ok_needrx {f Cr : Addr} {fd : FuncData} {t1 t2 : Tok} {ps : List Str} (F : Fun K "need_reader" "need_reader" (top 13) f fd) (g_MOST_APART : mg "MOST_APART" = some (.int 6 t1)) (g_MOST_SAME : mg "MOST_SAME" = some (.int 3 t2)) (ek_BadReader : ErrK K mg Cr "BadReader" "why") (ei_BadReader : ErrI P w K mg base Cr "why" ps) :
    FnOk P w K mg base (L2N.CX P w) 3 f fd ["reader"] (spNeedReaderX K Cr) := by
  have sc := sc_needrx
  refine okN F sc (fun vs H Q E h => ?_) (fun cdv A outer s H vs Q E hr h => ?_)
  · obtain ⟨v, g, b, rfl, _⟩ := h
    rfl
  · obtain ⟨v, g, b, rfl, hv, kE, kQ⟩ := h
    obtain ⟨a, rfl, hT⟩ := dp_ii hv
    refine ⟨_, (pss_cons (ps_asg (pv 0) (pg_tup rfl (pgs_cons (pg_name (i := 1) sc.nd rfl (Or.inl rfl)) (pgs_cons (pg_name (i := 2) sc.nd rfl (Or.inl rfl)) pgs_nil))))
(pss_cons (ps_if (pt_not (pt_chain op_le op_le pe_int (pv 1) (pe_glob (v := .int 6) rfl g_MOST_APART ⟨_, rfl⟩)))
(pss_one (ps_raiseN rfl (L2N.takes_of rfl rfl rfl rfl) ek_BadReader ei_BadReader (hr.mono (by first | decide | omega)) (pa_cons pe_str pa_nil)))
pss_nil)
(pss_one (ps_if (pt_not (pt_chain op_le op_le pe_int (pv 2) (pe_glob (v := .int 3) rfl g_MOST_SAME ⟨_, rfl⟩)))
(pss_one (ps_raiseN rfl (L2N.takes_of rfl rfl rfl rfl) ek_BadReader ei_BadReader (hr.mono (by first | decide | omega)) (pa_cons pe_str pa_nil)))
pss_nil)))), ?_⟩
    refine ⟨_, rfl, a, _, rfl, hT, rfl, _, _, rfl, _, _, rfl, rfl, ?_⟩
    have e1 : ¬ (1 ≤ g ∧ g ≤ 6) → ∀ d, H d = none → E (.ref Cr) (some d) (upd H d (.xd [("why", .str "apart")])) := fun c d hd => kE "apart" (if_pos c) d hd
    have e2 : 1 ≤ g ∧ g ≤ 6 → ¬ (1 ≤ b ∧ b ≤ 3) → ∀ d, H d = none → E (.ref Cr) (some d) (upd H d (.xd [("why", .str "same")])) := fun c c2 d hd => kE "same" (by unfold readerBad; rw [if_neg (fun z => z c), if_pos c2]) d hd
    refine ⟨_, rfl, _, _, rfl, rfl, _, rfl, ?_⟩
    by_cases c1 : 1 ≤ g
    · refine iteDT c1 ⟨_, _, rfl, rfl, _, rfl, ?_⟩
      by_cases c2 : g ≤ 6
      · rw [decide_eq_true c2]
        refine iteF ⟨_, rfl, _, _, rfl, rfl, _, rfl, ?_⟩
        by_cases c3 : 1 ≤ b
        · refine iteDT c3 ⟨_, _, rfl, rfl, _, rfl, ?_⟩
          by_cases c4 : b ≤ 3
          · rw [decide_eq_true c4]
            exact iteF (kQ (by unfold readerBad; rw [if_neg (fun z => z ⟨c1, c2⟩), if_neg (fun z => z ⟨c3, c4⟩)]))
          · rw [decide_eq_false c4]
            exact iteT (raise_ok (e2 ⟨c1, c2⟩ fun z => c4 z.2))
        · exact iteDF c3 ⟨_, rfl, iteT (raise_ok (e2 ⟨c1, c2⟩ fun z => c3 z.1))⟩
      · rw [decide_eq_false c2]
        exact iteT (raise_ok (e1 fun z => c2 z.2))
    · exact iteDF c1 ⟨_, rfl, iteT (raise_ok (e1 fun z => c1 z.1))⟩
theorem sc_fittedk : FnScope ["knob", "rows", "apart", "some", "same", "row"] ["knob"] (defScope (top 26)) := ⟨rfl, rfl, rfl, by decide +kernel, rfl, by decide +kernel, by decide +kernel⟩
theorem ok_fittedk {f Ck : Addr} {fd : FuncData} (F : Fun K "fitted" "fitted" (top 26) f fd) (c_need_knob : CalN P w K mg base 3 "need_knob" ["knob"] (spNeedKnobX K Ck)) : FnOk P w K mg base (L2N.CX P w) 4 f fd ["knob"] (spK1 K Ck 0) := by
  have sc := sc_fittedk
  refine okN F sc (fun vs H Q E h => ?_) (fun cdv A outer s H vs Q E hr h => ?_)
  · obtain ⟨v, r, g, b, x, rfl, hl, _⟩ := h
    show r.length + 1 = _
    rw [hl]
    rfl
  · obtain ⟨v, r, g, b, x, rfl, hl, hv, hx, k⟩ := h
    have hr0 := List.eq_nil_of_length_eq_zero hl
    subst hr0
    refine ⟨_, (pss_cons (ps_expr (pe_calN c_need_knob (hr.mono (by first | decide | omega)) (L2N.takes_of rfl rfl rfl rfl) (pa_cons (pv 0) pa_nil)))
pss_never), ?_⟩
    exact ⟨_, rfl, v, g, b, rfl, hv, fun y hy d hd => (by rw [hx] at hy; cases hy; exact k d hd), fun hn => (by rw [hx] at hn; cases hn)⟩
theorem sc_shownk : FnScope ["knob", "row", "here", "seen"] ["knob", "row"] (defScope (top 16)) := ⟨rfl, rfl, rfl, by decide +kernel, rfl, by decide +kernel, by decide +kernel⟩
theorem ok_shownk {f Ck : Addr} {fd : FuncData} (F : Fun K "shown" "shown" (top 16) f fd) (c_need_knob : CalN P w K mg base 3 "need_knob" ["knob"] (spNeedKnobX K Ck)) : FnOk P w K mg base (L2N.CX P w) 4 f fd ["knob", "row"] (spK1 K Ck 1) := by
  have sc := sc_shownk
  refine okN F sc (fun vs H Q E h => ?_) (fun cdv A outer s H vs Q E hr h => ?_)
  · obtain ⟨v, r, g, b, x, rfl, hl, _⟩ := h
    show r.length + 1 = _
    rw [hl]
    rfl
  · obtain ⟨v, r, g, b, x, rfl, hl, hv, hx, k⟩ := h
    obtain ⟨r0, hr0⟩ := List.length_eq_one_iff.mp hl
    subst hr0
    refine ⟨_, (pss_cons (ps_expr (pe_calN c_need_knob (hr.mono (by first | decide | omega)) (L2N.takes_of rfl rfl rfl rfl) (pa_cons (pv 0) pa_nil)))
pss_never), ?_⟩
    exact ⟨_, rfl, v, g, b, rfl, hv, fun y hy d hd => (by rw [hx] at hy; cases hy; exact k d hd), fun hn => (by rw [hx] at hn; cases hn)⟩
theorem sc_writtenk : FnScope ["knob", "row", "found", "move", "sign"] ["knob", "row"] (defScope (top 29)) := ⟨rfl, rfl, rfl, by decide +kernel, rfl, by decide +kernel, by decide +kernel⟩
theorem ok_writtenk {f Ck : Addr} {fd : FuncData} (F : Fun K "written" "written" (top 29) f fd) (c_need_knob : CalN P w K mg base 3 "need_knob" ["knob"] (spNeedKnobX K Ck)) : FnOk P w K mg base (L2N.CX P w) 4 f fd ["knob", "row"] (spK1 K Ck 1) := by
  have sc := sc_writtenk
  refine okN F sc (fun vs H Q E h => ?_) (fun cdv A outer s H vs Q E hr h => ?_)
  · obtain ⟨v, r, g, b, x, rfl, hl, _⟩ := h
    show r.length + 1 = _
    rw [hl]
    rfl
  · obtain ⟨v, r, g, b, x, rfl, hl, hv, hx, k⟩ := h
    obtain ⟨r0, hr0⟩ := List.length_eq_one_iff.mp hl
    subst hr0
    refine ⟨_, (pss_cons (ps_expr (pe_calN c_need_knob (hr.mono (by first | decide | omega)) (L2N.takes_of rfl rfl rfl rfl) (pa_cons (pv 0) pa_nil)))
pss_never), ?_⟩
    exact ⟨_, rfl, v, g, b, rfl, hv, fun y hy d hd => (by rw [hx] at hy; cases hy; exact k d hd), fun hn => (by rw [hx] at hn; cases hn)⟩
theorem sc_read_rowk : FnScope ["knob", "text", "at", "sign", "row"] ["knob", "text"] (defScope (top 30)) := ⟨rfl, rfl, rfl, by decide +kernel, rfl, by decide +kernel, by decide +kernel⟩
theorem ok_read_rowk {f Ck : Addr} {fd : FuncData} (F : Fun K "read_row" "read_row" (top 30) f fd) (c_need_knob : CalN P w K mg base 3 "need_knob" ["knob"] (spNeedKnobX K Ck)) : FnOk P w K mg base (L2N.CX P w) 4 f fd ["knob", "text"] (spK1 K Ck 1) := by
  have sc := sc_read_rowk
  refine okN F sc (fun vs H Q E h => ?_) (fun cdv A outer s H vs Q E hr h => ?_)
  · obtain ⟨v, r, g, b, x, rfl, hl, _⟩ := h
    show r.length + 1 = _
    rw [hl]
    rfl
  · obtain ⟨v, r, g, b, x, rfl, hl, hv, hx, k⟩ := h
    obtain ⟨r0, hr0⟩ := List.length_eq_one_iff.mp hl
    subst hr0
    refine ⟨_, (pss_cons (ps_expr (pe_calN c_need_knob (hr.mono (by first | decide | omega)) (L2N.takes_of rfl rfl rfl rfl) (pa_cons (pv 0) pa_nil)))
pss_never), ?_⟩
    exact ⟨_, rfl, v, g, b, rfl, hv, fun y hy d hd => (by rw [hx] at hy; cases hy; exact k d hd), fun hn => (by rw [hx] at hn; cases hn)⟩
theorem sc_judgedkr : FnScope ["knob", "reader", "game", "row"] ["knob", "reader"] (defScope (top 23)) := ⟨rfl, rfl, rfl, by decide +kernel, rfl, by decide +kernel, by decide +kernel⟩
theorem ok_judgedkr {f Ck Cr : Addr} {fd : FuncData} (F : Fun K "judged" "judged" (top 23) f fd) (c_need_knob : CalN P w K mg base 3 "need_knob" ["knob"] (spNeedKnobX K Ck)) (c_need_reader : CalN P w K mg base 3 "need_reader" ["reader"] (spNeedReaderX K Cr)) : FnOk P w K mg base (L2N.CX P w) 4 f fd ["knob", "reader"] (spKR K Ck Cr 0) := by
  have sc := sc_judgedkr
  refine okN F sc (fun vs H Q E h => ?_) (fun cdv A outer s H vs Q E hr h => ?_)
  · obtain ⟨v, u, r, g, b, a, t, x, C, rfl, hl, _⟩ := h
    show r.length + 1 + 1 = _
    rw [hl]
    rfl
  · obtain ⟨v, u, r, g, b, a, t, x, C, rfl, hl, hv, hu, hx, k⟩ := h
    have hr0 := List.eq_nil_of_length_eq_zero hl
    subst hr0
    refine ⟨_, (pss_cons (ps_expr (pe_calN c_need_knob (hr.mono (by first | decide | omega)) (L2N.takes_of rfl rfl rfl rfl) (pa_cons (pv 0) pa_nil)))
(pss_cons (ps_expr (pe_calN c_need_reader (hr.mono (by first | decide | omega)) (L2N.takes_of rfl rfl rfl rfl) (pa_cons (pv 1) pa_nil)))
pss_never)), ?_⟩
    rcases hx with ⟨hx, rfl⟩ | ⟨hg, hx, rfl⟩
    · exact ⟨_, rfl, v, g, b, rfl, hv, fun y hy d hd => (by rw [hx] at hy; cases hy; exact k d hd), fun hn => (by rw [hx] at hn; cases hn)⟩
    · refine ⟨_, rfl, v, g, b, rfl, hv, fun y hy => (by rw [hg] at hy; cases hy), fun _ => ?_⟩
      exact ⟨_, rfl, u, a, t, rfl, hu, fun y hy d hd => (by rw [hx] at hy; cases hy; exact k d hd), fun hn => (by rw [hx] at hn; cases hn)⟩
theorem sc_noisykr : FnScope ["knob", "reader"] ["knob", "reader"] (defScope (top 24)) := ⟨rfl, rfl, rfl, by decide +kernel, rfl, by decide +kernel, by decide +kernel⟩
theorem ok_noisykr {f Ck Cr : Addr} {fd : FuncData} (F : Fun K "noisy" "noisy" (top 24) f fd) (c_need_knob : CalN P w K mg base 3 "need_knob" ["knob"] (spNeedKnobX K Ck)) (c_need_reader : CalN P w K mg base 3 "need_reader" ["reader"] (spNeedReaderX K Cr)) : FnOk P w K mg base (L2N.CX P w) 4 f fd ["knob", "reader"] (spKR K Ck Cr 0) := by
  have sc := sc_noisykr
  refine okN F sc (fun vs H Q E h => ?_) (fun cdv A outer s H vs Q E hr h => ?_)
  · obtain ⟨v, u, r, g, b, a, t, x, C, rfl, hl, _⟩ := h
    show r.length + 1 + 1 = _
    rw [hl]
    rfl
  · obtain ⟨v, u, r, g, b, a, t, x, C, rfl, hl, hv, hu, hx, k⟩ := h
    have hr0 := List.eq_nil_of_length_eq_zero hl
    subst hr0
    refine ⟨_, (pss_cons (ps_expr (pe_calN c_need_knob (hr.mono (by first | decide | omega)) (L2N.takes_of rfl rfl rfl rfl) (pa_cons (pv 0) pa_nil)))
(pss_cons (ps_expr (pe_calN c_need_reader (hr.mono (by first | decide | omega)) (L2N.takes_of rfl rfl rfl rfl) (pa_cons (pv 1) pa_nil)))
pss_never)), ?_⟩
    rcases hx with ⟨hx, rfl⟩ | ⟨hg, hx, rfl⟩
    · exact ⟨_, rfl, v, g, b, rfl, hv, fun y hy d hd => (by rw [hx] at hy; cases hy; exact k d hd), fun hn => (by rw [hx] at hn; cases hn)⟩
    · refine ⟨_, rfl, v, g, b, rfl, hv, fun y hy => (by rw [hg] at hy; cases hy), fun _ => ?_⟩
      exact ⟨_, rfl, u, a, t, rfl, hu, fun y hy d hd => (by rw [hx] at hy; cases hy; exact k d hd), fun hn => (by rw [hx] at hn; cases hn)⟩
theorem sc_runkr : FnScope ["knob", "reader", "row", "counter", "told", "at", "here", "seen"] ["knob", "reader", "row"] (defScope (top 20)) := ⟨rfl, rfl, rfl, by decide +kernel, rfl, by decide +kernel, by decide +kernel⟩
theorem ok_runkr {f Ck Cr : Addr} {fd : FuncData} (F : Fun K "run" "run" (top 20) f fd) (c_need_knob : CalN P w K mg base 3 "need_knob" ["knob"] (spNeedKnobX K Ck)) (c_need_reader : CalN P w K mg base 3 "need_reader" ["reader"] (spNeedReaderX K Cr)) : FnOk P w K mg base (L2N.CX P w) 4 f fd ["knob", "reader", "row"] (spKR K Ck Cr 1) := by
  have sc := sc_runkr
  refine okN F sc (fun vs H Q E h => ?_) (fun cdv A outer s H vs Q E hr h => ?_)
  · obtain ⟨v, u, r, g, b, a, t, x, C, rfl, hl, _⟩ := h
    show r.length + 1 + 1 = _
    rw [hl]
    rfl
  · obtain ⟨v, u, r, g, b, a, t, x, C, rfl, hl, hv, hu, hx, k⟩ := h
    obtain ⟨r0, hr0⟩ := List.length_eq_one_iff.mp hl
    subst hr0
    refine ⟨_, (pss_cons (ps_expr (pe_calN c_need_knob (hr.mono (by first | decide | omega)) (L2N.takes_of rfl rfl rfl rfl) (pa_cons (pv 0) pa_nil)))
(pss_cons (ps_expr (pe_calN c_need_reader (hr.mono (by first | decide | omega)) (L2N.takes_of rfl rfl rfl rfl) (pa_cons (pv 1) pa_nil)))
pss_never)), ?_⟩
    rcases hx with ⟨hx, rfl⟩ | ⟨hg, hx, rfl⟩
    · exact ⟨_, rfl, v, g, b, rfl, hv, fun y hy d hd => (by rw [hx] at hy; cases hy; exact k d hd), fun hn => (by rw [hx] at hn; cases hn)⟩
    · refine ⟨_, rfl, v, g, b, rfl, hv, fun y hy => (by rw [hg] at hy; cases hy), fun _ => ?_⟩
      exact ⟨_, rfl, u, a, t, rfl, hu, fun y hy d hd => (by rw [hx] at hy; cases hy; exact k d hd), fun hn => (by rw [hx] at hn; cases hn)⟩
theorem sc_cinitx : FnScope ["self", "reader"] ["self", "reader"] (defScope (inClass (top 19) 0)) := ⟨rfl, rfl, rfl, by decide +kernel, rfl, by decide +kernel, by decide +kernel⟩
theorem ok_cinitx {f Cr : Addr} {fd : FuncData} (F : Fun K "__init__" "Counter.__init__" (inClass (top 19) 0) f fd) (c_need_reader : CalN P w K mg base 3 "need_reader" ["reader"] (spNeedReaderX K Cr)) : FnOk P w K mg base (L2N.CX P w) 4 f fd ["self", "reader"] (spRi K Cr) := by
  have sc := sc_cinitx
  refine okN F sc (fun vs H Q E h => ?_) (fun cdv A outer s H vs Q E hr h => ?_)
  · obtain ⟨p, u, a, t, x, rfl, _⟩ := h
    rfl
  · obtain ⟨p, u, a, t, x, rfl, hu, hx, k⟩ := h
    refine ⟨_, (pss_cons (ps_expr (pe_calN c_need_reader (hr.mono (by first | decide | omega)) (L2N.takes_of rfl rfl rfl rfl) (pa_cons (pv 1) pa_nil)))
pss_never), ?_⟩
    exact ⟨_, rfl, u, a, t, rfl, hu, fun y hy d hd => (by rw [hx] at hy; cases hy; exact k d hd), fun hn => (by rw [hx] at hn; cases hn)⟩
end
/-- a class whose __init__ may raise, called -/
def MkrN (P : Program) (w : World) (K : PySem.W.Frag) (mg : Str → Option Value) (base : Heap) (k : Nat) (C : Addr) (x : Str) (ps : List Str) (sp : Sp) : Prop :=
  ∃ f fd, FnOk P w K mg base (L2N.CX P w) k f fd ps sp ∧ mg x = some (.ref C) ∧ Mk K C f ∧ Binds K fd ps []
/-! ### the works that are handed out -/
section
open PySem PySem.Spec PyProof.Rows L2 LamX NdefX
theorem pe_mkrN {X : Cx} {k : Nat} {C : Addr} {x : Str} {qs : List Str} {sp : Sp} {p pos : Pos} {e : Expr} {es : List Expr} {t : TA} {E : XK} (c : MkrN X.prog X.w X.K X.mg X.base k C x qs sp) (hr : Room (k + 1) X.A) (tk : L2N.Takes X (fun cls d _ H => E cls d H)) (ha : PA X (e :: es) t) (hg : Gl X x := by rfl)
    (hdb : (x == ("__debug__" : Str)) = false := by decide) (he : starEach (e :: es) X.env = (false, eval e X.env) :: starEach es X.env := by rfl) (hpl : (backTo pos (starEach es X.env)).any (·.1) = false := by rfl) : PE X (.Call (.Name x p) (e :: es) [] pos) (tMake C sp [] E t) := by
  obtain ⟨f, fd, F, hm, M, hb⟩ := c
  exact pe_make M F hr hg hm hb .nil (fun pins σ H s e s' I h => L2N.passAt tk σ pins H s e s' I h) ha hdb he hpl
/-- a call of f is refused, by an error of the class C that says y, as long as I holds -/
def Wk (P : Program) (w : World) (K : PySem.W.Frag) (mg : Str → Option Value) (base : Heap) (k : Nat) (C : Addr) (y : V) (f : Addr) (I : Hp → Prop) : Prop :=
  (∀ H H', I H → ExtN H H' → I H') ∧ ∀ (outer : List Env) (s : Shared) (H : Hp), Act P w K mg base k outer s H f (fun E H2 _ => I H2 ∧ ∀ dd H', Same H2 H' → H' dd = some (.xd [("why", y)]) → E (.ref C) (some dd) H')
theorem wk_of {P : Program} {w : World} {K : PySem.W.Frag} {mg : Str → Option Value} {base : Heap} {X : Cx} {params : Arguments} {body : Expr} {scope : Scope} {f c C : Addr} {y : V} {H H' : Hp} {fr : List Str} {vs : List V} {k : Nat} {t : XK → TE} {J : Hp → Prop} (l : LamAt X params body scope f c H) (e : Same H H')
    (inj : ∀ x y c, X.env.cells.lookup x = some c → X.env.cells.lookup y = some c → x = y) (hl : vs.length = fr.length) (hv : ∀ (i : Nat) (y : Str) (v : V), fr[i]? = some y → vs[i]? = some v → ∃ a, X.env.cells.lookup y = some a ∧ H' a = some (CellO a v)) (S : NScope fr [] fr scope)
    (hbind : ∀ (q : Str) (cl : List (Str × Addr)) (pm cv ctv : Value), bindArgs (PySem.W.kla_fn "<lambda>" q params body scope cl pm cv ctv) ⟨[], []⟩ = pure [])
    (hbody : ∀ (cl : List (Str × Addr)) (c : Addr) (A : Around) (outer : List Env) (s : Shared) (H : Hp) (E : XK), Room k (A.deeper (envF ⟨"<lambda>", X.env.qual ++ "<lambda>", params, [], scope, cl, c⟩ f s.heap.objs.size)) → PE (ncx (L2N.CX P w) P w K mg base fr ⟨"<lambda>", X.env.qual ++ "<lambda>", params, [], scope, cl, c⟩ f A outer s H E) body (t E))
    (jm : ∀ H H', J H → ExtN H H' → J H') (hJ : J H')
    (hc : ∀ (E : XK) (H2 H3 : Hp) (Q : VK), J H2 → Same H3 H2 → (∀ b o, H2 b = some o → (∀ φ, o ≠ .ext φ) → H3 b = some o) → (∀ dd H'', Same H3 H'' → H'' dd = some (.xd [("why", y)]) → E (.ref C) (some dd) H'') → t E (vs.map some) H3 Q) : ∃ I, I H' ∧ Wk P w K mg base (k + 1) C y f I := by
  have es := esc_of (fr := fr) (vs := vs) inj l e S.free (fun y hy => PySem.mem_of_lookup (S.frk y hy)) hl hv
  refine ⟨fun H2 => Esc (X.env.qual ++ "<lambda>") params body scope fr vs f H2 ∧ J H2, ⟨es, hJ⟩, fun H1 H2 h x => ⟨h.1.extN x, jm _ _ h.2 x⟩, fun outer s H0 A o2 s2 H2 Q E hr e0 un ht => ?_⟩
  obtain ⟨⟨hes, hJ2⟩, hE⟩ := ht
  refine esc_act (vs := vs) (t := t) (outer := outer) (s := s) (H := H0) S hbind hbody A o2 s2 H2 Q E hr e0 un ⟨hes, fun H3 s3 n3 => hc _ H2 H3 _ hJ2 s3 n3 fun dd H4 s4 hd H5 s5 s6 => hE dd H5 (s6 s4) (s5 _ _ hd)⟩
theorem LamAt.stays {X : Cx} {params : Arguments} {body : Expr} {scope : Scope} {f c : Addr} {H H' : Hp} (l : LamAt X params body scope f c H) (s : ExtN H H') : LamAt X params body scope f c H' := by
  obtain ⟨h1, pm, ctv, h2⟩ := l
  exact ⟨s _ _ h1 codeO_ne, pm, ctv, s _ _ h2 funO_ne⟩
theorem LamAt.put {X : Cx} {params : Arguments} {body : Expr} {scope : Scope} {f c p : Addr} {H : Hp} {xs : List V} {o : HO} (l : LamAt X params body scope f c H) (h : H p = some (.lst xs)) : LamAt X params body scope f c (upd H p o) := by
  obtain ⟨h1, pm, ctv, h2⟩ := l
  refine ⟨?_, pm, ctv, ?_⟩
  · rw [upd_ne (ne_of h1 h (fun z => by unfold CodeO at z; cases z))]; exact h1
  · rw [upd_ne (ne_of h2 h (fun z => by unfold FunO at z; cases z))]; exact h2
theorem Tabs.put {T : List (Addr × Str)} {H : Hp} {p : Addr} {xs : List V} {o : HO} (t : Tabs T H) (h : H p = some (.lst xs)) : Tabs T (upd H p o) := Tabs.frm1 t (Frm.set (by simp)) h
theorem extN_put {H H1 H2 : Hp} {p : Addr} {o : HO} (x1 : ExtN H H1) (hp : H1 p = none) (x2 : ExtN (upd H1 p o) H2) (o2 : HO) : ExtN H (upd H2 p o2) := fun b u e n => by
  have e1 := x1 b u e n
  have nb : b ≠ p := ne_of_none e1 hp
  rw [upd_ne nb]
  exact x2 b u (by rw [upd_ne nb]; exact e1) n
def spWithR (P : Program) (w : World) (K : PySem.W.Frag) (mg : Str → Option Value) (base : Heap) (T : List (Addr × Str)) (Ck Cr : Addr) : Sp := fun vs H Q _ => ∃ (kn rd : Addr) (g b a s : Int) (x : Str) (C : Addr), vs = [.ref kn, .ref rd] ∧ H kn = some (.tup [.int g, .int b]) ∧ H rd = some (.tup [.int a, .int s]) ∧
  ((knobBad g b = some x ∧ C = Ck) ∨ (knobBad g b = none ∧ readerBad a s = some x ∧ C = Cr)) ∧ Tabs T H ∧
  ∀ (p : Addr) (fs : List Addr) (H' : Hp), ExtN H H' → Tabs T H' → H' p = some (.lst (fs.map V.ref)) → fs.length ≤ 4 → (∀ f ∈ fs, ∃ I, I H' ∧ Wk P w K mg base 6 C (.str x) f I) → Q (.ref p) H'
def spWithK (P : Program) (w : World) (K : PySem.W.Frag) (mg : Str → Option Value) (base : Heap) (T : List (Addr × Str)) (Ck : Addr) : Sp := fun vs H Q _ => ∃ (kn : Addr) (g b : Int) (x : Str), vs = [.ref kn] ∧ H kn = some (.tup [.int g, .int b]) ∧ knobBad g b = some x ∧ Tabs T H ∧
  ∀ (p : Addr) (fs : List Addr) (H' : Hp), ExtN H H' → Tabs T H' → H' p = some (.lst (fs.map V.ref)) → fs.length ≤ 4 → (∀ f ∈ fs, ∃ I, I H' ∧ Wk P w K mg base 6 Ck (.str x) f I) → Q (.ref p) H'
variable {P : Program} {w : World} {K : PySem.W.Frag} {mg : Str → Option Value} {base : Heap}
theorem sc_withr : FnScope ["_law_knob_here", "_law_reader_here", "_law_works"] ["_law_knob_here", "_law_reader_here"] (defScope (top 38)) := ⟨rfl, rfl, rfl, by decide +kernel, rfl, by decide +kernel, by decide +kernel⟩
set_option maxHeartbeats 4000000 in
theorem ok_withr {f c tP Ck Cr : Addr} {T : List (Addr × Str)} {oc kV doc pm ct : Value} {od an : Option Addr} {osl : Array (Option Value)} (lk : K.lookup f = some ⟨oc, od, .func (PySem.W.fnOf "_law_with_reader" "_law_with_reader" (defArgs (top 38)) (defBody (top 38)) (defScope (top 38)) .none kV doc pm an (.ref c) ct), osl⟩) (hcd : PySem.W.codeIn K (.ref c) "_law_with_reader" = true)
    (TB : TabB base mg c tP) (hmT : (tP, ("_law_with_reader.<locals>.<lambda>" : Str)) ∈ T) (huT : ∀ p ∈ T, p.1 = tP → p.2 = "_law_with_reader.<locals>.<lambda>")
    (cx_judged : CalN P w K mg base 4 "judged" ["knob", "reader"] (spKR K Ck Cr 0)) (cx_noisy : CalN P w K mg base 4 "noisy" ["knob", "reader"] (spKR K Ck Cr 0)) (cx_run : CalN P w K mg base 4 "run" ["knob", "reader", "row"] (spKR K Ck Cr 1)) :
    FnOk P w K mg base CX0 2 f (PySem.W.fnOf "_law_with_reader" "_law_with_reader" (defArgs (top 38)) (defBody (top 38)) (defScope (top 38)) .none kV doc pm an (.ref c) ct) ["_law_knob_here", "_law_reader_here"] (spWithR P w K mg base T Ck Cr) := by
  have sc := sc_withr
  refine okHand lk hcd sc (fun vs H Q E h => ?_) (fun A outer s H vs Q E hr h => ?_)
  · obtain ⟨kn, rd, g, b, a, t, x, C, rfl, _⟩ := h
    rfl
  · obtain ⟨kn, rd, g, b, a, t, x, C, rfl, hk, hd, hx, hT, k⟩ := h
    refine ⟨_, (prs_cons (ps_set (i := 2) sc.nd rfl (Or.inl rfl) (pe_lst (pa_cons (pe_lam TB rfl hmT huT (LamX.lamS_by (sc := defScope (top 38)) (by decide +kernel)) rfl) pa_nil)))
(prs_cons (ps_expr (pe_bm PySem.F.plainAttrs_list PySem.F.slot_list_append PySem.F.type_list_append mt_append (pv 2) (pa_cons (pe_lam TB rfl hmT huT (LamX.lamS_by (sc := defScope (top 38)) (by decide +kernel)) rfl) pa_nil)))
(prs_cons (ps_expr (pe_bm PySem.F.plainAttrs_list PySem.F.slot_list_append PySem.F.type_list_append mt_append (pv 2) (pa_cons (pe_lam TB rfl hmT huT (LamX.lamS_by (sc := defScope (top 38)) (by decide +kernel)) rfl) pa_nil)))
(prs_ret (pv 2))))), ?_⟩
    refine ⟨hT, fun f1 c1 H1 x1 T1 l1 => ⟨by show 1 ≤ sizeLine; decide, fun p hp => ?_⟩⟩
    have T1p := T1.ext (same_new hp (o := .lst [.ref f1]))
    have l1p := l1.stays (ExtN.of (same_new hp (o := .lst [.ref f1])))
    have hp1 := upd_same (H := H1) (a := p) (o := .lst [.ref f1])
    have x1p : ExtN H (upd H1 p (.lst [.ref f1])) := x1.trans (ExtN.of (same_new hp))
    refine ⟨_, rfl, .inl ⟨rfl, _, SqL.of hp1⟩, T1p, fun f2 c2 H2 x2 T2 l2 => ?_⟩
    have h21 := x2 _ _ hp1 (fun ps z => by cases z)
    refine ⟨p, _, .ref f2, rfl, rfl, h21, by show 1 < sizeLine; decide, ?_⟩
    have l1q := (l1p.stays x2).put h21 (o := .lst [.ref f1, .ref f2])
    have l2q := l2.put h21 (o := .lst [.ref f1, .ref f2])
    have T2q := Tabs.put T2 h21 (o := .lst [.ref f1, .ref f2])
    have x2q := extN_put x1 hp x2 (.lst [.ref f1, .ref f2])
    have hp2 := upd_same (H := H2) (a := p) (o := .lst [.ref f1, .ref f2])
    refine ⟨_, rfl, .inl ⟨rfl, _, SqL.of hp2⟩, T2q, fun f3 c3 H3 x3 T3 l3 => ?_⟩
    have h31 := x3 _ _ hp2 (fun ps z => by cases z)
    refine ⟨p, _, .ref f3, rfl, rfl, h31, by show 2 < sizeLine; decide, ?_⟩
    have l1r := (l1q.stays x3).put h31 (o := .lst ([.ref f1, .ref f2] ++ [.ref f3]))
    have l2r := (l2q.stays x3).put h31 (o := .lst ([.ref f1, .ref f2] ++ [.ref f3]))
    have l3r := l3.put h31 (o := .lst ([.ref f1, .ref f2] ++ [.ref f3]))
    have T3r := Tabs.put T3 h31 (o := .lst ([.ref f1, .ref f2] ++ [.ref f3]))
    have hp3 := upd_same (H := H3) (a := p) (o := .lst ([.ref f1, .ref f2] ++ [.ref f3]))
    have x3r : ExtN H (upd H3 p (.lst ([.ref f1, .ref f2] ++ [.ref f3]))) := fun b u e n => by
      have nb : b ≠ p := ne_of_none (x1 b u e n) hp
      rw [upd_ne nb]
      exact x3 b u (x2q b u e n) n
    revert l1r l2r l3r T3r hp3 x3r
    generalize upd H3 p (.lst ([.ref f1, .ref f2] ++ [.ref f3])) = H4
    intro l1r l2r l3r T3r hp3 x3r
    refine ⟨_, rfl, fun inj => ⟨[("_law_knob_here", 0, .ref kn), ("_law_reader_here", 1, .ref rd)], by show (["_law_knob_here", "_law_reader_here"] : List Str).Nodup; decide, fun z hz => ?_, fun c4 e4 n4 c5 e5 n5 => ?_⟩⟩
    · rcases List.mem_cons.mp hz with rfl | hz
      · exact ⟨rfl, rfl, by show (defScope (top 38)).names.lookup ("_law_knob_here" : Str) = some NameKind.cell; decide +kernel⟩
      · rw [List.mem_singleton.mp hz]
        exact ⟨rfl, rfl, by show (defScope (top 38)).names.lookup ("_law_reader_here" : Str) = some NameKind.cell; decide +kernel⟩
    have s4 := same_new n4 (o := CellO c4 (.ref kn))
    have s5 := same_new n5 (o := CellO c5 (.ref rd))
    have s45 := s4.trans s5
    have q4 := s5 _ _ (upd_same (H := H4) (a := c4) (o := CellO c4 (.ref kn)))
    have q5 := upd_same (H := upd H4 c4 (CellO c4 (.ref kn))) (a := c5) (o := CellO c5 (.ref rd))
    have xz : ExtN H _ := x3r.trans (ExtN.of s45)
    have jm : ∀ H H' : Hp, (H kn = some (.tup [.int g, .int b]) ∧ H rd = some (.tup [.int a, .int t])) → ExtN H H' → (H' kn = some (.tup [.int g, .int b]) ∧ H' rd = some (.tup [.int a, .int t])) := fun H H' h x => ⟨x _ _ h.1 (fun ps z => by cases z), x _ _ h.2 (fun ps z => by cases z)⟩
    have hJ := jm _ _ ⟨hk, hd⟩ xz
    have hv : ∀ (i : Nat) (y : Str) (v : V), (["_law_knob_here", "_law_reader_here"] : List Str)[i]? = some y → ([V.ref kn, V.ref rd] : List V)[i]? = some v → ∃ a, (cellsFrom (s.heap.objs.size + 1) (defScope (top 38)).names []).lookup y = some a ∧ (upd (upd H4 c4 (CellO c4 (.ref kn))) c5 (CellO c5 (.ref rd))) a = some (CellO a v) := fun i y v h1 h2 => by
      match i with
      | 0 => cases h1; cases h2; exact ⟨c4, e4, q4⟩
      | 1 => cases h1; cases h2; exact ⟨c5, e5, q5⟩
      | i + 2 => cases h1
    have dk : ∀ H3 : Hp, H3 kn = some (.tup [.int g, .int b]) → Dp K H3 (.ref kn) (knD g b) := fun H3 h => .tup (SqT.of h) (dpa_ii _ _)
    have dr : ∀ H3 : Hp, H3 rd = some (.tup [.int a, .int t]) → Dp K H3 (.ref rd) (knD a t) := fun H3 h => .tup (SqT.of h) (dpa_ii _ _)
    refine k p [f1, f2, f3] _ xz (T3r.ext s45) (s45 _ _ hp3) (by show 3 ≤ 4; decide) fun f hf => ?_
    rcases List.mem_cons.mp hf with rfl | hf
    · refine wk_of (k := 5) (fr := ["_law_knob_here", "_law_reader_here"]) (vs := [.ref kn, .ref rd]) l1r s45 inj rfl hv (nscope_by (by decide +kernel)) (fun _ _ _ _ _ => rfl) (fun cl c A outer s H E hr => pe_calN cx_judged (hr.mono (by decide)) (L2N.takes_of rfl rfl rfl rfl) (pa_cons (pv 0) (pa_cons (pv 1) pa_nil))) jm hJ fun E H2 H3 Q hJ2 s3 n3 hE => ?_
      refine ⟨_, rfl, _, rfl, .ref kn, .ref rd, [], g, b, a, t, x, C, rfl, rfl, dk _ (n3 _ _ hJ2.1 (fun φ z => by cases z)), dr _ (n3 _ _ hJ2.2 (fun φ z => by cases z)), hx, fun d hd => hE d _ (same_new hd) upd_same⟩
    rcases List.mem_cons.mp hf with rfl | hf
    · refine wk_of (k := 5) (fr := ["_law_knob_here", "_law_reader_here"]) (vs := [.ref kn, .ref rd]) l2r s45 inj rfl hv (nscope_by (by decide +kernel)) (fun _ _ _ _ _ => rfl) (fun cl c A outer s H E hr => pe_calN cx_noisy (hr.mono (by decide)) (L2N.takes_of rfl rfl rfl rfl) (pa_cons (pv 0) (pa_cons (pv 1) pa_nil))) jm hJ fun E H2 H3 Q hJ2 s3 n3 hE => ?_
      refine ⟨_, rfl, _, rfl, .ref kn, .ref rd, [], g, b, a, t, x, C, rfl, rfl, dk _ (n3 _ _ hJ2.1 (fun φ z => by cases z)), dr _ (n3 _ _ hJ2.2 (fun φ z => by cases z)), hx, fun d hd => hE d _ (same_new hd) upd_same⟩
    · rw [List.mem_singleton.mp hf]
      refine wk_of (k := 5) (fr := ["_law_knob_here", "_law_reader_here"]) (vs := [.ref kn, .ref rd]) l3r s45 inj rfl hv (nscope_by (by decide +kernel)) (fun _ _ _ _ _ => rfl) (fun cl c A outer s H E hr => pe_calN cx_run (hr.mono (by decide)) (L2N.takes_of rfl rfl rfl rfl) (pa_cons (pv 0) (pa_cons (pv 1) (pa_cons (pe_lst (pa_cons (pe_tup (pa_cons pe_int (pa_cons pe_bl pa_nil))) pa_nil)) pa_nil)))) jm hJ fun E H2 H3 Q hJ2 s3 n3 hE => ?_
      refine ⟨_, rfl, _, rfl, by show 2 ≤ sizeLine; decide, fun tp htp => ⟨by show 1 ≤ sizeLine; decide, fun lp hlp => ?_⟩⟩
      have s6 := (same_new htp (o := .tup [.int 7, .bl true])).trans (same_new hlp (o := .lst [.ref tp]))
      refine ⟨.ref kn, .ref rd, [.ref lp], g, b, a, t, x, C, rfl, rfl, dk _ (s6 _ _ (n3 _ _ hJ2.1 (fun φ z => by cases z))), dr _ (s6 _ _ (n3 _ _ hJ2.2 (fun φ z => by cases z))), hx, fun d hd => hE d _ (s6.trans (same_new hd)) upd_same⟩
theorem sc_withk : FnScope ["_law_knob_here", "_law_works"] ["_law_knob_here"] (defScope (top 39)) := ⟨rfl, rfl, rfl, by decide +kernel, rfl, by decide +kernel, by decide +kernel⟩
set_option maxHeartbeats 4000000 in
theorem ok_withk {f c tP Ck : Addr} {T : List (Addr × Str)} {oc kV doc pm ct : Value} {od an : Option Addr} {osl : Array (Option Value)} (lk : K.lookup f = some ⟨oc, od, .func (PySem.W.fnOf "_law_with_knob" "_law_with_knob" (defArgs (top 39)) (defBody (top 39)) (defScope (top 39)) .none kV doc pm an (.ref c) ct), osl⟩) (hcd : PySem.W.codeIn K (.ref c) "_law_with_knob" = true)
    (TB : TabB base mg c tP) (hmT : (tP, ("_law_with_knob.<locals>.<lambda>" : Str)) ∈ T) (huT : ∀ p ∈ T, p.1 = tP → p.2 = "_law_with_knob.<locals>.<lambda>")
    (cx_fitted : CalN P w K mg base 4 "fitted" ["knob"] (spK1 K Ck 0)) (cx_shown : CalN P w K mg base 4 "shown" ["knob", "row"] (spK1 K Ck 1)) (cx_written : CalN P w K mg base 4 "written" ["knob", "row"] (spK1 K Ck 1)) (cx_read_row : CalN P w K mg base 4 "read_row" ["knob", "text"] (spK1 K Ck 1)) :
    FnOk P w K mg base CX0 2 f (PySem.W.fnOf "_law_with_knob" "_law_with_knob" (defArgs (top 39)) (defBody (top 39)) (defScope (top 39)) .none kV doc pm an (.ref c) ct) ["_law_knob_here"] (spWithK P w K mg base T Ck) := by
  have sc := sc_withk
  refine okHand lk hcd sc (fun vs H Q E h => ?_) (fun A outer s H vs Q E hr h => ?_)
  · obtain ⟨kn, g, b, x, rfl, _⟩ := h
    rfl
  · obtain ⟨kn, g, b, x, rfl, hk, hx, hT, k⟩ := h
    refine ⟨_, (prs_cons (ps_set (i := 1) sc.nd rfl (Or.inl rfl) (pe_lst (pa_cons (pe_lam TB rfl hmT huT (LamX.lamS_by (sc := defScope (top 39)) (by decide +kernel)) rfl) pa_nil)))
(prs_cons (ps_expr (pe_bm PySem.F.plainAttrs_list PySem.F.slot_list_append PySem.F.type_list_append mt_append (pv 1) (pa_cons (pe_lam TB rfl hmT huT (LamX.lamS_by (sc := defScope (top 39)) (by decide +kernel)) rfl) pa_nil)))
(prs_cons (ps_expr (pe_bm PySem.F.plainAttrs_list PySem.F.slot_list_append PySem.F.type_list_append mt_append (pv 1) (pa_cons (pe_lam TB rfl hmT huT (LamX.lamS_by (sc := defScope (top 39)) (by decide +kernel)) rfl) pa_nil)))
(prs_cons (ps_expr (pe_bm PySem.F.plainAttrs_list PySem.F.slot_list_append PySem.F.type_list_append mt_append (pv 1) (pa_cons (pe_lam TB rfl hmT huT (LamX.lamS_by (sc := defScope (top 39)) (by decide +kernel)) rfl) pa_nil)))
(prs_ret (pv 1)))))), ?_⟩
    refine ⟨hT, fun f1 c1 H1 x1 T1 l1 => ⟨by show 1 ≤ sizeLine; decide, fun p hp => ?_⟩⟩
    have T1p := T1.ext (same_new hp (o := .lst [.ref f1]))
    have l1p := l1.stays (ExtN.of (same_new hp (o := .lst [.ref f1])))
    have hp1 := upd_same (H := H1) (a := p) (o := .lst [.ref f1])
    refine ⟨_, rfl, .inl ⟨rfl, _, SqL.of hp1⟩, T1p, fun f2 c2 H2 x2 T2 l2 => ?_⟩
    have h21 := x2 _ _ hp1 (fun ps z => by cases z)
    refine ⟨p, _, .ref f2, rfl, rfl, h21, by show 1 < sizeLine; decide, ?_⟩
    have l1q := (l1p.stays x2).put h21 (o := .lst [.ref f1, .ref f2])
    have l2q := l2.put h21 (o := .lst [.ref f1, .ref f2])
    have T2q := Tabs.put T2 h21 (o := .lst [.ref f1, .ref f2])
    have x2q := extN_put x1 hp x2 (.lst [.ref f1, .ref f2])
    have hp2 := upd_same (H := H2) (a := p) (o := .lst [.ref f1, .ref f2])
    refine ⟨_, rfl, .inl ⟨rfl, _, SqL.of hp2⟩, T2q, fun f3 c3 H3 x3 T3 l3 => ?_⟩
    have h31 := x3 _ _ hp2 (fun ps z => by cases z)
    refine ⟨p, _, .ref f3, rfl, rfl, h31, by show 2 < sizeLine; decide, ?_⟩
    have l1r := (l1q.stays x3).put h31 (o := .lst [.ref f1, .ref f2, .ref f3])
    have l2r := (l2q.stays x3).put h31 (o := .lst [.ref f1, .ref f2, .ref f3])
    have l3r := l3.put h31 (o := .lst [.ref f1, .ref f2, .ref f3])
    have T3r := Tabs.put T3 h31 (o := .lst [.ref f1, .ref f2, .ref f3])
    have hp3 := upd_same (H := H3) (a := p) (o := .lst [.ref f1, .ref f2, .ref f3])
    have x3r : ExtN H (upd H3 p (.lst [.ref f1, .ref f2, .ref f3])) := fun b u e n => by
      have nb : b ≠ p := ne_of_none (x1 b u e n) hp
      rw [upd_ne nb]
      exact x3 b u (x2q b u e n) n
    refine ⟨_, rfl, .inl ⟨rfl, _, SqL.of hp3⟩, T3r, fun f4 c4 H4 x4 T4 l4 => ?_⟩
    have h41 := x4 _ _ hp3 (fun ps z => by cases z)
    refine ⟨p, _, .ref f4, rfl, rfl, h41, by show 3 < sizeLine; decide, ?_⟩
    have l1t := (l1r.stays x4).put h41 (o := .lst ([.ref f1, .ref f2, .ref f3] ++ [.ref f4]))
    have l2t := (l2r.stays x4).put h41 (o := .lst ([.ref f1, .ref f2, .ref f3] ++ [.ref f4]))
    have l3t := (l3r.stays x4).put h41 (o := .lst ([.ref f1, .ref f2, .ref f3] ++ [.ref f4]))
    have l4t := l4.put h41 (o := .lst ([.ref f1, .ref f2, .ref f3] ++ [.ref f4]))
    have T4t := Tabs.put T4 h41 (o := .lst ([.ref f1, .ref f2, .ref f3] ++ [.ref f4]))
    have hp4 := upd_same (H := H4) (a := p) (o := .lst ([.ref f1, .ref f2, .ref f3] ++ [.ref f4]))
    have x4t : ExtN H (upd H4 p (.lst ([.ref f1, .ref f2, .ref f3] ++ [.ref f4]))) := fun b u e n => by
      have nb : b ≠ p := ne_of_none (x1 b u e n) hp
      rw [upd_ne nb]
      exact x4 b u (x3r b u e n) n
    revert l1t l2t l3t l4t T4t hp4 x4t
    generalize upd H4 p (.lst ([.ref f1, .ref f2, .ref f3] ++ [.ref f4])) = H5
    intro l1t l2t l3t l4t T4t hp4 x4t
    refine ⟨_, rfl, fun inj => ⟨[("_law_knob_here", 0, .ref kn)], by show (["_law_knob_here"] : List Str).Nodup; decide, fun z hz => ?_, fun c5 e5 n5 => ?_⟩⟩
    · rw [List.mem_singleton.mp hz]
      exact ⟨rfl, rfl, by show (defScope (top 39)).names.lookup ("_law_knob_here" : Str) = some NameKind.cell; decide +kernel⟩
    have s5 := same_new n5 (o := CellO c5 (.ref kn))
    have q5 := upd_same (H := H5) (a := c5) (o := CellO c5 (.ref kn))
    have xz : ExtN H _ := x4t.trans (ExtN.of s5)
    have jm : ∀ H H' : Hp, (H kn = some (.tup [.int g, .int b])) → ExtN H H' → (H' kn = some (.tup [.int g, .int b])) := fun H H' h x => x _ _ h (fun ps z => by cases z)
    have hJ := jm _ _ hk xz
    have hv : ∀ (i : Nat) (y : Str) (v : V), (["_law_knob_here"] : List Str)[i]? = some y → ([V.ref kn] : List V)[i]? = some v → ∃ a, (cellsFrom (s.heap.objs.size + 1) (defScope (top 39)).names []).lookup y = some a ∧ (upd H5 c5 (CellO c5 (.ref kn))) a = some (CellO a v) := fun i y v h1 h2 => by
      match i with
      | 0 => cases h1; cases h2; exact ⟨c5, e5, q5⟩
      | i + 1 => cases h1
    have dk : ∀ H3 : Hp, H3 kn = some (.tup [.int g, .int b]) → Dp K H3 (.ref kn) (knD g b) := fun H3 h => .tup (SqT.of h) (dpa_ii _ _)
    refine k p [f1, f2, f3, f4] _ xz (T4t.ext s5) (s5 _ _ hp4) (by show 4 ≤ 4; decide) fun f hf => ?_
    rcases List.mem_cons.mp hf with rfl | hf
    · refine wk_of (k := 5) (fr := ["_law_knob_here"]) (vs := [.ref kn]) l1t s5 inj rfl hv (nscope_by (by decide +kernel)) (fun _ _ _ _ _ => rfl) (fun cl c A outer s H E hr => pe_calN cx_fitted (hr.mono (by decide)) (L2N.takes_of rfl rfl rfl rfl) (pa_cons (pv 0) pa_nil)) jm hJ fun E H2 H3 Q hJ2 s3 n3 hE => ?_
      refine ⟨_, rfl, .ref kn, [], g, b, x, rfl, rfl, dk _ (n3 _ _ hJ2 (fun φ z => by cases z)), hx, fun d hd => hE d _ (same_new hd) upd_same⟩
    rcases List.mem_cons.mp hf with rfl | hf
    · refine wk_of (k := 5) (fr := ["_law_knob_here"]) (vs := [.ref kn]) l2t s5 inj rfl hv (nscope_by (by decide +kernel)) (fun _ _ _ _ _ => rfl) (fun cl c A outer s H E hr => pe_calN cx_shown (hr.mono (by decide)) (L2N.takes_of rfl rfl rfl rfl) (pa_cons (pv 0) (pa_cons (pe_lst (pa_cons (pe_tup (pa_cons pe_int (pa_cons pe_bl pa_nil))) pa_nil)) pa_nil))) jm hJ fun E H2 H3 Q hJ2 s3 n3 hE => ?_
      refine ⟨_, rfl, by show 2 ≤ sizeLine; decide, fun tp htp => ⟨by show 1 ≤ sizeLine; decide, fun lp hlp => ?_⟩⟩
      have s6 := (same_new htp (o := .tup [.int 7, .bl true])).trans (same_new hlp (o := .lst [.ref tp]))
      refine ⟨.ref kn, [.ref lp], g, b, x, rfl, rfl, dk _ (s6 _ _ (n3 _ _ hJ2 (fun φ z => by cases z))), hx, fun d hd => hE d _ (s6.trans (same_new hd)) upd_same⟩
    rcases List.mem_cons.mp hf with rfl | hf
    · refine wk_of (k := 5) (fr := ["_law_knob_here"]) (vs := [.ref kn]) l3t s5 inj rfl hv (nscope_by (by decide +kernel)) (fun _ _ _ _ _ => rfl) (fun cl c A outer s H E hr => pe_calN cx_written (hr.mono (by decide)) (L2N.takes_of rfl rfl rfl rfl) (pa_cons (pv 0) (pa_cons (pe_lst (pa_cons (pe_tup (pa_cons pe_int (pa_cons pe_bl pa_nil))) pa_nil)) pa_nil))) jm hJ fun E H2 H3 Q hJ2 s3 n3 hE => ?_
      refine ⟨_, rfl, by show 2 ≤ sizeLine; decide, fun tp htp => ⟨by show 1 ≤ sizeLine; decide, fun lp hlp => ?_⟩⟩
      have s6 := (same_new htp (o := .tup [.int 7, .bl true])).trans (same_new hlp (o := .lst [.ref tp]))
      refine ⟨.ref kn, [.ref lp], g, b, x, rfl, rfl, dk _ (s6 _ _ (n3 _ _ hJ2 (fun φ z => by cases z))), hx, fun d hd => hE d _ (s6.trans (same_new hd)) upd_same⟩
    · rw [List.mem_singleton.mp hf]
      refine wk_of (k := 5) (fr := ["_law_knob_here"]) (vs := [.ref kn]) l4t s5 inj rfl hv (nscope_by (by decide +kernel)) (fun _ _ _ _ _ => rfl) (fun cl c A outer s H E hr => pe_calN cx_read_row (hr.mono (by decide)) (L2N.takes_of rfl rfl rfl rfl) (pa_cons (pv 0) (pa_cons pe_str pa_nil))) jm hJ fun E H2 H3 Q hJ2 s3 n3 hE => ?_
      refine ⟨_, rfl, .ref kn, [_], g, b, x, rfl, rfl, dk _ (n3 _ _ hJ2 (fun φ z => by cases z)), hx, fun d hd => hE d _ (same_new hd) upd_same⟩
end
section
open PySem PySem.Spec PyProof.Rows L2 LamX
theorem ta3_mono {i j : Nat} {c : V} : ∀ (σ : L2.St) (H : Hp) (Q Q' : List V → Hp → Prop), tCons (tVar i) (tCons (tC c) (tCons (tVar j) tNil)) σ H Q → (∀ vs H', Q vs H' → Q' vs H') → tCons (tVar i) (tCons (tC c) (tCons (tVar j) tNil)) σ H Q' := fun σ H Q Q' h q => by
  obtain ⟨v, e, w, e2, z⟩ := h
  exact ⟨v, e, w, e2, q _ _ z⟩
/-- what is known of a work where the def's frame stands -/
def AcI (X : Cx) (σ : L2.St) (k : Nat) (f : Addr) (tl : XK → Hp → VK → Prop) : Prop := ∀ (pins : List (Addr × Obj)) (H : Hp) (s : Shared), Inv X pins σ H s → Act X.prog X.w X.K X.mg X.base k X.stack s H f tl
/-- _law_refused(..) within a block of the def X -/
theorem pe_refI {X : Cx} {s : Shared} {H : Hp} {scope : Scope} {cenv : Env} {fp : List Addr} {pins : List (Addr × Obj)} {σ : L2.St} {CE Ck Cr Cw Ct g : Addr} {fd : FuncData} {k i j : Nat} {c : V} {ps : List Str} {x : Str} {e : Expr} {es : List Expr} {p pos : Pos}
    (back : ∀ (qs : List (Addr × Obj)) (τ : L2.St) (H' : Hp) (s' : Shared), Inv (blkQ X s H scope cenv fp) qs τ H' s' → Inv X pins σ H' s')
    (R : RefOk X.prog X.w X.K X.mg X.base CE Ck Cr Cw Ct k g fd ps) (hr : Room (k + 1) X.A) (hm : X.mg x = some (.ref g)) (hk : PySem.W.keepIn X.K (.ref g) = true) (hb : Binds X.K fd ps []) (h3 : ps.length = 3)
    (ha : PA (blkQ X s H scope cenv fp) (e :: es) (tCons (tVar i) (tCons (tC c) (tCons (tVar j) tNil)))) (hg : Gl (blkQ X s H scope cenv fp) x := by rfl) (hdb : (x == ("__debug__" : Str)) = false := by decide) (he : starEach (e :: es) cenv = (false, eval e cenv) :: starEach es cenv := by rfl) (hpl : (backTo pos (starEach es cenv)).any (·.1) = false := by rfl) :
    PE (blkQ X s H scope cenv fp) (.Call (.Name x p) (e :: es) [] pos) (tRefB X.K CE Ck Cr Cw Ct (AcI X σ k) (tCons (tVar i) (tCons (tC c) (tCons (tVar j) tNil)))) :=
  pe_refB (X := blkQ X s H scope cenv fp) (AC := AcI X σ k) (fun f tl h qs τ H' s' I' => h pins H' s' (back qs τ H' s' I')) ta3_mono R hr hm hk hb h3 ha hg hdb he hpl
theorem aci_of {X : Cx} {σ : L2.St} {k : Nat} {f : Addr} {tl : XK → Hp → VK → Prop} (h : ∀ (outer : List Env) (s : Shared) (H : Hp), Act X.prog X.w X.K X.mg X.base k outer s H f tl) : AcI X σ k f tl := fun _ H s _ => h _ s H
end
def tabs3 (tL tR tK : Addr) : List (Addr × Str) := [(tL, "law.<locals>.<lambda>"), (tR, "_law_with_reader.<locals>.<lambda>"), (tK, "_law_with_knob.<locals>.<lambda>")]
theorem tabs3_mR {tL tR tK : Addr} : (tR, ("_law_with_reader.<locals>.<lambda>" : Str)) ∈ tabs3 tL tR tK := List.mem_cons_of_mem _ List.mem_cons_self
theorem tabs3_mK {tL tR tK : Addr} : (tK, ("_law_with_knob.<locals>.<lambda>" : Str)) ∈ tabs3 tL tR tK := List.mem_cons_of_mem _ (List.mem_cons_of_mem _ List.mem_cons_self)
theorem tabs3_uR {tL tR tK : Addr} (h1 : tL ≠ tR) (h2 : tK ≠ tR) : ∀ p ∈ tabs3 tL tR tK, p.1 = tR → p.2 = "_law_with_reader.<locals>.<lambda>" := fun p hp e => by
  rcases List.mem_cons.mp hp with rfl | hp
  · exact absurd e h1
  rcases List.mem_cons.mp hp with rfl | hp
  · rfl
  rw [List.mem_singleton.mp hp] at e
  exact absurd e h2
theorem tabs3_uK {tL tR tK : Addr} (h1 : tL ≠ tK) (h2 : tR ≠ tK) : ∀ p ∈ tabs3 tL tR tK, p.1 = tK → p.2 = "_law_with_knob.<locals>.<lambda>" := fun p hp e => by
  rcases List.mem_cons.mp hp with rfl | hp
  · exact absurd e h1
  rcases List.mem_cons.mp hp with rfl | hp
  · exact absurd e h2
  rw [List.mem_singleton.mp hp]
section
open LamX
theorem frm_ne {d a : Addr} {H H' : Hp} {o : HO} (f : Frm [d] H H') (n : a ≠ d) (h : H a = some o) : H' a = some o := f a o (by simpa using n) h
structure LS (tL tR tK d kn rd : Addr) (g b a s : Int) (H : Hp) : Prop where
  hd : ∃ ms, Dice ms ∧ H d = some (.lst (ms.map V.int))
  hkn : H kn = some (.tup [.int g, .int b])
  hrd : H rd = some (.tup [.int a, .int s])
  hT : Tabs (tabs3 tL tR tK) H
section
variable {tL tR tK d kn rd p : Addr} {g b a s : Int} {H H' : Hp} {o : HO} {ms : List Int} {xs : List V}
theorem LS.tup {q : Addr} (L : LS tL tR tK d kn rd g b a s H) (f : Frm [d] H H') (h : H q = some (.tup xs)) : H' q = some (.tup xs) := by
  obtain ⟨ms, _, hd⟩ := L.hd
  exact frm_ne f (ne_of h hd (fun z => by cases z)) h
theorem LS.step (L : LS tL tR tK d kn rd g b a s H) (f : Frm [d] H H') (h : ∃ ms, Dice ms ∧ H' d = some (.lst (ms.map V.int))) : LS tL tR tK d kn rd g b a s H' := by
  obtain ⟨ms, _, hd⟩ := L.hd
  exact ⟨h, L.tup f L.hkn, L.tup f L.hrd, Tabs.frm1 L.hT f hd⟩
theorem LS.new (L : LS tL tR tK d kn rd g b a s H) (h : H p = none) : LS tL tR tK d kn rd g b a s (upd H p o) := by
  obtain ⟨ms, hD, hd⟩ := L.hd
  exact L.step (Frm.new h) ⟨ms, hD, same_new h _ _ hd⟩
theorem LS.set (hD : Dice ms) (L : LS tL tR tK d kn rd g b a s H) : LS tL tR tK d kn rd g b a s (upd H d (.lst (ms.map V.int))) := L.step (Frm.set (by simp)) ⟨ms, hD, upd_same⟩
theorem LS.put (L : LS tL tR tK d kn rd g b a s H) (n : p ≠ d) (h : H p = some (.lst xs)) : LS tL tR tK d kn rd g b a s (upd H p o) := by
  obtain ⟨ms, hD, hd⟩ := L.hd
  refine ⟨⟨ms, hD, by rw [upd_ne n.symm]; exact hd⟩, ?_, ?_, Tabs.put L.hT h⟩
  · rw [upd_ne (ne_of L.hkn h (fun z => by cases z))]; exact L.hkn
  · rw [upd_ne (ne_of L.hrd h (fun z => by cases z))]; exact L.hrd
theorem LS.ne (L : LS tL tR tK d kn rd g b a s H) (h : H p = none) : p ≠ d := by
  obtain ⟨ms, _, hd⟩ := L.hd
  exact (ne_of_none hd h).symm
end
theorem pickI (xs : List V) {v : Int} (v0 : 0 ≤ v) (v1 : v < xs.length) : ∃ x, atI xs v = some x ∧ x ∈ xs := by
  have hl : v.toNat < xs.length := by omega
  refine ⟨xs[v.toNat], ?_, List.getElem_mem hl⟩
  unfold atI ixN
  rw [if_pos v0, if_pos v1]
  exact List.getElem?_eq_getElem hl
end
section
variable {P : Program} {w : World} {K : PySem.W.Frag} {mg : Str → Option Value} {base : Heap}
theorem sc_law : FnScope ["_law_script", "_law_d", "_law_knob_here", "_law_reader_here", "_law_far", "_law_gaps", "_law_bounces", "_law_none", "_law_bad", "_law_why", "_law_odd", "_law_same", "_law_some", "_law_word", "_law_works", "_law_worse", "_law_work"] ["_law_script"] (defScope (top 40)) := ⟨rfl, rfl, rfl, by decide +kernel, rfl, by decide +kernel, by decide +kernel⟩
set_option maxHeartbeats 16000000 in
theorem ok_law {f gf c tL tR tK CE Ck Cr Cw Ct C : Addr} {fdR : FuncData} {oc kV doc pm ct : Value} {od an : Option Addr} {osl : Array (Option Value)} (lk : K.lookup f = some ⟨oc, od, .func (PySem.W.fnOf "law" "law" (defArgs (top 40)) (defBody (top 40)) (defScope (top 40)) .none kV doc pm an (.ref c) ct), osl⟩) (hcd : PySem.W.codeIn K (.ref c) "law" = true)
    (TB : LamX.TabB base mg c tL) (R : RefOk P w K mg base CE Ck Cr Cw Ct 6 gf fdR ["_law_work", "_law_word", "_law_value"]) (gR : mg "_law_refused" = some (.ref gf)) (kR : PySem.W.keepIn K (.ref gf) = true) (bR : Binds K fdR ["_law_work", "_law_word", "_law_value"] []) (nLR : tR ≠ tL) (nLK : tK ≠ tL) (ewk : ErrW K CE Ck Cr Cw Ct "knob" Ck "why") (ewr : ErrW K CE Ck Cr Cw Ct "reader" Cr "why")
    (ck : CtrK K C) (n_max : mg "max" = none) (n_isinstance : mg "isinstance" = none) (n_tuple : mg "tuple" = none)
    (c__law_dice : Cal P w K mg base 1 "_law_dice" ["_law_script", "_law_k"] (spDice K)) (c__law_off : Cal P w K mg base 1 "_law_off" ["_law_d", "_law_most"] spOff) (c__law_knob : Cal P w K mg base 2 "_law_knob" ["_law_d"] spKnob) (c__law_reader : Cal P w K mg base 2 "_law_reader" ["_law_d"] spReader)
    (c__law_with_knob : Cal P w K mg base 2 "_law_with_knob" ["_law_knob_here"] (spWithK P w K mg base (tabs3 tL tR tK) Ck)) (c__law_with_reader : Cal P w K mg base 2 "_law_with_reader" ["_law_knob_here", "_law_reader_here"] (spWithR P w K mg base (tabs3 tL tR tK) Ck Cr))
    (mx_Counter : MkrN P w K mg base 4 C "Counter" ["self", "reader"] (spRi K Cr)) (m_Counter : Mkr P w K mg base 2 C "Counter" ["self", "reader"] (spCtr K C)) (m_count : Mtd P w K mg base 1 C "count" ["self"] (spCount K C)) (m_missed : Mtd P w K mg base 1 C "missed" ["self"] (spMissed K C))
    (c_judged : Cal P w K mg base 3 "judged" ["knob", "reader"] (spJudged K)) (c_shown : Cal P w K mg base 2 "shown" ["knob", "row"] (spShown K)) : FnOk P w K mg base CX0 10 f (PySem.W.fnOf "law" "law" (defArgs (top 40)) (defBody (top 40)) (defScope (top 40)) .none kV doc pm an (.ref c) ct) ["_law_script"] (spLaw K (tabs3 tL tR tK)) := by
  have sc := sc_law
  have cl := ck.cl
  have hmT : (tL, ("law.<locals>.<lambda>" : Str)) ∈ (tabs3 tL tR tK) := List.mem_cons_self
  have huT : ∀ p ∈ (tabs3 tL tR tK), p.1 = tL → p.2 = "law.<locals>.<lambda>" := fun p hp e => by
    rcases List.mem_cons.mp hp with rfl | hp
    · rfl
    rcases List.mem_cons.mp hp with rfl | hp
    · exact absurd e nLR
    rw [List.mem_singleton.mp hp] at e
    exact absurd e nLK
  refine okC lk hcd sc (fun vs H Q E h => ?_) (fun A outer s H vs Q E hr h => ?_)
  · obtain ⟨a, ns, rfl, _⟩ := h
    rfl
  · obtain ⟨sa, ns, rfl, hS, hlen, hT0, k⟩ := h
    refine ⟨_, (pss_cons (ps_set (i := 1) sc.nd rfl (Or.inl rfl) (pe_cal c__law_dice (hr.mono (by first | decide | omega)) (pa_cons (pv 0) (pa_cons pe_int pa_nil))))
(pss_cons (ps_par (i := 2) (j := 3) (by rfl) sc.nd rfl rfl (by decide) rfl rfl (pa_cons (pe_cal c__law_knob (hr.mono (by first | decide | omega)) (pa_cons (pv 1) pa_nil)) (pa_cons (pe_cal c__law_reader (hr.mono (by first | decide | omega)) (pa_cons (pv 1) pa_nil)) pa_nil)) (by rfl))
(C8.pss_cut (ps_set (i := 4) sc.nd rfl (Or.inl rfl) (pe_callB (call_max2 rfl) (by rfl) n_max (by decide +kernel) (pa_cons pe_int (pa_cons (pe_op op_sub (pe_cal c__law_off (hr.mono (by first | decide | omega)) (pa_cons (pv 1) (pa_cons (pe_op op_pow pe_int pe_int) pa_nil))) pe_int) pa_nil))))
(C8.pss_cut (ps_set (i := 5) sc.nd rfl (Or.inl rfl) (pe_lst (pa_cons pe_int (pa_cons pe_int (pa_cons (pe_op op_sub (pe_un un_neg pe_int) (pv 4)) (pa_cons (pe_op op_add pe_int (pv 4)) pa_nil))))))
(C8.pss_cut (ps_set (i := 6) sc.nd rfl (Or.inl rfl) (pe_lst (pa_cons (pe_un un_neg pe_int) (pa_cons (pe_op op_add (pe_ix (r := rIxT K) ix_tup (pv 2) pe_int (fun _ _ => rfl)) pe_int) (pa_cons (pe_op op_sub (pe_un un_neg pe_int) (pv 4)) (pa_cons (pe_op op_add (pe_op op_add (pe_ix (r := rIxT K) ix_tup (pv 2) pe_int (fun _ _ => rfl)) pe_int) (pv 4)) pa_nil))))))
(C8.pss_cut (ps_set (i := 7) sc.nd rfl (Or.inl rfl) (pe_lst (pa_cons (pe_tup (pa_cons (pe_tup (pa_cons (pe_cut (pe_ix (r := rIxL K) ix_list (pv 5) (pe_cal c__law_off (hr.mono (by first | decide | omega)) (pa_cons (pv 1) (pa_cons pe_int pa_nil))) (fun _ _ => rfl))) (pa_cons (pe_cut (pe_ix (r := rIxL K) ix_list (pe_lst (pa_cons pe_int (pa_cons (pe_un un_neg pe_int) (pa_cons pe_int pa_nil)))) (pe_cal c__law_off (hr.mono (by first | decide | omega)) (pa_cons (pv 1) (pa_cons pe_int pa_nil))) (fun _ _ => rfl))) pa_nil))) (pa_cons pe_str pa_nil))) pa_nil)))
(C8.pss_cut (ps_expr (pe_bm PySem.F.plainAttrs_list PySem.F.slot_list_append PySem.F.type_list_append mt_append (pv 7) (pa_cons (pe_tup (pa_cons (pe_tup (pa_cons (pe_ix (r := rIxT K) ix_tup (pv 2) pe_int (fun _ _ => rfl)) (pa_cons (pe_cut (pe_ix (r := rIxL K) ix_list (pv 6) (pe_cal c__law_off (hr.mono (by first | decide | omega)) (pa_cons (pv 1) (pa_cons pe_int pa_nil))) (fun _ _ => rfl))) pa_nil))) (pa_cons pe_str pa_nil))) pa_nil)))
(C8.pss_cut (ps_asg (pe_cut (pe_ix (r := rIxL K) ix_list (pv 7) (pe_cal c__law_off (hr.mono (by first | decide | omega)) (pa_cons (pv 1) (pa_cons pe_int pa_nil))) (fun _ _ => rfl))) (pg_tup rfl (pgs_cons (pg_name (i := 8) sc.nd rfl (Or.inl rfl)) (pgs_cons (pg_name (i := 9) sc.nd rfl (Or.inr rfl)) pgs_nil))))
(C8.pss_cut (ps_set (i := 10) sc.nd rfl (Or.inl rfl) (pe_cut (pe_ix (r := rIxL K) ix_list (pe_lst (pa_cons pe_int (pa_cons pe_int (pa_cons (pe_op op_sub (pe_un un_neg pe_int) (pv 4)) (pa_cons (pe_op op_add pe_int (pv 4)) pa_nil))))) (pe_cal c__law_off (hr.mono (by first | decide | omega)) (pa_cons (pv 1) (pa_cons pe_int pa_nil))) (fun _ _ => rfl))))
(C8.pss_cut (ps_set (i := 11) sc.nd rfl (Or.inl rfl) (pe_cut (pe_ix (r := rIxL K) ix_list (pe_lst (pa_cons pe_int (pa_cons pe_int (pa_cons (pe_op op_sub (pe_un un_neg pe_int) (pv 4)) (pa_cons (pe_op op_add pe_int (pv 4)) pa_nil))))) (pe_cal c__law_off (hr.mono (by first | decide | omega)) (pa_cons (pv 1) (pa_cons pe_int pa_nil))) (fun _ _ => rfl))))
(C8.pss_cut (ps_set (i := 12) sc.nd rfl (Or.inl rfl) (pe_lst (pa_cons (pe_tup (pa_cons (pe_tup (pa_cons (pv 10) (pa_cons (pe_cut (pe_ix (r := rIxL K) ix_list (pe_lst (pa_cons pe_int (pa_cons (pv 11) pa_nil))) (pe_cal c__law_off (hr.mono (by first | decide | omega)) (pa_cons (pv 1) (pa_cons pe_int pa_nil))) (fun _ _ => rfl))) pa_nil))) (pa_cons pe_str pa_nil))) (pa_cons (pe_tup (pa_cons (pe_tup (pa_cons (pe_ix (r := rIxT K) ix_tup (pv 3) pe_int (fun _ _ => rfl)) (pa_cons (pv 11) pa_nil))) (pa_cons pe_str pa_nil))) pa_nil))))
(C8.pss_cut (ps_asg (pe_cut (pe_ix (r := rIxL K) ix_list (pv 12) (pe_cal c__law_off (hr.mono (by first | decide | omega)) (pa_cons (pv 1) (pa_cons pe_int pa_nil))) (fun _ _ => rfl))) (pg_tup rfl (pgs_cons (pg_name (i := 15) sc.nd rfl (Or.inr rfl)) (pgs_cons (pg_name (i := 13) sc.nd rfl (Or.inr rfl)) pgs_nil))))
(C8.pss_cut (ps_set (i := 14) sc.nd rfl (Or.inl rfl) (pe_op op_cat (pe_cal c__law_with_knob (hr.mono (by first | decide | omega)) (pa_cons (pv 8) pa_nil)) (pe_cal c__law_with_reader (hr.mono (by first | decide | omega)) (pa_cons (pv 8) (pa_cons (pv 15) pa_nil)))))
(pss_cons (ps_if (pt_cmpR (r := rNeD K) (op_neD hr.units) (pe_cut (pe_lcI (own := [("_law_work", 16)]) (g := gName 16) rfl sc.nd (pi_list (pv 14)) (blkOk_by (own := [("_law_work", 16)]) (N := ["_law_script", "_law_d", "_law_knob_here", "_law_reader_here", "_law_far", "_law_gaps", "_law_bounces", "_law_none", "_law_bad", "_law_why", "_law_odd", "_law_same", "_law_some", "_law_word", "_law_works", "_law_worse", "_law_work"]) (sc := defScope (top 40)) (by decide +kernel)) (fun _ _ _ _ _ => (pg_name (i := 16) sc.nd rfl (Or.inl rfl))) (fun _ _ _ _ _ _ _ back => (pts_one (pt_not (pt_val (pe_refI back R (hr.mono (by first | decide | omega)) gR kR bR rfl (pa_cons (pv 16) (pa_cons pe_str (pa_cons (pv 9) pa_nil)))))))) (fun _ _ _ _ _ => (pv 16)))) (pe_lst pa_nil) (nomark _))
(pss_one (ps_ret pe_bl))
pss_nil)
(pss_cons (ps_set (i := 14) sc.nd rfl (Or.inl rfl) (pe_op op_cat (pe_cal c__law_with_reader (hr.mono (by first | decide | omega)) (pa_cons (pv 2) (pa_cons (pv 15) pa_nil))) (pe_lst (pa_cons (pe_lam TB rfl hmT huT (LamX.lamS_by (sc := defScope (top 40)) (by decide +kernel)) rfl) pa_nil))))
(pss_cons (ps_if (pt_cmpR (r := rNeD K) (op_neD hr.units) (pe_cut (pe_lcI (own := [("_law_work", 16)]) (g := gName 16) rfl sc.nd (pi_list (pv 14)) (blkOk_by (own := [("_law_work", 16)]) (N := ["_law_script", "_law_d", "_law_knob_here", "_law_reader_here", "_law_far", "_law_gaps", "_law_bounces", "_law_none", "_law_bad", "_law_why", "_law_odd", "_law_same", "_law_some", "_law_word", "_law_works", "_law_worse", "_law_work"]) (sc := defScope (top 40)) (by decide +kernel)) (fun _ _ _ _ _ => (pg_name (i := 16) sc.nd rfl (Or.inl rfl))) (fun _ _ _ _ _ _ _ back => (pts_one (pt_not (pt_val (pe_refI back R (hr.mono (by first | decide | omega)) gR kR bR rfl (pa_cons (pv 16) (pa_cons pe_str (pa_cons (pv 13) pa_nil)))))))) (fun _ _ _ _ _ => (pv 16)))) (pe_lst pa_nil) (nomark _))
(pss_one (ps_ret pe_bl))
pss_nil)
(pss_cons (ps_if (PW.pt (pw_or (pt_not (pt_val (pe_callB (r := rIsi K) call_isi (by rfl) n_isinstance (by decide +kernel) (pa_cons (pe_cal c_judged (hr.mono (by first | decide | omega)) (pa_cons (pv 2) (pa_cons (pv 3) pa_nil))) (pa_cons (pe_bltn (v := .ty "tuple") (by rfl) n_tuple (by decide +kernel) rfl) pa_nil))))) (pw_or (pt_cmpR op_ne (pe_mtd0 m_count cl (hr.mono (by first | decide | omega)) (pe_mkr m_Counter (hr.mono (by first | decide | omega)) (pa_cons (pv 3) pa_nil))) pe_int (nomark _)) (pw_or1 (pt_cmpR op_ne (pe_mtd0 m_missed cl (hr.mono (by first | decide | omega)) (pe_mkr m_Counter (hr.mono (by first | decide | omega)) (pa_cons (pv 3) pa_nil))) pe_int (nomark _))))))
(pss_one (ps_ret pe_bl))
pss_nil)
(pss_one (ps_ret (pe_cmpR (r := rEqD K) (op_eqD hr.units) (pe_cal c_shown (hr.mono (by first | decide | omega)) (pa_cons (pv 2) (pa_cons (pe_lst pa_nil) pa_nil))) (pe_lst pa_nil) (nomark _))))))))))))))))))))), ?_⟩
    refine ⟨_, rfl, sa, ns, rfl, hS, hlen, fun d ms H1 hd0 s1 hd1 hD1 => ?_⟩
    have hT1 := hT0.ext s1
    refine ⟨_, rfl, d, ms, rfl, hd1, hD1, fun g b ms2 kn g1 g6 b0 b1 hD2 hkn => ?_⟩
    have nkd : d ≠ kn := ne_of_none hd1 hkn
    have hd2 : (upd (upd H1 d (.lst (ms2.map V.int))) kn (.tup [.int g, .int b])) d = some (.lst (ms2.map V.int)) := by rw [upd_ne nkd, upd_same]
    have hk2 : (upd (upd H1 d (.lst (ms2.map V.int))) kn (.tup [.int g, .int b])) kn = some (.tup [.int g, .int b]) := upd_same
    have fr2 : Frm [d] H1 (upd (upd H1 d (.lst (ms2.map V.int))) kn (.tup [.int g, .int b])) := (Frm.set (by simp)).trans (Frm.new (by rw [upd_ne nkd.symm]; exact hkn))
    have hT2 := Tabs.frm1 hT1 fr2 hd1
    revert hd2 hk2 hT2
    generalize upd (upd H1 d (.lst (ms2.map V.int))) kn (.tup [.int g, .int b]) = H2
    intro hd2 hk2 hT2
    refine ⟨_, rfl, d, ms2, rfl, hd2, hD2, fun ra rs ms3 rd a1 a6 s1 s3 hD3 hrd => ?_⟩
    have nrd : d ≠ rd := ne_of_none hd2 hrd
    have frR : Frm [d] H2 (upd (upd H2 d (.lst (ms3.map V.int))) rd (.tup [.int ra, .int rs])) := (Frm.set (by simp)).trans (Frm.new (by rw [upd_ne nrd.symm]; exact hrd))
    have hd3 : (upd (upd H2 d (.lst (ms3.map V.int))) rd (.tup [.int ra, .int rs])) d = some (.lst (ms3.map V.int)) := by rw [upd_ne nrd, upd_same]
    have hk3 := frR _ _ (by simpa using nkd.symm) hk2
    have hr3 : (upd (upd H2 d (.lst (ms3.map V.int))) rd (.tup [.int ra, .int rs])) rd = some (.tup [.int ra, .int rs]) := upd_same
    have hT3 := Tabs.frm1 hT2 frR hd2
    revert hd3 hk3 hr3 hT3
    generalize upd (upd H2 d (.lst (ms3.map V.int))) rd (.tup [.int ra, .int rs]) = H3
    intro hd3 hk3 hr3 hT3
    refine ⟨_, _, rfl, ?_⟩
    refine ⟨fun σ H' => ∃ (far : Int) (u5 u6 u7 u8 u9 u10 u11 u12 u13 u14 u15 u16 : Option V), σ = [some (.ref sa), some (.ref d), some (.ref kn), some (.ref rd), some (.int far), u5, u6, u7, u8, u9, u10, u11, u12, u13, u14, u15, u16] ∧ 0 ≤ far ∧ LS tL tR tK d kn rd g b ra rs H', ?_, ?_⟩
    · refine ⟨_, rfl, _, _, rfl, rfl, ⟨by decide, by decide, by decide⟩, d, ms3, 1000000, rfl, hd3, hD3, by decide, by decide, fun v ms4 v0 v1 hD4 => ?_⟩
      exact ⟨_, _, rfl, rfl, _, _, rfl, _, _, _, _, _, _, _, _, _, _, _, _, _, rfl, (by split <;> omega), LS.set hD4 ⟨⟨ms3, hD3, hd3⟩, hk3, hr3, hT3⟩⟩
    clear hd3 hk3 hr3 hT3
    rintro σ H4 ⟨far, u5, u6, u7, u8, u9, u10, u11, u12, u13, u14, u15, u16, rfl, hf0, L4⟩
    refine ⟨fun σ H' => ∃ (l1 : Addr) (u6 u7 u8 u9 u10 u11 u12 u13 u14 u15 u16 : Option V), σ = [some (.ref sa), some (.ref d), some (.ref kn), some (.ref rd), some (.int far), some (.ref l1), u6, u7, u8, u9, u10, u11, u12, u13, u14, u15, u16] ∧ LS tL tR tK d kn rd g b ra rs H' ∧ l1 ≠ d ∧ H' l1 = some (.lst [.int 0, .int 7, .int (-1 - far), .int (7 + far)]), ?_, ?_⟩
    · refine ⟨_, rfl, _, rfl, _, _, rfl, rfl, _, rfl, _, _, rfl, rfl, by show 4 ≤ sizeLine; decide, fun l1 hl1 => ?_⟩
      exact ⟨l1, _, _, _, _, _, _, _, _, _, _, _, rfl, L4.new hl1, L4.ne hl1, upd_same⟩
    clear L4
    rintro σ H4 ⟨l1, u6, u7, u8, u9, u10, u11, u12, u13, u14, u15, u16, rfl, L4, n1, h1⟩
    refine ⟨fun σ H' => ∃ (l2 : Addr) (u7 u8 u9 u10 u11 u12 u13 u14 u15 u16 : Option V), σ = [some (.ref sa), some (.ref d), some (.ref kn), some (.ref rd), some (.int far), some (.ref l1), some (.ref l2), u7, u8, u9, u10, u11, u12, u13, u14, u15, u16] ∧ LS tL tR tK d kn rd g b ra rs H' ∧ H' l1 = some (.lst [.int 0, .int 7, .int (-1 - far), .int (7 + far)]) ∧ l2 ≠ d ∧ H' l2 = some (.lst [.int (-1), .int (g + 1), .int (-1 - far), .int (g + 1 + far)]), ?_, ?_⟩
    · refine ⟨_, rfl, _, rfl, kn, _, _, _, rfl, rfl, SqT.of L4.hkn, rfl, _, _, rfl, rfl, _, rfl, _, rfl, _, _, rfl, rfl, _, rfl, kn, _, _, _, rfl, rfl, SqT.of L4.hkn, rfl, _, _, rfl, rfl, _, rfl, _, _, rfl, rfl, by show 4 ≤ sizeLine; decide, fun l2 hl2 => ?_⟩
      exact ⟨l2, _, _, _, _, _, _, _, _, _, _, rfl, L4.new hl2, same_new hl2 _ _ h1, L4.ne hl2, upd_same⟩
    clear L4 h1
    rintro σ H4 ⟨l2, u7, u8, u9, u10, u11, u12, u13, u14, u15, u16, rfl, L4, h1, n2, h2⟩
    refine ⟨fun σ H' => ∃ (l3 t3 t1 : Addr) (z1 z2 : Int) (u5 u8 u9 u10 u11 u12 u13 u14 u15 u16 : Option V), σ = [some (.ref sa), some (.ref d), some (.ref kn), some (.ref rd), some (.int far), u5, some (.ref l2), some (.ref l3), u8, u9, u10, u11, u12, u13, u14, u15, u16] ∧ LS tL tR tK d kn rd g b ra rs H' ∧ H' l2 = some (.lst [.int (-1), .int (g + 1), .int (-1 - far), .int (g + 1 + far)]) ∧ l3 ≠ d ∧ H' l3 = some (.lst [.ref t3]) ∧ H' t3 = some (.tup [.ref t1, .str "gap"]) ∧ H' t1 = some (.tup [.int z1, .int z2]) ∧ ¬ (1 ≤ z1 ∧ z1 ≤ 6), ?_, ?_⟩
    · refine ⟨fun x H' => ∃ z, x = .int z ∧ ¬ (1 ≤ z ∧ z ≤ 6) ∧ Frm [d] H4 H' ∧ LS tL tR tK d kn rd g b ra rs H', ?_, ?_⟩
      · obtain ⟨ms, hD, hd⟩ := L4.hd
        refine ⟨_, rfl, _, rfl, d, ms, 4, rfl, hd, hD, by decide, by decide, fun v ms' v0 v1 hD' => ?_⟩
        obtain ⟨x, hx, hm⟩ := pickI [.int 0, .int 7, .int (-1 - far), .int (7 + far)] v0 v1
        refine ⟨l1, _, _, x, rfl, rfl, SqL.of (by rw [upd_ne n1]; exact h1), hx, ?_⟩
        simp only [List.mem_cons, List.not_mem_nil, or_false] at hm
        rcases hm with rfl | rfl | rfl | rfl <;> exact ⟨_, rfl, by omega, Frm.set (by simp), L4.set hD'⟩
      rintro _ H5 ⟨z1, rfl, gz1, f5, L5⟩
      refine ⟨fun x H' => ∃ z, x = .int z ∧ Frm [d] H5 H' ∧ LS tL tR tK d kn rd g b ra rs H', ?_, ?_⟩
      · obtain ⟨ms, hD, hd⟩ := L5.hd
        refine ⟨_, rfl, by show 3 ≤ sizeLine; decide, fun l hl => ?_⟩
        refine ⟨_, rfl, d, ms, 3, rfl, same_new hl _ _ hd, hD, by decide, by decide, fun v ms' v0 v1 hD' => ?_⟩
        obtain ⟨x, hx, hm⟩ := pickI [.int 0, .int (-1), .int 99] v0 v1
        refine ⟨l, _, _, x, rfl, rfl, SqL.of (by rw [upd_ne (L5.ne hl)]; exact upd_same), hx, ?_⟩
        have f6 := (Frm.new (ps := [d]) hl (o := .lst [.int 0, .int (-1), .int 99])).trans (Frm.set (a := d) (o := .lst (ms'.map V.int)) (by simp))
        simp only [List.mem_cons, List.not_mem_nil, or_false] at hm
        rcases hm with rfl | rfl | rfl <;> exact ⟨_, rfl, f6, (L5.new hl).set hD'⟩
      rintro _ H6 ⟨z2, rfl, f6, L6⟩
      refine ⟨by show 2 ≤ sizeLine; decide, fun t1 ht1 => ⟨by show 2 ≤ sizeLine; decide, fun t3 ht3 => ⟨by show 1 ≤ sizeLine; decide, fun l3 hl3 => ?_⟩⟩⟩
      have s3 := same_new hl3 (o := .lst [.ref t3])
      have s2 := same_new ht3 (o := .tup [.ref t1, .str "gap"])
      have s1' := same_new ht1 (o := .tup [.int z1, .int z2])
      exact ⟨l3, t3, t1, z1, z2, _, _, _, _, _, _, _, _, _, _, rfl, ((L6.new ht1).new ht3).new hl3, s3 _ _ (s2 _ _ (s1' _ _ (frm_ne f6 n2 (frm_ne f5 n2 h2)))), ((L6.new ht1).new ht3).ne hl3, upd_same, s3 _ _ upd_same, s3 _ _ (s2 _ _ upd_same), gz1⟩
    clear L4 h1 h2
    rintro σ H4 ⟨l3, t3, t1, z1, z2, u5, u8, u9, u10, u11, u12, u13, u14, u15, u16, rfl, L4, h2, n3, h3, e3, e1, gz1⟩
    refine ⟨fun σ H' => ∃ (t4 t2 : Addr) (z3 : Int) (u5 u6 u8 u9 u10 u11 u12 u13 u14 u15 u16 : Option V), σ = [some (.ref sa), some (.ref d), some (.ref kn), some (.ref rd), some (.int far), u5, u6, some (.ref l3), u8, u9, u10, u11, u12, u13, u14, u15, u16] ∧ LS tL tR tK d kn rd g b ra rs H' ∧ H' l3 = some (.lst [.ref t3, .ref t4]) ∧ H' t3 = some (.tup [.ref t1, .str "gap"]) ∧ H' t1 = some (.tup [.int z1, .int z2]) ∧ H' t4 = some (.tup [.ref t2, .str "bounce"]) ∧ H' t2 = some (.tup [.int g, .int z3]) ∧ ¬ (0 ≤ z3 ∧ z3 ≤ g), ?_, ?_⟩
    · refine ⟨_, rfl, .inl ⟨rfl, _, SqL.of h3⟩, _, rfl, kn, _, _, _, rfl, rfl, SqT.of L4.hkn, rfl, ?_⟩
      refine ⟨fun x H' => ∃ z, x = .int z ∧ ¬ (0 ≤ z ∧ z ≤ g) ∧ Frm [d] H4 H' ∧ LS tL tR tK d kn rd g b ra rs H', ?_, ?_⟩
      · obtain ⟨ms, hD, hd⟩ := L4.hd
        refine ⟨_, rfl, _, rfl, d, ms, 4, rfl, hd, hD, by decide, by decide, fun v ms' v0 v1 hD' => ?_⟩
        obtain ⟨x, hx, hm⟩ := pickI [.int (-1), .int (g + 1), .int (-1 - far), .int (g + 1 + far)] v0 v1
        refine ⟨l2, _, _, x, rfl, rfl, SqL.of (by rw [upd_ne n2]; exact h2), hx, ?_⟩
        simp only [List.mem_cons, List.not_mem_nil, or_false] at hm
        rcases hm with rfl | rfl | rfl | rfl <;> exact ⟨_, rfl, by omega, Frm.set (by simp), L4.set hD'⟩
      rintro _ H5 ⟨z3, rfl, gz3, f5, L5⟩
      refine ⟨by show 2 ≤ sizeLine; decide, fun t2 ht2 => ⟨by show 2 ≤ sizeLine; decide, fun t4 ht4 => ?_⟩⟩
      have s2 := same_new ht2 (o := .tup [.int g, .int z3])
      have s4 := same_new ht4 (o := .tup [.ref t2, .str "bounce"])
      have s24 := s2.trans s4
      have h3' := s24 _ _ (frm_ne f5 n3 h3)
      refine ⟨l3, _, _, rfl, rfl, h3', by show 1 < sizeLine; decide, ?_⟩
      have e3' := s24 _ _ (L4.tup f5 e3)
      have e1' := s24 _ _ (L4.tup f5 e1)
      have e4' := upd_same (H := upd H5 t2 (.tup [.int g, .int z3])) (a := t4) (o := .tup [.ref t2, .str "bounce"])
      have e2' := s4 _ _ (upd_same (H := H5) (a := t2) (o := .tup [.int g, .int z3]))
      refine ⟨t4, t2, z3, _, _, _, _, _, _, _, _, _, _, _, rfl, ((L5.new ht2).new ht4).put n3 h3', upd_same, ?_, ?_, ?_, ?_, gz3⟩
      · rw [upd_ne (ne_of e3' h3' (fun z => by cases z))]; exact e3'
      · rw [upd_ne (ne_of e1' h3' (fun z => by cases z))]; exact e1'
      · rw [upd_ne (ne_of e4' h3' (fun z => by cases z))]; exact e4'
      · rw [upd_ne (ne_of e2' h3' (fun z => by cases z))]; exact e2'
    clear L4 h2 h3 e3 e1
    rintro σ H4 ⟨t4, t2, z3, u5, u6, u8, u9, u10, u11, u12, u13, u14, u15, u16, rfl, L4, h3, e3, e1, e4, e2, gz3⟩
    refine ⟨fun σ H' => ∃ (kb : Addr) (g' b' : Int) (why : Str) (u5 u6 u7 u10 u11 u12 u13 u14 u15 u16 : Option V), σ = [some (.ref sa), some (.ref d), some (.ref kn), some (.ref rd), some (.int far), u5, u6, u7, some (.ref kb), some (.str why), u10, u11, u12, u13, u14, u15, u16] ∧ LS tL tR tK d kn rd g b ra rs H' ∧ H' kb = some (.tup [.int g', .int b']) ∧ knobBad g' b' = some why, ?_, ?_⟩
    · refine ⟨fun x H' => ∃ (q kb : Addr) (g' b' : Int) (why : Str), x = .ref q ∧ H' q = some (.tup [.ref kb, .str why]) ∧ LS tL tR tK d kn rd g b ra rs H' ∧ H' kb = some (.tup [.int g', .int b']) ∧ knobBad g' b' = some why, ?_, ?_⟩
      · obtain ⟨ms, hD, hd⟩ := L4.hd
        refine ⟨_, rfl, _, rfl, d, ms, 2, rfl, hd, hD, by decide, by decide, fun v ms' v0 v1 hD' => ?_⟩
        obtain ⟨x, hx, hm⟩ := pickI [.ref t3, .ref t4] v0 v1
        refine ⟨l3, _, _, x, rfl, rfl, SqL.of (by rw [upd_ne n3]; exact h3), hx, ?_⟩
        have f5 := Frm.set (H := H4) (ps := [d]) (a := d) (o := .lst (ms'.map V.int)) (by simp)
        simp only [List.mem_cons, List.not_mem_nil, or_false] at hm
        rcases hm with rfl | rfl
        · exact ⟨t3, t1, z1, z2, "gap", rfl, L4.tup f5 e3, L4.set hD', L4.tup f5 e1, if_pos gz1⟩
        · exact ⟨t4, t2, g, z3, "bounce", rfl, L4.tup f5 e4, L4.set hD', L4.tup f5 e2, by unfold knobBad; rw [if_neg (fun z => z ⟨g1, g6⟩), if_pos gz3]⟩
      rintro _ H5 ⟨q, kb, g', b', why, rfl, hq, L5, hkb, kB⟩
      exact ⟨q, _, rfl, SqT.of hq, rfl, _, _, rfl, _, _, rfl, rfl, kb, g', b', why, _, _, _, _, _, _, _, _, _, _, rfl, L5, hkb, kB⟩
    clear L4 h3 e3 e1 e4 e2
    rintro σ H4 ⟨kb, g', b', why, u5, u6, u7, u10, u11, u12, u13, u14, u15, u16, rfl, L4, hkb, kB⟩
    refine ⟨fun σ H' => ∃ (zo : Int) (u5 u6 u7 u11 u12 u13 u14 u15 u16 : Option V), σ = [some (.ref sa), some (.ref d), some (.ref kn), some (.ref rd), some (.int far), u5, u6, u7, some (.ref kb), some (.str why), some (.int zo), u11, u12, u13, u14, u15, u16] ∧ LS tL tR tK d kn rd g b ra rs H' ∧ H' kb = some (.tup [.int g', .int b']) ∧ ¬ (1 ≤ zo ∧ zo ≤ 6), ?_, ?_⟩
    · refine ⟨fun x H' => ∃ z, x = .int z ∧ ¬ (1 ≤ z ∧ z ≤ 6) ∧ Frm [d] H4 H' ∧ LS tL tR tK d kn rd g b ra rs H', ?_, ?_⟩
      · obtain ⟨ms, hD, hd⟩ := L4.hd
        refine ⟨_, rfl, _, rfl, _, _, rfl, rfl, _, rfl, _, _, rfl, rfl, by show 4 ≤ sizeLine; decide, fun l hl => ?_⟩
        refine ⟨_, rfl, d, ms, 4, rfl, same_new hl _ _ hd, hD, by decide, by decide, fun v ms' v0 v1 hD' => ?_⟩
        obtain ⟨x, hx, hm⟩ := pickI [.int 0, .int 7, .int (-1 - far), .int (7 + far)] v0 v1
        refine ⟨l, _, _, x, rfl, rfl, SqL.of (by rw [upd_ne (L4.ne hl)]; exact upd_same), hx, ?_⟩
        have f6 := (Frm.new (ps := [d]) hl (o := .lst [.int 0, .int 7, .int (-1 - far), .int (7 + far)])).trans (Frm.set (a := d) (o := .lst (ms'.map V.int)) (by simp))
        simp only [List.mem_cons, List.not_mem_nil, or_false] at hm
        rcases hm with rfl | rfl | rfl | rfl <;> exact ⟨_, rfl, by omega, f6, (L4.new hl).set hD'⟩
      rintro _ H5 ⟨zo, rfl, gz, f5, L5⟩
      exact ⟨zo, _, _, _, _, _, _, _, _, _, rfl, L5, L4.tup f5 hkb, gz⟩
    have hkb0 := hkb
    clear hkb0 L4 hkb
    rintro σ H4 ⟨zo, u5, u6, u7, u11, u12, u13, u14, u15, u16, rfl, L4, hkb, gzo⟩
    refine ⟨fun σ H' => ∃ (zs : Int) (u5 u6 u7 u12 u13 u14 u15 u16 : Option V), σ = [some (.ref sa), some (.ref d), some (.ref kn), some (.ref rd), some (.int far), u5, u6, u7, some (.ref kb), some (.str why), some (.int zo), some (.int zs), u12, u13, u14, u15, u16] ∧ LS tL tR tK d kn rd g b ra rs H' ∧ H' kb = some (.tup [.int g', .int b']) ∧ ¬ (1 ≤ zs ∧ zs ≤ 3), ?_, ?_⟩
    · refine ⟨fun x H' => ∃ z, x = .int z ∧ ¬ (1 ≤ z ∧ z ≤ 3) ∧ Frm [d] H4 H' ∧ LS tL tR tK d kn rd g b ra rs H', ?_, ?_⟩
      · obtain ⟨ms, hD, hd⟩ := L4.hd
        refine ⟨_, rfl, _, rfl, _, _, rfl, rfl, _, rfl, _, _, rfl, rfl, by show 4 ≤ sizeLine; decide, fun l hl => ?_⟩
        refine ⟨_, rfl, d, ms, 4, rfl, same_new hl _ _ hd, hD, by decide, by decide, fun v ms' v0 v1 hD' => ?_⟩
        obtain ⟨x, hx, hm⟩ := pickI [.int 0, .int 4, .int (-1 - far), .int (4 + far)] v0 v1
        refine ⟨l, _, _, x, rfl, rfl, SqL.of (by rw [upd_ne (L4.ne hl)]; exact upd_same), hx, ?_⟩
        have f6 := (Frm.new (ps := [d]) hl (o := .lst [.int 0, .int 4, .int (-1 - far), .int (4 + far)])).trans (Frm.set (a := d) (o := .lst (ms'.map V.int)) (by simp))
        simp only [List.mem_cons, List.not_mem_nil, or_false] at hm
        rcases hm with rfl | rfl | rfl | rfl <;> exact ⟨_, rfl, by omega, f6, (L4.new hl).set hD'⟩
      rintro _ H5 ⟨zs, rfl, gz, f5, L5⟩
      exact ⟨zs, _, _, _, _, _, _, _, _, rfl, L5, L4.tup f5 hkb, gz⟩
    have hkb0 := hkb
    clear hkb0 L4 hkb
    rintro σ H4 ⟨zs, u5, u6, u7, u12, u13, u14, u15, u16, rfl, L4, hkb, gzs⟩
    refine ⟨fun σ H' => ∃ (l4 t5 t6 t7 t8 : Addr) (z5 : Int) (u4 u5 u6 u7 u10 u11 u13 u14 u15 u16 : Option V), σ = [some (.ref sa), some (.ref d), some (.ref kn), some (.ref rd), u4, u5, u6, u7, some (.ref kb), some (.str why), u10, u11, some (.ref l4), u13, u14, u15, u16] ∧ LS tL tR tK d kn rd g b ra rs H' ∧ H' kb = some (.tup [.int g', .int b']) ∧ l4 ≠ d ∧ H' l4 = some (.lst [.ref t5, .ref t6]) ∧ H' t5 = some (.tup [.ref t7, .str "apart"]) ∧ H' t7 = some (.tup [.int zo, .int z5]) ∧ H' t6 = some (.tup [.ref t8, .str "same"]) ∧ H' t8 = some (.tup [.int ra, .int zs]), ?_, ?_⟩
    · refine ⟨_, rfl, ?_⟩
      refine ⟨fun x H' => ∃ z, x = .int z ∧ Frm [d] H4 H' ∧ LS tL tR tK d kn rd g b ra rs H', ?_, ?_⟩
      · obtain ⟨ms, hD, hd⟩ := L4.hd
        refine ⟨_, rfl, by show 2 ≤ sizeLine; decide, fun l hl => ?_⟩
        refine ⟨_, rfl, d, ms, 2, rfl, same_new hl _ _ hd, hD, by decide, by decide, fun v ms' v0 v1 hD' => ?_⟩
        obtain ⟨x, hx, hm⟩ := pickI [.int 2, .int zs] v0 v1
        refine ⟨l, _, _, x, rfl, rfl, SqL.of (by rw [upd_ne (L4.ne hl)]; exact upd_same), hx, ?_⟩
        have f6 := (Frm.new (ps := [d]) hl (o := .lst [.int 2, .int zs])).trans (Frm.set (a := d) (o := .lst (ms'.map V.int)) (by simp))
        simp only [List.mem_cons, List.not_mem_nil, or_false] at hm
        rcases hm with rfl | rfl <;> exact ⟨_, rfl, f6, (L4.new hl).set hD'⟩
      rintro _ H5 ⟨z5, rfl, f5, L5⟩
      refine ⟨by show 2 ≤ sizeLine; decide, fun t7 ht7 => ⟨by show 2 ≤ sizeLine; decide, fun t5 ht5 => ?_⟩⟩
      have L6 := (L5.new ht7 (o := .tup [.int zo, .int z5])).new ht5 (o := .tup [.ref t7, .str "apart"])
      refine ⟨_, rfl, rd, _, _, _, rfl, rfl, SqT.of L6.hrd, rfl, _, rfl, by show 2 ≤ sizeLine; decide, fun t8 ht8 => ⟨by show 2 ≤ sizeLine; decide, fun t6 ht6 => ⟨by show 2 ≤ sizeLine; decide, fun l4 hl4 => ?_⟩⟩⟩
      have L8 := (L6.new ht8 (o := .tup [.int ra, .int zs])).new ht6 (o := .tup [.ref t8, .str "same"])
      have s7 := same_new ht7 (o := .tup [.int zo, .int z5])
      have s5 := same_new ht5 (o := .tup [.ref t7, .str "apart"])
      have s8 := same_new ht8 (o := .tup [.int ra, .int zs])
      have s6 := same_new ht6 (o := .tup [.ref t8, .str "same"])
      have s9 := same_new hl4 (o := .lst [.ref t5, .ref t6])
      exact ⟨l4, t5, t6, t7, t8, z5, _, _, _, _, _, _, _, _, _, _, rfl, L8.new hl4, s9 _ _ (s6 _ _ (s8 _ _ (s5 _ _ (s7 _ _ (L4.tup f5 hkb))))), L8.ne hl4, upd_same, s9 _ _ (s6 _ _ (s8 _ _ upd_same)), s9 _ _ (s6 _ _ (s8 _ _ (s5 _ _ upd_same))), s9 _ _ upd_same, s9 _ _ (s6 _ _ upd_same)⟩
    clear L4 hkb
    rintro σ H4 ⟨l4, t5, t6, t7, t8, z5, u4, u5, u6, u7, u10, u11, u13, u14, u15, u16, rfl, L4, hkb, n4, h4, e5, e7, e6, e8⟩
    refine ⟨fun σ H' => ∃ (rb : Addr) (a' s' : Int) (word : Str) (u4 u5 u6 u7 u10 u11 u12 u14 u16 : Option V), σ = [some (.ref sa), some (.ref d), some (.ref kn), some (.ref rd), u4, u5, u6, u7, some (.ref kb), some (.str why), u10, u11, u12, some (.str word), u14, some (.ref rb), u16] ∧ H' kn = some (.tup [.int g, .int b]) ∧ H' rd = some (.tup [.int ra, .int rs]) ∧ LamX.Tabs (tabs3 tL tR tK) H' ∧ H' kb = some (.tup [.int g', .int b']) ∧ H' rb = some (.tup [.int a', .int s']) ∧ readerBad a' s' = some word, ?_, ?_⟩
    · refine ⟨fun x H' => ∃ (q rb : Addr) (a' s' : Int) (word : Str), x = .ref q ∧ H' q = some (.tup [.ref rb, .str word]) ∧ LS tL tR tK d kn rd g b ra rs H' ∧ H' kb = some (.tup [.int g', .int b']) ∧ H' rb = some (.tup [.int a', .int s']) ∧ readerBad a' s' = some word, ?_, ?_⟩
      · obtain ⟨ms, hD, hd⟩ := L4.hd
        refine ⟨_, rfl, _, rfl, d, ms, 2, rfl, hd, hD, by decide, by decide, fun v ms' v0 v1 hD' => ?_⟩
        obtain ⟨x, hx, hm⟩ := pickI [.ref t5, .ref t6] v0 v1
        refine ⟨l4, _, _, x, rfl, rfl, SqL.of (by rw [upd_ne n4]; exact h4), hx, ?_⟩
        have f5 := Frm.set (H := H4) (ps := [d]) (a := d) (o := .lst (ms'.map V.int)) (by simp)
        simp only [List.mem_cons, List.not_mem_nil, or_false] at hm
        rcases hm with rfl | rfl
        · exact ⟨t5, t7, zo, z5, "apart", rfl, L4.tup f5 e5, L4.set hD', L4.tup f5 hkb, L4.tup f5 e7, if_pos gzo⟩
        · exact ⟨t6, t8, ra, zs, "same", rfl, L4.tup f5 e6, L4.set hD', L4.tup f5 hkb, L4.tup f5 e8, by unfold readerBad; rw [if_neg (fun z => z ⟨a1, a6⟩), if_pos gzs]⟩
      rintro _ H5 ⟨q, rb, a', s', word, rfl, hq, L5, hkb5, hrb, rB⟩
      exact ⟨q, _, rfl, SqT.of hq, rfl, _, _, rfl, _, _, rfl, rfl, rb, a', s', word, _, _, _, _, _, _, _, _, _, rfl, L5.hkn, L5.hrd, L5.hT, hkb5, hrb, rB⟩
    clear L4 hkb h4 e5 e7 e6 e8
    rintro σ H4 ⟨rb, a', s', word, u4, u5, u6, u7, u10, u11, u12, u14, u16, rfl, hk4, hr4, hT4, hkb, hrb, rB⟩
    refine ⟨fun σ H' => ∃ (p : Addr) (fs : List Addr) (u4 u5 u6 u7 u10 u11 u12 u16 : Option V), σ = [some (.ref sa), some (.ref d), some (.ref kn), some (.ref rd), u4, u5, u6, u7, some (.ref kb), some (.str why), u10, u11, u12, some (.str word), some (.ref p), some (.ref rb), u16] ∧ H' kn = some (.tup [.int g, .int b]) ∧ H' rd = some (.tup [.int ra, .int rs]) ∧ LamX.Tabs (tabs3 tL tR tK) H' ∧ H' rb = some (.tup [.int a', .int s']) ∧ H' p = some (.lst (fs.map V.ref)) ∧ (∀ f ∈ fs, ∃ I, I H' ∧ Wk P w K mg base 6 Ck (.str why) f I), ?_, ?_⟩
    · refine ⟨_, rfl, kb, g', b', why, rfl, hkb, kB, hT4, fun p1 fs1 H5 x5 T5 hp1 hl1 hw1 => ?_⟩
      have tu : ∀ {H H' : Hp} {q : Addr} {xs : List V}, LamX.ExtN H H' → H q = some (.tup xs) → H' q = some (.tup xs) := fun x h => x _ _ h (fun ps z => by cases z)
      refine ⟨_, rfl, _, rfl, kb, rb, g', b', a', s', why, Ck, rfl, tu x5 hkb, tu x5 hrb, .inl ⟨kB, rfl⟩, T5, fun p2 fs2 H6 x6 T6 hp2 hl2 hw2 => ?_⟩
      refine ⟨p1, p2, _, _, rfl, rfl, x6 _ _ hp1 (fun ps z => by cases z), hp2, (by rw [List.length_map, List.length_map, sizeLine_eq]; omega), fun p hp => ?_⟩
      have s7 := same_new hp (o := .lst (fs1.map V.ref ++ fs2.map V.ref))
      have x7 := x6.trans (LamX.ExtN.of s7)
      have x57 := x5.trans x7
      refine ⟨p, fs1 ++ fs2, _, _, _, _, _, _, _, _, rfl, tu x57 hk4, tu x57 hr4, T6.ext s7, tu x57 hrb, (by rw [List.map_append]; exact upd_same), fun f hf => ?_⟩
      rcases List.mem_append.mp hf with hf | hf
      · obtain ⟨I, hI, hW⟩ := hw1 f hf
        exact ⟨I, hW.1 _ _ hI x7, hW⟩
      · obtain ⟨I, hI, hW⟩ := hw2 f hf
        exact ⟨I, hW.1 _ _ hI (LamX.ExtN.of s7), hW⟩
    clear hk4 hr4 hT4 hkb hrb
    rintro σ H4 ⟨p, fs, u4, u5, u6, u7, u10, u11, u12, u16, rfl, hk4, hr4, hT4, hrb, hp4, hw⟩
    -- the works that a knob is handed to
    refine ⟨fun x H' => ∃ D, x = .ref D ∧ H' D = some (.lst []) ∧ Same H4 H', ?_, ?_⟩
    · refine ⟨_, rfl, p, rfl, ⟨_, SqL.of hp4⟩, fun D hD => ?_⟩
      refine lc_list (xs := fs.map V.ref) (fun i H' => Same H4 H' ∧ H' D = some (.lst [])) ⟨same_new hD, upd_same⟩ (fun i H' _ h => SqL.of (h.1 _ _ hp4)) ?_ (fun H' h => ⟨D, rfl, h.2, h.1⟩)
      rintro i x H5 hx ⟨s5, hD5⟩
      obtain ⟨f, hf, rfl⟩ := List.mem_map.mp (List.mem_of_getElem? hx)
      obtain ⟨I, hI, hW⟩ := hw f hf
      refine ⟨rfl, _, rfl, _, rfl, f, Ck, "knob", "why", .str why, _, rfl, .inr ⟨_, rfl⟩, ewk, aci_of hW.2, ⟨hW.1 _ _ hI (LamX.ExtN.of s5), fun dd H6 s6 hdd => ⟨rfl, dd, rfl, hdd, fun H7 s7 => ⟨true, rfl, iteF ⟨s5.trans (s6.trans s7), s7 _ _ (s6 _ _ hD5)⟩⟩⟩⟩⟩
    rintro _ H5 ⟨D, rfl, hD5, s5⟩
    refine ⟨Nat.zero_le _, fun q hq => ?_⟩
    have s6 := s5.trans (same_new hq (o := .lst []))
    refine ⟨.list [], .list [], .lst (SqL.of (same_new hq _ _ hD5)) .nil, .lst (SqL.of upd_same) .nil, rfl, rfl, false, rfl, iteF ?_⟩
    have hk6 := s6 _ _ hk4
    have hr6 := s6 _ _ hr4
    have hT6 := hT4.ext s6
    have hrb6 := s6 _ _ hrb
    revert hk6 hr6 hT6 hrb6
    generalize upd H5 q (.lst []) = H6
    clear hk4 hr4 hT4 hrb hp4 hw hD5 s5 s6 hq
    intro hk4 hr4 hT4 hrb
    have kG : knobBad g b = none := by unfold knobBad; rw [if_neg (fun z => z ⟨g1, g6⟩), if_neg (fun z => z ⟨b0, b1⟩)]
    refine ⟨_, rfl, _, rfl, kn, rb, g, b, a', s', word, Cr, rfl, hk4, hrb, .inr ⟨kG, rB, rfl⟩, hT4, fun p1 fs1 H5 x5 T5 hp1 hl1 hw1 => ?_⟩
    refine ⟨T5, fun fL cL H7 x7 T7 lL => ⟨by show 1 ≤ sizeLine; decide, fun q2 hq2 => ?_⟩⟩
    have s8 := same_new hq2 (o := .lst [.ref fL])
    have tu : ∀ {H H' : Hp} {q : Addr} {xs : List V}, LamX.ExtN H H' → H q = some (.tup xs) → H' q = some (.tup xs) := fun x h => x _ _ h (fun ps z => by cases z)
    refine ⟨p1, q2, _, _, rfl, rfl, s8 _ _ (x7 _ _ hp1 (fun ps z => by cases z)), upd_same, (by rw [List.length_map, sizeLine_eq]; show _ + 1 ≤ _; omega), fun p2 hp2 => ?_⟩
    have s9 := s8.trans (same_new hp2 (o := .lst (fs1.map V.ref ++ [.ref fL])))
    have hp9 := upd_same (H := upd H7 q2 (.lst [.ref fL])) (a := p2) (o := .lst (fs1.map V.ref ++ [.ref fL]))
    have x79 := x7.trans (LamX.ExtN.of s9)
    have x59 := x5.trans x79
    have hk9 := tu x59 hk4
    have hr9 := tu x59 hr4
    have hb9 := tu x59 hrb
    have lL9 := lL.ext s9
    have hw9 : ∀ f ∈ fs1, ∃ I : Hp → Prop, I (upd (upd H7 q2 (.lst [.ref fL])) p2 (.lst (fs1.map V.ref ++ [.ref fL]))) ∧ Wk P w K mg base 6 Cr (.str word) f I := fun f hf => by
      obtain ⟨I, hI, hW⟩ := hw1 f hf
      exact ⟨I, hW.1 _ _ hI x79, hW⟩
    revert hp9 hk9 hr9 hb9 lL9 hw9
    generalize upd (upd H7 q2 (.lst [.ref fL])) p2 (.lst (fs1.map V.ref ++ [.ref fL])) = H9
    intro hp9 hk9 hr9 hb9 lL9 hw9
    clear x59 x79 s9 hp2 s8 hq2 lL T7 x7 hw1 hp1 T5 x5 hk4 hr4 hT4 hrb hl1
    -- the works that a reader is handed to
    refine ⟨fun x H' => ∃ D, x = .ref D ∧ H' D = some (.lst []) ∧ Same H9 H', ?_, ?_⟩
    · refine ⟨_, rfl, p2, rfl, ⟨_, SqL.of hp9⟩, fun D hD => ?_⟩
      refine lc_list (xs := fs1.map V.ref ++ [.ref fL]) (fun i H' => Same H9 H' ∧ H' D = some (.lst [])) ⟨same_new hD, upd_same⟩ (fun i H' _ h => SqL.of (h.1 _ _ hp9)) ?_ (fun H' h => ⟨D, rfl, h.2, h.1⟩)
      rintro i x H5 hx ⟨s5, hD5⟩
      rcases List.mem_append.mp (List.mem_of_getElem? hx) with hm | hm
      · obtain ⟨f, hf, rfl⟩ := List.mem_map.mp hm
        obtain ⟨I, hI, hW⟩ := hw9 f hf
        refine ⟨rfl, _, rfl, _, rfl, f, Cr, "reader", "why", .str word, _, rfl, .inr ⟨_, rfl⟩, ewr, aci_of hW.2, ⟨hW.1 _ _ hI (LamX.ExtN.of s5), fun dd H6 s6 hdd => ⟨rfl, dd, rfl, hdd, fun H7 s7 => ⟨true, rfl, iteF ⟨s5.trans (s6.trans s7), s7 _ _ (s6 _ _ hD5)⟩⟩⟩⟩⟩
      · obtain rfl := List.mem_singleton.mp hm
        refine ⟨rfl, _, rfl, _, rfl, fL, Cr, "reader", "why", .str word, _, rfl, .inr ⟨_, rfl⟩, ewr, (fun pins H s I => lam_act (k := 5) I (LamX.lamS_by (sc := defScope (top 40)) (by decide +kernel)) (fun _ _ _ _ _ => rfl) (fun A outer s H E f c hr => pe_mkrN mx_Counter hr (L2N.takes_of rfl rfl rfl rfl) (pa_cons (pv 15) pa_nil))), lL9.ext s5, ?_⟩
        refine ⟨_, rfl, fun x dx hx hdx ne => ?_⟩
        have sA : Same H5 (upd (upd H5 dx (.own x)) x (.ins C dx [])) := (same_new hdx).trans (same_new (by rw [upd_ne ne.symm]; exact hx))
        refine ⟨.ref x, .ref rb, a', s', word, rfl, .tup (SqT.of (sA _ _ (s5 _ _ hb9))) (dpa_ii _ _), rB, fun dd hdd => ⟨rfl, dd, rfl, upd_same, fun H7 s7 => ⟨true, rfl, iteF ⟨?_, ?_⟩⟩⟩⟩
        · exact s5.trans ((sA.trans (same_new hdd)).trans s7)
        · exact s7 _ _ (same_new hdd _ _ (sA _ _ hD5))
    rintro _ H5 ⟨D, rfl, hD5, s5⟩
    refine ⟨Nat.zero_le _, fun q hq => ?_⟩
    have s6 := s5.trans (same_new hq (o := .lst []))
    refine ⟨.list [], .list [], .lst (SqL.of (same_new hq _ _ hD5)) .nil, .lst (SqL.of upd_same) .nil, rfl, rfl, false, rfl, iteF ?_⟩
    have hk6 := s6 _ _ hk9
    have hr6 := s6 _ _ hr9
    revert hk6 hr6
    generalize upd H5 q (.lst []) = H6
    clear hk9 hr9 hb9 lL9 hw9 hp9 hD5 s5 s6 hq
    intro hk6 hr6
    have dk : ∀ {H' : Hp}, Same H6 H' → Dp K H' (.ref kn) (knD g b) := fun s => .tup (SqT.of (s _ _ hk6)) (dpa_ii _ _)
    have dr : ∀ {H' : Hp}, Same H6 H' → Dp K H' (.ref rd) (knD ra rs) := fun s => .tup (SqT.of (s _ _ hr6)) (dpa_ii _ _)
    -- good ones are let go
    refine ⟨_, rfl, _, rfl, .ref kn, .ref rd, ⟨g, b, ra, rs⟩, rfl, dk (Same.refl _), dr (Same.refl _), ⟨g1, g6, b0, b1, a1, a6, s1, s3⟩, fun r3 r2 _ _ p H7 hp s7 w1 w2 w3 => ?_⟩
    have hpt : ∃ xs, H7 p = some (.tup xs) := by
      cases e3 : r3 with
      | some row =>
        obtain ⟨l, xs, _, h, _⟩ := w1 row e3
        exact ⟨_, h⟩
      | none =>
        cases e2 : r2 with
        | some row =>
          obtain ⟨l, xs, _, h, _⟩ := w2 e3 row e2
          exact ⟨_, h⟩
        | none => exact ⟨_, w3 e3 e2⟩
    obtain ⟨xs, hpx⟩ := hpt
    refine ⟨.ref p, .ty "tuple", .type "tuple", .type "tuple", true, rfl, .ty "tuple", ty_tup (SqT.of hpx), kit_ty (by decide +kernel), true, rfl, iteF ?_⟩
    refine ⟨_, rfl, fun c dx hc hdx nec => ?_⟩
    have sA : Same H7 (upd (upd H7 dx (.own c)) c (.ins C dx [])) := (same_new hdx).trans (same_new (by rw [upd_ne nec.symm]; exact hc))
    refine ⟨c, dx, .ref rd, ra, rs, rfl, upd_same, dr (s7.trans sA), a1, a6, s1, s3, fun H8 fr8 hct8 => ⟨rfl, ?_⟩⟩
    have s8 : Same H7 H8 := fun b o e => fr8 b o (by simpa using ne_of_none e hc) (sA b o e)
    have cc := hct8.ctr (ps := [c])
    obtain ⟨dxc, kvc, mvc, hcc, _⟩ := id cc
    refine ⟨c, dxc, _, rfl, hcc, rfl, c, _, [c], rfl, cc, rfl, _, rfl, iteF ?_⟩
    refine ⟨_, rfl, fun c2 dx2 hc2 hdx2 nec2 => ?_⟩
    have sB : Same H8 (upd (upd H8 dx2 (.own c2)) c2 (.ins C dx2 [])) := (same_new hdx2).trans (same_new (by rw [upd_ne nec2.symm]; exact hc2))
    refine ⟨c2, dx2, .ref rd, ra, rs, rfl, upd_same, dr ((s7.trans s8).trans sB), a1, a6, s1, s3, fun H9 fr9 hct9 => ⟨rfl, ?_⟩⟩
    have s9 : Same H8 H9 := fun b o e => fr9 b o (by simpa using ne_of_none e hc2) (sB b o e)
    have cc2 := hct9.ctr (ps := [c2])
    obtain ⟨dxc2, kvc2, mvc2, hcc2, _⟩ := id cc2
    refine ⟨c2, dxc2, _, rfl, hcc2, rfl, c2, _, [c2], rfl, cc2, rfl, _, rfl, iteF ?_⟩
    have s79 := (s7.trans s8).trans s9
    refine ⟨_, rfl, Nat.zero_le _, fun l hl => ?_⟩
    have s10 := s79.trans (same_new hl (o := .lst []))
    refine ⟨.ref kn, .ref l, g, b, [], [], rfl, live_nil, (by rw [fz_nil]; exact dk s10), g1, g6, b0, b1, (by rw [fz_nil]; exact .lst (SqL.of upd_same) .nil), good_nil, fun p3 xs3 H11 hp3 s11 hx3 hX3 => ?_⟩
    have ex : xs3 = [] := by cases hX3; rfl
    subst ex
    refine ⟨Nat.zero_le _, fun l5 hl5 => ⟨.list [], .list [], .lst (SqL.of (same_new hl5 _ _ hx3)) .nil, .lst (SqL.of upd_same) .nil, rfl, rfl, ?_⟩⟩
    exact k _
end
theorem all_mk {l : PySem.W.OpenLaw} {w : World} {K : PySem.W.Frag} {h : Heap} {mg : Str → Option Value} {fa : Addr} (X : K.In h) (G : h.Ns mainGlobals mg) (hfa : mg "law" = some (.ref fa))
    {cK tK : Addr} {eK : Value} {dK : Option Addr} {vK : Array Value} {yK : Array (Option Value)}
    {cR tR : Addr} {eR : Value} {dR : Option Addr} {vR : Array Value} {yR : Array (Option Value)}
    {cL tP : Addr} {eL : Value} {dL : Option Addr} {vL : Array Value} {yL : Array (Option Value)}
    {f1 : Addr} {od1 an1 : Option Addr} {sl1 : Array (Option Value)} {oc1 kV1 dc1 pm1 cd1 ct1 : Value}
    {f2 : Addr} {od2 an2 : Option Addr} {sl2 : Array (Option Value)} {oc2 kV2 dc2 pm2 cd2 ct2 : Value}
    {f3 : Addr} {od3 an3 : Option Addr} {sl3 : Array (Option Value)} {oc3 kV3 dc3 pm3 cd3 ct3 : Value}
    {f4 : Addr} {od4 an4 : Option Addr} {sl4 : Array (Option Value)} {oc4 kV4 dc4 pm4 cd4 ct4 : Value}
    {f5 : Addr} {od5 an5 : Option Addr} {sl5 : Array (Option Value)} {oc5 kV5 dc5 pm5 ct5 : Value}
    {f6 : Addr} {od6 an6 : Option Addr} {sl6 : Array (Option Value)} {oc6 kV6 dc6 pm6 ct6 : Value}
    {f7 : Addr} {od7 an7 : Option Addr} {sl7 : Array (Option Value)} {oc7 kV7 dc7 pm7 cd7 ct7 : Value}
    {f8 : Addr} {od8 an8 : Option Addr} {sl8 : Array (Option Value)} {oc8 kV8 dc8 pm8 cd8 ct8 : Value}
    {f9 : Addr} {od9 an9 : Option Addr} {sl9 : Array (Option Value)} {oc9 kV9 dc9 pm9 cd9 ct9 : Value}
    {f10 : Addr} {od10 an10 : Option Addr} {sl10 : Array (Option Value)} {oc10 kV10 dc10 pm10 cd10 ct10 : Value}
    {f11 : Addr} {od11 an11 : Option Addr} {sl11 : Array (Option Value)} {oc11 kV11 dc11 pm11 cd11 ct11 : Value}
    {f12 : Addr} {od12 an12 : Option Addr} {sl12 : Array (Option Value)} {oc12 kV12 dc12 pm12 cd12 ct12 : Value}
    {f13 : Addr} {od13 an13 : Option Addr} {sl13 : Array (Option Value)} {oc13 kV13 dc13 pm13 cd13 ct13 : Value}
    {f14 : Addr} {od14 an14 : Option Addr} {sl14 : Array (Option Value)} {oc14 kV14 dc14 pm14 cd14 ct14 : Value}
    {f15 : Addr} {od15 an15 : Option Addr} {sl15 : Array (Option Value)} {oc15 kV15 dc15 pm15 cd15 ct15 : Value}
    {f16 : Addr} {od16 an16 : Option Addr} {sl16 : Array (Option Value)} {oc16 kV16 dc16 pm16 cd16 ct16 : Value}
    {f17 : Addr} {od17 an17 : Option Addr} {sl17 : Array (Option Value)} {oc17 kV17 dc17 pm17 cd17 ct17 : Value}
    {f18 : Addr} {od18 an18 : Option Addr} {sl18 : Array (Option Value)} {oc18 kV18 dc18 pm18 cd18 ct18 : Value}
    {f19 : Addr} {od19 an19 : Option Addr} {sl19 : Array (Option Value)} {oc19 kV19 dc19 pm19 ct19 : Value}
    {f20 : Addr} {od20 an20 : Option Addr} {sl20 : Array (Option Value)} {oc20 kV20 dc20 pm20 cd20 ct20 : Value}
    {tg_MISSED : Tok}
    {tg_MOST_APART : Tok}
    {tg_MOST_GAP : Tok}
    {tg_MOST_ROW : Tok}
    {tg_MOST_SAME : Tok}
    {aP p0 p1 p2 p3 : Addr}
    {nP0 : Nat} {slP0 : Array (Option Value)}
    {odP1 : Option Addr} {nP1 : Nat} {slP1 : Array (Option Value)}
    {u00 u01 : Tok}
    {odP2 : Option Addr} {nP2 : Nat} {slP2 : Array (Option Value)}
    {u10 u11 : Tok}
    {odP3 : Option Addr} {nP3 : Nat} {slP3 : Array (Option Value)}
    {u20 u21 : Tok}
    {odP4 : Option Addr} {nP4 : Nat} {slP4 : Array (Option Value)}
    {u30 u31 : Tok}
    {C_Counter : Addr}
    {fCounterxinitx : Addr} {odCounterxinitx anCounterxinitx : Option Addr} {slCounterxinitx : Array (Option Value)} {ocCounterxinitx kVCounterxinitx dcCounterxinitx pmCounterxinitx cdCounterxinitx ctCounterxinitx : Value}
    {fCounterlook : Addr} {odCounterlook anCounterlook : Option Addr} {slCounterlook : Array (Option Value)} {ocCounterlook kVCounterlook dcCounterlook pmCounterlook cdCounterlook ctCounterlook : Value}
    {fCountercount : Addr} {odCountercount anCountercount : Option Addr} {slCountercount : Array (Option Value)} {ocCountercount kVCountercount dcCountercount pmCountercount cdCountercount ctCountercount : Value}
    {fCountermissed : Addr} {odCountermissed anCountermissed : Option Addr} {slCountermissed : Array (Option Value)} {ocCountermissed kVCountermissed dcCountermissed pmCountermissed cdCountermissed ctCountermissed : Value}
    {C_Game : Addr}
    {fGamexinitx : Addr} {odGamexinitx anGamexinitx : Option Addr} {slGamexinitx : Array (Option Value)} {ocGamexinitx kVGamexinitx dcGamexinitx pmGamexinitx cdGamexinitx ctGamexinitx : Value}
    {fGamemoves : Addr} {odGamemoves anGamemoves : Option Addr} {slGamemoves : Array (Option Value)} {ocGamemoves kVGamemoves dcGamemoves pmGamemoves cdGamemoves ctGamemoves : Value}
    {fGamebehind : Addr} {odGamebehind anGamebehind : Option Addr} {slGamebehind : Array (Option Value)} {ocGamebehind kVGamebehind dcGamebehind pmGamebehind cdGamebehind ctGamebehind : Value}
    {fGamefirst_row : Addr} {odGamefirst_row anGamefirst_row : Option Addr} {slGamefirst_row : Array (Option Value)} {ocGamefirst_row kVGamefirst_row dcGamefirst_row pmGamefirst_row cdGamefirst_row ctGamefirst_row : Value}
    {C_KnobError : Addr}
    {C_BadKnob : Addr}
    {C_BadReader : Addr}
    {C_BadRow : Addr}
    {C_BadText : Addr}
    {nm_BadKnob q_BadKnob : Str} {N_BadKnob : Addr} {bs_BadKnob bm_BadKnob su_BadKnob : List Value} {sn_BadKnob : List Str} {ab_BadKnob : Bool} {co_BadKnob : Option Bool} {dd_BadKnob : Option Addr} {k0_BadKnob k1_BadKnob k2_BadKnob k3_BadKnob k5_BadKnob : Option Value}
    {fEBadKnob : Addr} {odEBadKnob anEBadKnob : Option Addr} {slEBadKnob : Array (Option Value)} {ocEBadKnob kVEBadKnob dcEBadKnob pmEBadKnob cdEBadKnob ctEBadKnob : Value}
    {nm_BadReader q_BadReader : Str} {N_BadReader : Addr} {bs_BadReader bm_BadReader su_BadReader : List Value} {sn_BadReader : List Str} {ab_BadReader : Bool} {co_BadReader : Option Bool} {dd_BadReader : Option Addr} {k0_BadReader k1_BadReader k2_BadReader k3_BadReader k5_BadReader : Option Value}
    {fEBadReader : Addr} {odEBadReader anEBadReader : Option Addr} {slEBadReader : Array (Option Value)} {ocEBadReader kVEBadReader dcEBadReader pmEBadReader cdEBadReader ctEBadReader : Value}
    (a1 : PySem.W.nsIn K mainGlobals "_law_dice" = some (some (.ref f1)))
    (l1 : K.lookup f1 = some ⟨oc1, od1, .func (PySem.W.fnOf "_law_dice" "_law_dice" (defArgs (top 32)) (defBody (top 32)) (defScope (top 32)) .none kV1 dc1 pm1 an1 cd1 ct1), sl1⟩)
    (c1 : PySem.W.codeIn K cd1 "_law_dice" = true)
    (k1 : PySem.W.keepIn K (.ref f1) = true)
    (a2 : PySem.W.nsIn K mainGlobals "_law_off" = some (some (.ref f2)))
    (l2 : K.lookup f2 = some ⟨oc2, od2, .func (PySem.W.fnOf "_law_off" "_law_off" (defArgs (top 33)) (defBody (top 33)) (defScope (top 33)) .none kV2 dc2 pm2 an2 cd2 ct2), sl2⟩)
    (c2 : PySem.W.codeIn K cd2 "_law_off" = true)
    (k2 : PySem.W.keepIn K (.ref f2) = true)
    (a3 : PySem.W.nsIn K mainGlobals "_law_knob" = some (some (.ref f3)))
    (l3 : K.lookup f3 = some ⟨oc3, od3, .func (PySem.W.fnOf "_law_knob" "_law_knob" (defArgs (top 36)) (defBody (top 36)) (defScope (top 36)) .none kV3 dc3 pm3 an3 cd3 ct3), sl3⟩)
    (c3 : PySem.W.codeIn K cd3 "_law_knob" = true)
    (k3 : PySem.W.keepIn K (.ref f3) = true)
    (a4 : PySem.W.nsIn K mainGlobals "_law_reader" = some (some (.ref f4)))
    (l4 : K.lookup f4 = some ⟨oc4, od4, .func (PySem.W.fnOf "_law_reader" "_law_reader" (defArgs (top 37)) (defBody (top 37)) (defScope (top 37)) .none kV4 dc4 pm4 an4 cd4 ct4), sl4⟩)
    (c4 : PySem.W.codeIn K cd4 "_law_reader" = true)
    (k4 : PySem.W.keepIn K (.ref f4) = true)
    (a5 : PySem.W.nsIn K mainGlobals "_law_with_reader" = some (some (.ref f5)))
    (l5 : K.lookup f5 = some ⟨oc5, od5, .func (PySem.W.fnOf "_law_with_reader" "_law_with_reader" (defArgs (top 38)) (defBody (top 38)) (defScope (top 38)) .none kV5 dc5 pm5 an5 (.ref cR) ct5), sl5⟩)
    (c5 : PySem.W.codeIn K (.ref cR) "_law_with_reader" = true)
    (k5 : PySem.W.keepIn K (.ref f5) = true)
    (a6 : PySem.W.nsIn K mainGlobals "_law_with_knob" = some (some (.ref f6)))
    (l6 : K.lookup f6 = some ⟨oc6, od6, .func (PySem.W.fnOf "_law_with_knob" "_law_with_knob" (defArgs (top 39)) (defBody (top 39)) (defScope (top 39)) .none kV6 dc6 pm6 an6 (.ref cK) ct6), sl6⟩)
    (c6 : PySem.W.codeIn K (.ref cK) "_law_with_knob" = true)
    (k6 : PySem.W.keepIn K (.ref f6) = true)
    (a7 : PySem.W.nsIn K mainGlobals "need_knob" = some (some (.ref f7)))
    (l7 : K.lookup f7 = some ⟨oc7, od7, .func (PySem.W.fnOf "need_knob" "need_knob" (defArgs (top 12)) (defBody (top 12)) (defScope (top 12)) .none kV7 dc7 pm7 an7 cd7 ct7), sl7⟩)
    (c7 : PySem.W.codeIn K cd7 "need_knob" = true)
    (k7 : PySem.W.keepIn K (.ref f7) = true)
    (a8 : PySem.W.nsIn K mainGlobals "need_reader" = some (some (.ref f8)))
    (l8 : K.lookup f8 = some ⟨oc8, od8, .func (PySem.W.fnOf "need_reader" "need_reader" (defArgs (top 13)) (defBody (top 13)) (defScope (top 13)) .none kV8 dc8 pm8 an8 cd8 ct8), sl8⟩)
    (c8 : PySem.W.codeIn K cd8 "need_reader" = true)
    (k8 : PySem.W.keepIn K (.ref f8) = true)
    (a9 : PySem.W.nsIn K mainGlobals "need_row" = some (some (.ref f9)))
    (l9 : K.lookup f9 = some ⟨oc9, od9, .func (PySem.W.fnOf "need_row" "need_row" (defArgs (top 14)) (defBody (top 14)) (defScope (top 14)) .none kV9 dc9 pm9 an9 cd9 ct9), sl9⟩)
    (c9 : PySem.W.codeIn K cd9 "need_row" = true)
    (k9 : PySem.W.keepIn K (.ref f9) = true)
    (a10 : PySem.W.nsIn K mainGlobals "positions" = some (some (.ref f10)))
    (l10 : K.lookup f10 = some ⟨oc10, od10, .func (PySem.W.fnOf "positions" "positions" (defArgs (top 15)) (defBody (top 15)) (defScope (top 15)) .none kV10 dc10 pm10 an10 cd10 ct10), sl10⟩)
    (c10 : PySem.W.codeIn K cd10 "positions" = true)
    (k10 : PySem.W.keepIn K (.ref f10) = true)
    (a11 : PySem.W.nsIn K mainGlobals "shown" = some (some (.ref f11)))
    (l11 : K.lookup f11 = some ⟨oc11, od11, .func (PySem.W.fnOf "shown" "shown" (defArgs (top 16)) (defBody (top 16)) (defScope (top 16)) .none kV11 dc11 pm11 an11 cd11 ct11), sl11⟩)
    (c11 : PySem.W.codeIn K cd11 "shown" = true)
    (k11 : PySem.W.keepIn K (.ref f11) = true)
    (a12 : PySem.W.nsIn K mainGlobals "judged" = some (some (.ref f12)))
    (l12 : K.lookup f12 = some ⟨oc12, od12, .func (PySem.W.fnOf "judged" "judged" (defArgs (top 23)) (defBody (top 23)) (defScope (top 23)) .none kV12 dc12 pm12 an12 cd12 ct12), sl12⟩)
    (c12 : PySem.W.codeIn K cd12 "judged" = true)
    (k12 : PySem.W.keepIn K (.ref f12) = true)
    (a13 : PySem.W.nsIn K mainGlobals "noisy" = some (some (.ref f13)))
    (l13 : K.lookup f13 = some ⟨oc13, od13, .func (PySem.W.fnOf "noisy" "noisy" (defArgs (top 24)) (defBody (top 24)) (defScope (top 24)) .none kV13 dc13 pm13 an13 cd13 ct13), sl13⟩)
    (c13 : PySem.W.codeIn K cd13 "noisy" = true)
    (k13 : PySem.W.keepIn K (.ref f13) = true)
    (a14 : PySem.W.nsIn K mainGlobals "run" = some (some (.ref f14)))
    (l14 : K.lookup f14 = some ⟨oc14, od14, .func (PySem.W.fnOf "run" "run" (defArgs (top 20)) (defBody (top 20)) (defScope (top 20)) .none kV14 dc14 pm14 an14 cd14 ct14), sl14⟩)
    (c14 : PySem.W.codeIn K cd14 "run" = true)
    (k14 : PySem.W.keepIn K (.ref f14) = true)
    (a15 : PySem.W.nsIn K mainGlobals "fitted" = some (some (.ref f15)))
    (l15 : K.lookup f15 = some ⟨oc15, od15, .func (PySem.W.fnOf "fitted" "fitted" (defArgs (top 26)) (defBody (top 26)) (defScope (top 26)) .none kV15 dc15 pm15 an15 cd15 ct15), sl15⟩)
    (c15 : PySem.W.codeIn K cd15 "fitted" = true)
    (k15 : PySem.W.keepIn K (.ref f15) = true)
    (a16 : PySem.W.nsIn K mainGlobals "written" = some (some (.ref f16)))
    (l16 : K.lookup f16 = some ⟨oc16, od16, .func (PySem.W.fnOf "written" "written" (defArgs (top 29)) (defBody (top 29)) (defScope (top 29)) .none kV16 dc16 pm16 an16 cd16 ct16), sl16⟩)
    (c16 : PySem.W.codeIn K cd16 "written" = true)
    (k16 : PySem.W.keepIn K (.ref f16) = true)
    (a17 : PySem.W.nsIn K mainGlobals "read_row" = some (some (.ref f17)))
    (l17 : K.lookup f17 = some ⟨oc17, od17, .func (PySem.W.fnOf "read_row" "read_row" (defArgs (top 30)) (defBody (top 30)) (defScope (top 30)) .none kV17 dc17 pm17 an17 cd17 ct17), sl17⟩)
    (c17 : PySem.W.codeIn K cd17 "read_row" = true)
    (k17 : PySem.W.keepIn K (.ref f17) = true)
    (a18 : PySem.W.nsIn K mainGlobals "_law_alike" = some (some (.ref f18)))
    (l18 : K.lookup f18 = some ⟨oc18, od18, .func (PySem.W.fnOf "_law_alike" "_law_alike" (defArgs (top 34)) (defBody (top 34)) (defScope (top 34)) .none kV18 dc18 pm18 an18 cd18 ct18), sl18⟩)
    (c18 : PySem.W.codeIn K cd18 "_law_alike" = true)
    (k18 : PySem.W.keepIn K (.ref f18) = true)
    (a19 : PySem.W.nsIn K mainGlobals "law" = some (some (.ref f19)))
    (l19 : K.lookup f19 = some ⟨oc19, od19, .func (PySem.W.fnOf "law" "law" (defArgs (top 40)) (defBody (top 40)) (defScope (top 40)) .none kV19 dc19 pm19 an19 (.ref cL) ct19), sl19⟩)
    (c19 : PySem.W.codeIn K (.ref cL) "law" = true)
    (k19 : PySem.W.keepIn K (.ref f19) = true)
    (a20 : PySem.W.nsIn K mainGlobals "_law_refused" = some (some (.ref f20)))
    (l20 : K.lookup f20 = some ⟨oc20, od20, .func (PySem.W.fnOf "_law_refused" "_law_refused" (defArgs (top 35)) (defBody (top 35)) (defScope (top 35)) .none kV20 dc20 pm20 an20 cd20 ct20), sl20⟩)
    (c20 : PySem.W.codeIn K cd20 "_law_refused" = true)
    (k20 : PySem.W.keepIn K (.ref f20) = true)
    (zg_MISSED : PySem.W.nsIn K mainGlobals "MISSED" = some (some (.int 2 tg_MISSED)))
    (zg_MOST_APART : PySem.W.nsIn K mainGlobals "MOST_APART" = some (some (.int 6 tg_MOST_APART)))
    (zg_MOST_GAP : PySem.W.nsIn K mainGlobals "MOST_GAP" = some (some (.int 6 tg_MOST_GAP)))
    (zg_MOST_ROW : PySem.W.nsIn K mainGlobals "MOST_ROW" = some (some (.int 200 tg_MOST_ROW)))
    (zg_MOST_SAME : PySem.W.nsIn K mainGlobals "MOST_SAME" = some (some (.int 3 tg_MOST_SAME)))
    (zP : PySem.W.nsIn K mainGlobals "PAIRS" = some (some (.ref aP)))
    (zP0 : K.lookup aP = some ⟨.type "tuple", none, .seq #[.ref p0, .ref p1, .ref p2, .ref p3] nP0, slP0⟩)
    (zP1 : K.lookup p0 = some ⟨.type "tuple", odP1, .seq #[.int 0 u00, .int 0 u01] nP1, slP1⟩)
    (zP2 : K.lookup p1 = some ⟨.type "tuple", odP2, .seq #[.int 0 u10, .int 1 u11] nP2, slP2⟩)
    (zP3 : K.lookup p2 = some ⟨.type "tuple", odP3, .seq #[.int 1 u20, .int 1 u21] nP3, slP3⟩)
    (zP4 : K.lookup p3 = some ⟨.type "tuple", odP4, .seq #[.int 1 u30, .int 0 u31] nP4, slP4⟩)
    (zn_ValueError : PySem.W.nsIn K mainGlobals "ValueError" = some none)
    (zn_abs : PySem.W.nsIn K mainGlobals "abs" = some none)
    (zn_all : PySem.W.nsIn K mainGlobals "all" = some none)
    (zn_bool : PySem.W.nsIn K mainGlobals "bool" = some none)
    (zn_enumerate : PySem.W.nsIn K mainGlobals "enumerate" = some none)
    (zn_int : PySem.W.nsIn K mainGlobals "int" = some none)
    (zn_isinstance : PySem.W.nsIn K mainGlobals "isinstance" = some none)
    (zn_len : PySem.W.nsIn K mainGlobals "len" = some none)
    (zn_list : PySem.W.nsIn K mainGlobals "list" = some none)
    (zn_max : PySem.W.nsIn K mainGlobals "max" = some none)
    (zn_min : PySem.W.nsIn K mainGlobals "min" = some none)
    (zn_range : PySem.W.nsIn K mainGlobals "range" = some none)
    (zn_str : PySem.W.nsIn K mainGlobals "str" = some none)
    (zn_tuple : PySem.W.nsIn K mainGlobals "tuple" = some none)
    (zCCounter : PySem.W.nsIn K mainGlobals "Counter" = some (some (.ref C_Counter)))
    (pgCounter : PySem.W.plainGet K C_Counter Str.empty = true)
    (hdCounter : PySem.W.hasDictIn K C_Counter = true)
    (poCounter : PySem.W.plainOver K C_Counter = true)
    (saCounter : PySem.W.findIn K (.ref C_Counter) "__setattr__" = some (some (.builtin "object.__setattr__")))
    (mkCounter : PySem.W.makesIn K C_Counter = true)
    (kcCounter : PySem.W.keepIn K (.ref C_Counter) = true)
    (na_Counter_same : PySem.W.findIn K (.ref C_Counter) "same" = some none)
    (na_Counter_kept : PySem.W.findIn K (.ref C_Counter) "kept" = some none)
    (na_Counter_met : PySem.W.findIn K (.ref C_Counter) "met" = some none)
    (na_Counter_many : PySem.W.findIn K (.ref C_Counter) "many" = some none)
    (na_Counter_total : PySem.W.findIn K (.ref C_Counter) "total" = some none)
    (na_Counter_lost : PySem.W.findIn K (.ref C_Counter) "lost" = some none)
    (aCounterxinitx : PySem.W.findIn K (.ref C_Counter) "__init__" = some (some (.ref fCounterxinitx)))
    (lCounterxinitx : K.lookup fCounterxinitx = some ⟨ocCounterxinitx, odCounterxinitx, .func (PySem.W.fnOf "__init__" "Counter.__init__" (defArgs (inClass (top 19) 0)) (defBody (inClass (top 19) 0)) (defScope (inClass (top 19) 0)) .none kVCounterxinitx dcCounterxinitx pmCounterxinitx anCounterxinitx cdCounterxinitx ctCounterxinitx), slCounterxinitx⟩)
    (cCounterxinitx : PySem.W.codeIn K cdCounterxinitx "Counter.__init__" = true)
    (kCounterxinitx : PySem.W.keepIn K (.ref fCounterxinitx) = true)
    (iCounterxinitx : PySem.W.isFn K (.ref fCounterxinitx) = true)
    (aCounterlook : PySem.W.findIn K (.ref C_Counter) "look" = some (some (.ref fCounterlook)))
    (lCounterlook : K.lookup fCounterlook = some ⟨ocCounterlook, odCounterlook, .func (PySem.W.fnOf "look" "Counter.look" (defArgs (inClass (top 19) 1)) (defBody (inClass (top 19) 1)) (defScope (inClass (top 19) 1)) .none kVCounterlook dcCounterlook pmCounterlook anCounterlook cdCounterlook ctCounterlook), slCounterlook⟩)
    (cCounterlook : PySem.W.codeIn K cdCounterlook "Counter.look" = true)
    (kCounterlook : PySem.W.keepIn K (.ref fCounterlook) = true)
    (iCounterlook : PySem.W.isFn K (.ref fCounterlook) = true)
    (aCountercount : PySem.W.findIn K (.ref C_Counter) "count" = some (some (.ref fCountercount)))
    (lCountercount : K.lookup fCountercount = some ⟨ocCountercount, odCountercount, .func (PySem.W.fnOf "count" "Counter.count" (defArgs (inClass (top 19) 2)) (defBody (inClass (top 19) 2)) (defScope (inClass (top 19) 2)) .none kVCountercount dcCountercount pmCountercount anCountercount cdCountercount ctCountercount), slCountercount⟩)
    (cCountercount : PySem.W.codeIn K cdCountercount "Counter.count" = true)
    (kCountercount : PySem.W.keepIn K (.ref fCountercount) = true)
    (iCountercount : PySem.W.isFn K (.ref fCountercount) = true)
    (aCountermissed : PySem.W.findIn K (.ref C_Counter) "missed" = some (some (.ref fCountermissed)))
    (lCountermissed : K.lookup fCountermissed = some ⟨ocCountermissed, odCountermissed, .func (PySem.W.fnOf "missed" "Counter.missed" (defArgs (inClass (top 19) 3)) (defBody (inClass (top 19) 3)) (defScope (inClass (top 19) 3)) .none kVCountermissed dcCountermissed pmCountermissed anCountermissed cdCountermissed ctCountermissed), slCountermissed⟩)
    (cCountermissed : PySem.W.codeIn K cdCountermissed "Counter.missed" = true)
    (kCountermissed : PySem.W.keepIn K (.ref fCountermissed) = true)
    (iCountermissed : PySem.W.isFn K (.ref fCountermissed) = true)
    (zCGame : PySem.W.nsIn K mainGlobals "Game" = some (some (.ref C_Game)))
    (pgGame : PySem.W.plainGet K C_Game Str.empty = true)
    (hdGame : PySem.W.hasDictIn K C_Game = true)
    (poGame : PySem.W.plainOver K C_Game = true)
    (saGame : PySem.W.findIn K (.ref C_Game) "__setattr__" = some (some (.builtin "object.__setattr__")))
    (mkGame : PySem.W.makesIn K C_Game = true)
    (kcGame : PySem.W.keepIn K (.ref C_Game) = true)
    (na_Game_gap : PySem.W.findIn K (.ref C_Game) "gap" = some none)
    (na_Game_bounce : PySem.W.findIn K (.ref C_Game) "bounce" = some none)
    (na_Game_apart : PySem.W.findIn K (.ref C_Game) "apart" = some none)
    (na_Game_same : PySem.W.findIn K (.ref C_Game) "same" = some none)
    (na_Game_first : PySem.W.findIn K (.ref C_Game) "first" = some none)
    (aGamexinitx : PySem.W.findIn K (.ref C_Game) "__init__" = some (some (.ref fGamexinitx)))
    (lGamexinitx : K.lookup fGamexinitx = some ⟨ocGamexinitx, odGamexinitx, .func (PySem.W.fnOf "__init__" "Game.__init__" (defArgs (inClass (top 22) 0)) (defBody (inClass (top 22) 0)) (defScope (inClass (top 22) 0)) .none kVGamexinitx dcGamexinitx pmGamexinitx anGamexinitx cdGamexinitx ctGamexinitx), slGamexinitx⟩)
    (cGamexinitx : PySem.W.codeIn K cdGamexinitx "Game.__init__" = true)
    (kGamexinitx : PySem.W.keepIn K (.ref fGamexinitx) = true)
    (iGamexinitx : PySem.W.isFn K (.ref fGamexinitx) = true)
    (aGamemoves : PySem.W.findIn K (.ref C_Game) "moves" = some (some (.ref fGamemoves)))
    (lGamemoves : K.lookup fGamemoves = some ⟨ocGamemoves, odGamemoves, .func (PySem.W.fnOf "moves" "Game.moves" (defArgs (inClass (top 22) 1)) (defBody (inClass (top 22) 1)) (defScope (inClass (top 22) 1)) .none kVGamemoves dcGamemoves pmGamemoves anGamemoves cdGamemoves ctGamemoves), slGamemoves⟩)
    (cGamemoves : PySem.W.codeIn K cdGamemoves "Game.moves" = true)
    (kGamemoves : PySem.W.keepIn K (.ref fGamemoves) = true)
    (iGamemoves : PySem.W.isFn K (.ref fGamemoves) = true)
    (aGamebehind : PySem.W.findIn K (.ref C_Game) "behind" = some (some (.ref fGamebehind)))
    (lGamebehind : K.lookup fGamebehind = some ⟨ocGamebehind, odGamebehind, .func (PySem.W.fnOf "behind" "Game.behind" (defArgs (inClass (top 22) 2)) (defBody (inClass (top 22) 2)) (defScope (inClass (top 22) 2)) .none kVGamebehind dcGamebehind pmGamebehind anGamebehind cdGamebehind ctGamebehind), slGamebehind⟩)
    (cGamebehind : PySem.W.codeIn K cdGamebehind "Game.behind" = true)
    (kGamebehind : PySem.W.keepIn K (.ref fGamebehind) = true)
    (iGamebehind : PySem.W.isFn K (.ref fGamebehind) = true)
    (aGamefirst_row : PySem.W.findIn K (.ref C_Game) "first_row" = some (some (.ref fGamefirst_row)))
    (lGamefirst_row : K.lookup fGamefirst_row = some ⟨ocGamefirst_row, odGamefirst_row, .func (PySem.W.fnOf "first_row" "Game.first_row" (defArgs (inClass (top 22) 3)) (defBody (inClass (top 22) 3)) (defScope (inClass (top 22) 3)) .none kVGamefirst_row dcGamefirst_row pmGamefirst_row anGamefirst_row cdGamefirst_row ctGamefirst_row), slGamefirst_row⟩)
    (cGamefirst_row : PySem.W.codeIn K cdGamefirst_row "Game.first_row" = true)
    (kGamefirst_row : PySem.W.keepIn K (.ref fGamefirst_row) = true)
    (iGamefirst_row : PySem.W.isFn K (.ref fGamefirst_row) = true)
    (lcL : K.lookup cL = some ⟨eL, dL, .fields vL, yL⟩)
    (zPL : vL[11]? = some (.ref tP))
    (hdL : PySem.W.codeHdIn K cL tP = true)
    (nPL : K.lookup tP = none)
    (lcR : K.lookup cR = some ⟨eR, dR, .fields vR, yR⟩)
    (zPR : vR[11]? = some (.ref tR))
    (hdR : PySem.W.codeHdIn K cR tR = true)
    (nPR : K.lookup tR = none)
    (lcK : K.lookup cK = some ⟨eK, dK, .fields vK, yK⟩)
    (zPK : vK[11]? = some (.ref tK))
    (hdK : PySem.W.codeHdIn K cK tK = true)
    (nPK : K.lookup tK = none)
    (ne_tP_tR : tP ≠ tR)
    (ne_tP_tK : tP ≠ tK)
    (ne_tR_tP : tR ≠ tP)
    (ne_tR_tK : tR ≠ tK)
    (ne_tK_tP : tK ≠ tP)
    (ne_tK_tR : tK ≠ tR)
    (zE : PySem.W.nsIn K mainGlobals "KnobError" = some (some (.ref C_KnobError)))
    (bga : PySem.W.specialIn K (.ref C_KnobError) "__getattribute__" = some (some (.builtin "type.__getattribute__")))
    (brd : PySem.W.readsIn K C_KnobError (.type "type") = true)
    (bini : PySem.W.findCls K (.ref C_KnobError) (.type "type") "__init__" = some (.val (.builtin "ValueError.__init__")))
    (hnO : PySem.W.specialIn K (.builtin "object.__class__") "__get__" = some (some (.builtin "getset_descriptor.__get__")))
    (htO : PySem.W.takesIn K (.builtin "object.__class__") = some true)
    (zEBadKnob : PySem.W.nsIn K mainGlobals "BadKnob" = some (some (.ref C_BadKnob)))
    (zEBadReader : PySem.W.nsIn K mainGlobals "BadReader" = some (some (.ref C_BadReader)))
    (zEBadRow : PySem.W.nsIn K mainGlobals "BadRow" = some (some (.ref C_BadRow)))
    (zEBadText : PySem.W.nsIn K mainGlobals "BadText" = some (some (.ref C_BadText)))
    (olBadKnob : K.lookup C_BadKnob = some (PySem.excClassObj nm_BadKnob q_BadKnob C_BadKnob N_BadKnob bs_BadKnob bm_BadKnob true sn_BadKnob su_BadKnob ab_BadKnob co_BadKnob dd_BadKnob k0_BadKnob k1_BadKnob k2_BadKnob k3_BadKnob k5_BadKnob "ValueError.__new__"))
    (ovBadKnob : PySem.HandSPX.refsVE bm_BadKnob = true)
    (esaBadKnob : PySem.W.findIn K (.ref C_BadKnob) "__setattr__" = some (some (.builtin "object.__setattr__")))
    (eexBadKnob : PySem.W.subIn K (.ref C_BadKnob) (.type "BaseException") = some true)
    (etyBadKnob : PySem.W.typeIn K (.ref C_BadKnob) = some (.type "type"))
    (ekcBadKnob : PySem.W.keepIn K (.ref C_BadKnob) = true)
    (ehdBadKnob : PySem.W.hasDictIn K C_BadKnob = true)
    (ehgBadKnob : PySem.W.findIn K (.ref C_BadKnob) "__getattribute__" = some (some (.builtin "BaseException.__getattribute__")))
    (ehkBadKnob : PySem.W.findIn K (.ref C_BadKnob) "__getattr__" = some none)
    (ehaBadKnob : PySem.W.findIn K (.ref C_BadKnob) "__class__" = some (some (.builtin "object.__class__")))
    (ehmBadKnob : PySem.W.mroIn K C_BadKnob (.type "object") = some true)
    (enwBadKnob : PySem.W.findIn K (.ref C_BadKnob) "why" = some none)
    (enaBadKnob : PySem.W.findIn K (.ref C_BadKnob) "at" = some none)
    (aEBadKnob : PySem.W.findIn K (.ref C_BadKnob) "__init__" = some (some (.ref fEBadKnob)))
    (lEBadKnob : K.lookup fEBadKnob = some ⟨ocEBadKnob, odEBadKnob, .func (PySem.W.fnOf "__init__" "BadKnob.__init__" (defArgs (inClass (top 2) 0)) (defBody (inClass (top 2) 0)) (defScope (inClass (top 2) 0)) .none kVEBadKnob dcEBadKnob pmEBadKnob anEBadKnob cdEBadKnob ctEBadKnob), slEBadKnob⟩)
    (cEBadKnob : PySem.W.codeIn K cdEBadKnob "BadKnob.__init__" = true)
    (kEBadKnob : PySem.W.keepIn K (.ref fEBadKnob) = true)
    (tiBadKnob : PySem.W.typeIn K (.ref fEBadKnob) = some (.type "function"))
    (olBadReader : K.lookup C_BadReader = some (PySem.excClassObj nm_BadReader q_BadReader C_BadReader N_BadReader bs_BadReader bm_BadReader true sn_BadReader su_BadReader ab_BadReader co_BadReader dd_BadReader k0_BadReader k1_BadReader k2_BadReader k3_BadReader k5_BadReader "ValueError.__new__"))
    (ovBadReader : PySem.HandSPX.refsVE bm_BadReader = true)
    (esaBadReader : PySem.W.findIn K (.ref C_BadReader) "__setattr__" = some (some (.builtin "object.__setattr__")))
    (eexBadReader : PySem.W.subIn K (.ref C_BadReader) (.type "BaseException") = some true)
    (etyBadReader : PySem.W.typeIn K (.ref C_BadReader) = some (.type "type"))
    (ekcBadReader : PySem.W.keepIn K (.ref C_BadReader) = true)
    (ehdBadReader : PySem.W.hasDictIn K C_BadReader = true)
    (ehgBadReader : PySem.W.findIn K (.ref C_BadReader) "__getattribute__" = some (some (.builtin "BaseException.__getattribute__")))
    (ehkBadReader : PySem.W.findIn K (.ref C_BadReader) "__getattr__" = some none)
    (ehaBadReader : PySem.W.findIn K (.ref C_BadReader) "__class__" = some (some (.builtin "object.__class__")))
    (ehmBadReader : PySem.W.mroIn K C_BadReader (.type "object") = some true)
    (enwBadReader : PySem.W.findIn K (.ref C_BadReader) "why" = some none)
    (enaBadReader : PySem.W.findIn K (.ref C_BadReader) "at" = some none)
    (aEBadReader : PySem.W.findIn K (.ref C_BadReader) "__init__" = some (some (.ref fEBadReader)))
    (lEBadReader : K.lookup fEBadReader = some ⟨ocEBadReader, odEBadReader, .func (PySem.W.fnOf "__init__" "BadReader.__init__" (defArgs (inClass (top 3) 0)) (defBody (inClass (top 3) 0)) (defScope (inClass (top 3) 0)) .none kVEBadReader dcEBadReader pmEBadReader anEBadReader cdEBadReader ctEBadReader), slEBadReader⟩)
    (cEBadReader : PySem.W.codeIn K cdEBadReader "BadReader.__init__" = true)
    (kEBadReader : PySem.W.keepIn K (.ref fEBadReader) = true)
    (tiBadReader : PySem.W.typeIn K (.ref fEBadReader) = some (.type "function"))
    (xmBadKnob : PySem.W.exmOne K (.ref C_BadKnob) (.ref C_KnobError) = some true)
    (ki0BadKnob : PySem.W.kitOne K (.ref C_BadKnob) (.ref C_BadKnob) = some true)
    (ki1BadKnob : PySem.W.kitOne K (.ref C_BadKnob) (.ref C_BadReader) = some false)
    (ki2BadKnob : PySem.W.kitOne K (.ref C_BadKnob) (.ref C_BadRow) = some false)
    (ki3BadKnob : PySem.W.kitOne K (.ref C_BadKnob) (.ref C_BadText) = some false)
    (kvBadKnob : PySem.W.kitOne K (.ref C_BadKnob) (.type "ValueError") = some true)
    (xmBadReader : PySem.W.exmOne K (.ref C_BadReader) (.ref C_KnobError) = some true)
    (ki0BadReader : PySem.W.kitOne K (.ref C_BadReader) (.ref C_BadKnob) = some false)
    (ki1BadReader : PySem.W.kitOne K (.ref C_BadReader) (.ref C_BadReader) = some true)
    (ki2BadReader : PySem.W.kitOne K (.ref C_BadReader) (.ref C_BadRow) = some false)
    (ki3BadReader : PySem.W.kitOne K (.ref C_BadReader) (.ref C_BadText) = some false)
    (kvBadReader : PySem.W.kitOne K (.ref C_BadReader) (.type "ValueError") = some true)
    (ownR : h.get? tR = some { cls := .none, data := .fields #[] })
    (ownK : h.get? tK = some { cls := .none, data := .fields #[] })
    (own : h.get? tP = some { cls := .none, data := .fields #[] }) : LamX.LawAtS l w K CX0 10 63 "_law_script" mg fa h := by
  have e := hfa.symm.trans (PySem.W.mg_of X G a19)
  cases e
  have F1 := fun_mk (st := top 32) l1 c1 k1
  have b1 := F1.binds (ps := ["_law_script", "_law_k"]) fun _ _ _ _ _ _ us hl => match us, hl with | [_, _], _ => rfl
  have F2 := fun_mk (st := top 33) l2 c2 k2
  have b2 := F2.binds (ps := ["_law_d", "_law_most"]) fun _ _ _ _ _ _ us hl => match us, hl with | [_, _], _ => rfl
  have F3 := fun_mk (st := top 36) l3 c3 k3
  have b3 := F3.binds (ps := ["_law_d"]) fun _ _ _ _ _ _ us hl => match us, hl with | [_], _ => rfl
  have F4 := fun_mk (st := top 37) l4 c4 k4
  have b4 := F4.binds (ps := ["_law_d"]) fun _ _ _ _ _ _ us hl => match us, hl with | [_], _ => rfl
  have F5 := fun_mk (st := top 38) l5 c5 k5
  have b5 := F5.binds (ps := ["_law_knob_here", "_law_reader_here"]) fun _ _ _ _ _ _ us hl => match us, hl with | [_, _], _ => rfl
  have F6 := fun_mk (st := top 39) l6 c6 k6
  have b6 := F6.binds (ps := ["_law_knob_here"]) fun _ _ _ _ _ _ us hl => match us, hl with | [_], _ => rfl
  have F7 := fun_mk (st := top 12) l7 c7 k7
  have b7 := F7.binds (ps := ["knob"]) fun _ _ _ _ _ _ us hl => match us, hl with | [_], _ => rfl
  have F8 := fun_mk (st := top 13) l8 c8 k8
  have b8 := F8.binds (ps := ["reader"]) fun _ _ _ _ _ _ us hl => match us, hl with | [_], _ => rfl
  have F9 := fun_mk (st := top 14) l9 c9 k9
  have b9 := F9.binds (ps := ["knob", "row"]) fun _ _ _ _ _ _ us hl => match us, hl with | [_, _], _ => rfl
  have F10 := fun_mk (st := top 15) l10 c10 k10
  have b10 := F10.binds (ps := ["row"]) fun _ _ _ _ _ _ us hl => match us, hl with | [_], _ => rfl
  have F11 := fun_mk (st := top 16) l11 c11 k11
  have b11 := F11.binds (ps := ["knob", "row"]) fun _ _ _ _ _ _ us hl => match us, hl with | [_, _], _ => rfl
  have F12 := fun_mk (st := top 23) l12 c12 k12
  have b12 := F12.binds (ps := ["knob", "reader"]) fun _ _ _ _ _ _ us hl => match us, hl with | [_, _], _ => rfl
  have F13 := fun_mk (st := top 24) l13 c13 k13
  have b13 := F13.binds (ps := ["knob", "reader"]) fun _ _ _ _ _ _ us hl => match us, hl with | [_, _], _ => rfl
  have F14 := fun_mk (st := top 20) l14 c14 k14
  have b14 := F14.binds (ps := ["knob", "reader", "row"]) fun _ _ _ _ _ _ us hl => match us, hl with | [_, _, _], _ => rfl
  have F15 := fun_mk (st := top 26) l15 c15 k15
  have b15 := F15.binds (ps := ["knob"]) fun _ _ _ _ _ _ us hl => match us, hl with | [_], _ => rfl
  have F16 := fun_mk (st := top 29) l16 c16 k16
  have b16 := F16.binds (ps := ["knob", "row"]) fun _ _ _ _ _ _ us hl => match us, hl with | [_, _], _ => rfl
  have F17 := fun_mk (st := top 30) l17 c17 k17
  have b17 := F17.binds (ps := ["knob", "text"]) fun _ _ _ _ _ _ us hl => match us, hl with | [_, _], _ => rfl
  have F18 := fun_mk (st := top 34) l18 c18 k18
  have b18 := F18.binds (ps := ["_law_found", "_law_due"]) fun _ _ _ _ _ _ us hl => match us, hl with | [_, _], _ => rfl
  have F19 := fun_mk (st := top 40) l19 c19 k19
  have b19 := F19.binds (ps := ["_law_script"]) fun _ _ _ _ _ _ us hl => match us, hl with | [_], _ => rfl
  have F20 := fun_mk (st := top 35) l20 c20 k20
  have b20 := F20.binds (ps := ["_law_work", "_law_word", "_law_value"]) fun _ _ _ _ _ _ us hl => match us, hl with | [_, _, _], _ => rfl
  have g_MISSED := PySem.W.mg_of X G zg_MISSED
  have g_MOST_APART := PySem.W.mg_of X G zg_MOST_APART
  have g_MOST_GAP := PySem.W.mg_of X G zg_MOST_GAP
  have g_MOST_ROW := PySem.W.mg_of X G zg_MOST_ROW
  have g_MOST_SAME := PySem.W.mg_of X G zg_MOST_SAME
  have g_PAIRS := PySem.W.mg_of X G zP
  have pk : PairsK K aP p0 p1 p2 p3 := ⟨⟨_, zP0, rfl, rfl⟩, knT_of zP0 rfl (by show 4 ≤ sizeLine; decide) (.cons rfl (.cons rfl (.cons rfl (.cons rfl .nil)))), knT_of zP1 rfl (by show 2 ≤ sizeLine; decide) (.cons ⟨_, rfl⟩ (.cons ⟨_, rfl⟩ .nil)), knT_of zP2 rfl (by show 2 ≤ sizeLine; decide) (.cons ⟨_, rfl⟩ (.cons ⟨_, rfl⟩ .nil)), knT_of zP3 rfl (by show 2 ≤ sizeLine; decide) (.cons ⟨_, rfl⟩ (.cons ⟨_, rfl⟩ .nil)), knT_of zP4 rfl (by show 2 ≤ sizeLine; decide) (.cons ⟨_, rfl⟩ (.cons ⟨_, rfl⟩ .nil))⟩
  have n_ValueError := PySem.W.mg_none_of X G zn_ValueError
  have n_abs := PySem.W.mg_none_of X G zn_abs
  have n_all := PySem.W.mg_none_of X G zn_all
  have n_bool := PySem.W.mg_none_of X G zn_bool
  have n_enumerate := PySem.W.mg_none_of X G zn_enumerate
  have n_int := PySem.W.mg_none_of X G zn_int
  have n_isinstance := PySem.W.mg_none_of X G zn_isinstance
  have n_len := PySem.W.mg_none_of X G zn_len
  have n_list := PySem.W.mg_none_of X G zn_list
  have n_max := PySem.W.mg_none_of X G zn_max
  have n_min := PySem.W.mg_none_of X G zn_min
  have n_range := PySem.W.mg_none_of X G zn_range
  have n_str := PySem.W.mg_none_of X G zn_str
  have n_tuple := PySem.W.mg_none_of X G zn_tuple
  have cl_Counter : Cls K C_Counter := ⟨pgCounter, hdCounter, poCounter, saCounter⟩
  have ck : CtrK K C_Counter := ⟨cl_Counter, na_Counter_same, na_Counter_kept, na_Counter_met, na_Counter_many, na_Counter_total, na_Counter_lost⟩
  have FCounterxinitx := fun_mk (st := inClass (top 19) 0) lCounterxinitx cCounterxinitx kCounterxinitx
  have bCounterxinitx := FCounterxinitx.binds (ps := ["self", "reader"]) fun _ _ _ _ _ _ us hl => match us, hl with | [_, _], _ => rfl
  have FCounterlook := fun_mk (st := inClass (top 19) 1) lCounterlook cCounterlook kCounterlook
  have bCounterlook := FCounterlook.binds (ps := ["self", "pair"]) fun _ _ _ _ _ _ us hl => match us, hl with | [_, _], _ => rfl
  have FCountercount := fun_mk (st := inClass (top 19) 2) lCountercount cCountercount kCountercount
  have bCountercount := FCountercount.binds (ps := ["self"]) fun _ _ _ _ _ _ us hl => match us, hl with | [_], _ => rfl
  have FCountermissed := fun_mk (st := inClass (top 19) 3) lCountermissed cCountermissed kCountermissed
  have bCountermissed := FCountermissed.binds (ps := ["self"]) fun _ _ _ _ _ _ us hl => match us, hl with | [_], _ => rfl
  have cl_Game : Cls K C_Game := ⟨pgGame, hdGame, poGame, saGame⟩
  have gk : GameK K C_Game := ⟨cl_Game, na_Game_gap, na_Game_bounce, na_Game_apart, na_Game_same, na_Game_first⟩
  have FGamexinitx := fun_mk (st := inClass (top 22) 0) lGamexinitx cGamexinitx kGamexinitx
  have bGamexinitx := FGamexinitx.binds (ps := ["self", "knob", "reader"]) fun _ _ _ _ _ _ us hl => match us, hl with | [_, _, _], _ => rfl
  have FGamemoves := fun_mk (st := inClass (top 22) 1) lGamemoves cGamemoves kGamemoves
  have bGamemoves := FGamemoves.binds (ps := ["self", "state"]) fun _ _ _ _ _ _ us hl => match us, hl with | [_, _], _ => rfl
  have FGamebehind := fun_mk (st := inClass (top 22) 2) lGamebehind cGamebehind kGamebehind
  have bGamebehind := FGamebehind.binds (ps := ["self", "state", "move"]) fun _ _ _ _ _ _ us hl => match us, hl with | [_, _, _], _ => rfl
  have FGamefirst_row := fun_mk (st := inClass (top 22) 3) lGamefirst_row cGamefirst_row kGamefirst_row
  have bGamefirst_row := FGamefirst_row.binds (ps := ["self", "least", "noises"]) fun _ _ _ _ _ _ us hl => match us, hl with | [_, _, _], _ => rfl
  have ge := PySem.W.mg_of X G zE
  have tbE : BaseC K C_KnobError := ⟨bga, brd, bini⟩
  have ge_BadKnob := PySem.W.mg_of X G zEBadKnob
  have ge_BadReader := PySem.W.mg_of X G zEBadReader
  have ge_BadRow := PySem.W.mg_of X G zEBadRow
  have ge_BadText := PySem.W.mg_of X G zEBadText
  have oex_BadKnob : OexC K C_BadKnob := ⟨⟨_, _, _, _, _, _, _, _, _, _, _, _, _, _, _, olBadKnob, ovBadKnob⟩, esaBadKnob, eexBadKnob, etyBadKnob, ekcBadKnob⟩
  have ek_BadKnob : ErrK K mg C_BadKnob "BadKnob" "why" := ⟨ge_BadKnob, oex_BadKnob, enwBadKnob⟩
  have xk_BadKnob : ExcK K C_BadKnob := ⟨(by obtain ⟨cd, h, _⟩ := PySem.W.any_some ehdBadKnob; rw [h]; rfl), ehgBadKnob, ehkBadKnob, eexBadKnob, ehaBadKnob, hnO, htO, ehmBadKnob⟩
  have xf_BadKnob : XfC K C_BadKnob := ⟨ehgBadKnob, ehkBadKnob, eexBadKnob, ehdBadKnob⟩
  have FEBadKnob := fun_mk (st := inClass (top 2) 0) lEBadKnob cEBadKnob kEBadKnob
  have bEBadKnob := FEBadKnob.binds (ps := ["self", "why"]) fun _ _ _ _ _ _ us hl => match us, hl with | [_, _], _ => rfl
  have oex_BadReader : OexC K C_BadReader := ⟨⟨_, _, _, _, _, _, _, _, _, _, _, _, _, _, _, olBadReader, ovBadReader⟩, esaBadReader, eexBadReader, etyBadReader, ekcBadReader⟩
  have ek_BadReader : ErrK K mg C_BadReader "BadReader" "why" := ⟨ge_BadReader, oex_BadReader, enwBadReader⟩
  have xk_BadReader : ExcK K C_BadReader := ⟨(by obtain ⟨cd, h, _⟩ := PySem.W.any_some ehdBadReader; rw [h]; rfl), ehgBadReader, ehkBadReader, eexBadReader, ehaBadReader, hnO, htO, ehmBadReader⟩
  have xf_BadReader : XfC K C_BadReader := ⟨ehgBadReader, ehkBadReader, eexBadReader, ehdBadReader⟩
  have FEBadReader := fun_mk (st := inClass (top 3) 0) lEBadReader cEBadReader kEBadReader
  have bEBadReader := FEBadReader.binds (ps := ["self", "why"]) fun _ _ _ _ _ _ us hl => match us, hl with | [_, _], _ => rfl
  have ew_BadKnob : ErrW K C_KnobError C_BadKnob C_BadReader C_BadRow C_BadText "knob" C_BadKnob "why" := ⟨xmBadKnob, xk_BadKnob, xf_BadKnob, enwBadKnob, enaBadKnob, (by rw [show decide (("knob" : Str) = "knob") = true from by decide]; exact ki0BadKnob), (by rw [show decide (("knob" : Str) = "reader") = false from by decide]; exact ki1BadKnob), (by rw [show decide (("knob" : Str) = "row") = false from by decide]; exact ki2BadKnob), (by rw [show decide (("knob" : Str) = "text") = false from by decide]; exact ki3BadKnob), kvBadKnob, by decide⟩
  have ew_BadReader : ErrW K C_KnobError C_BadKnob C_BadReader C_BadRow C_BadText "reader" C_BadReader "why" := ⟨xmBadReader, xk_BadReader, xf_BadReader, enwBadReader, enaBadReader, (by rw [show decide (("reader" : Str) = "knob") = false from by decide]; exact ki0BadReader), (by rw [show decide (("reader" : Str) = "reader") = true from by decide]; exact ki1BadReader), (by rw [show decide (("reader" : Str) = "row") = false from by decide]; exact ki2BadReader), (by rw [show decide (("reader" : Str) = "text") = false from by decide]; exact ki3BadReader), kvBadReader, by decide⟩
  refine ⟨PySem.W.fnOf "law" "law" (defArgs (top 40)) (defBody (top 40)) (defScope (top 40)) .none kV19 dc19 pm19 an19 (.ref cL) ct19, [(cL, tP), (cR, tR), (cK, tK)], spLaw K (tabs3 tP tR tK), fun p hp => ?_, fun p hp => ?_, fun p hp => ?_, fun s v => .of_eq rfl, fun H a ns hl _ hH hS => ⟨a, ns, rfl, hS, hl, fun p hp => ?_, fun _ => rfl⟩, fun base _ _ TBs => ?_⟩
  · rcases List.mem_cons.mp hp with rfl | hp
    · exact own
    rcases List.mem_cons.mp hp with rfl | hp
    · exact ownR
    obtain rfl := List.mem_singleton.mp hp
    exact ownK
  · rcases List.mem_cons.mp hp with rfl | hp
    · exact nPL
    rcases List.mem_cons.mp hp with rfl | hp
    · exact nPR
    obtain rfl := List.mem_singleton.mp hp
    exact nPK
  · rcases List.mem_cons.mp hp with rfl | hp
    · exact PySem.W.codeHd_of_K X hdL
    rcases List.mem_cons.mp hp with rfl | hp
    · exact PySem.W.codeHd_of_K X hdR
    obtain rfl := List.mem_singleton.mp hp
    exact PySem.W.codeHd_of_K X hdK
  · rcases List.mem_cons.mp hp with rfl | hp
    · exact LamX.TabS.nil (hH (cL, tP) List.mem_cons_self)
    rcases List.mem_cons.mp hp with rfl | hp
    · exact LamX.TabS.nil (hH (cR, tR) (List.mem_cons_of_mem _ List.mem_cons_self))
    obtain rfl := List.mem_singleton.mp hp
    exact LamX.TabS.nil (hH (cK, tK) (List.mem_cons_of_mem _ (List.mem_cons_of_mem _ List.mem_cons_self)))
  have TB := TBs (cL, tP) List.mem_cons_self
  have TBR := TBs (cR, tR) (List.mem_cons_of_mem _ List.mem_cons_self)
  have TBK := TBs (cK, tK) (List.mem_cons_of_mem _ (List.mem_cons_of_mem _ List.mem_cons_self))
  have c__law_alike : Cal l.prog w K mg base 1 "_law_alike" ["_law_found", "_law_due"] (spAlike K 0) := ⟨f18, _, ok_alike0 F18, PySem.W.mg_of X G a18, k18, b18⟩
  have c__law_alike : Cal l.prog w K mg base 2 "_law_alike" ["_law_found", "_law_due"] (spAlike K 1) := ⟨f18, _, ok_alikeS F18 c__law_alike n_isinstance n_bool n_int n_str n_tuple n_list n_len n_all n_range, PySem.W.mg_of X G a18, k18, b18⟩
  have c__law_alike : Cal l.prog w K mg base 3 "_law_alike" ["_law_found", "_law_due"] (spAlike K 2) := ⟨f18, _, ok_alikeS F18 c__law_alike n_isinstance n_bool n_int n_str n_tuple n_list n_len n_all n_range, PySem.W.mg_of X G a18, k18, b18⟩
  have c__law_alike : Cal l.prog w K mg base 4 "_law_alike" ["_law_found", "_law_due"] (spAlike K 3) := ⟨f18, _, ok_alikeS F18 c__law_alike n_isinstance n_bool n_int n_str n_tuple n_list n_len n_all n_range, PySem.W.mg_of X G a18, k18, b18⟩
  have c__law_dice : Cal l.prog w K mg base 1 "_law_dice" ["_law_script", "_law_k"] (spDice K) := ⟨f1, _, ok_dice F1 n_abs, PySem.W.mg_of X G a1, k1, b1⟩
  have c__law_off : Cal l.prog w K mg base 1 "_law_off" ["_law_d", "_law_most"] (spOff) := ⟨f2, _, ok_off F2 n_len, PySem.W.mg_of X G a2, k2, b2⟩
  have c__law_knob : Cal l.prog w K mg base 2 "_law_knob" ["_law_d"] (spKnob) := ⟨f3, _, ok_knob F3 c__law_off, PySem.W.mg_of X G a3, k3, b3⟩
  have c__law_reader : Cal l.prog w K mg base 2 "_law_reader" ["_law_d"] (spReader) := ⟨f4, _, ok_reader F4 c__law_off, PySem.W.mg_of X G a4, k4, b4⟩
  have c_need_knob : Cal l.prog w K mg base 1 "need_knob" ["knob"] (spNeedKnob K) := ⟨f7, _, ok_need_knob F7 g_MOST_GAP, PySem.W.mg_of X G a7, k7, b7⟩
  have c_need_reader : Cal l.prog w K mg base 1 "need_reader" ["reader"] (spNeedReader K) := ⟨f8, _, ok_need_reader F8 g_MOST_APART g_MOST_SAME, PySem.W.mg_of X G a8, k8, b8⟩
  have m_Counter : Mkr l.prog w K mg base 2 C_Counter "Counter" ["self", "reader"] (spCtr K C_Counter) := ⟨fCounterxinitx, _, ok_cinit FCounterxinitx ck g_PAIRS pk c_need_reader, PySem.W.mg_of X G zCCounter, ⟨mkCounter, aCounterxinitx, iCounterxinitx, kcCounter⟩, bCounterxinitx⟩
  have m_look : Mtd l.prog w K mg base 1 C_Counter "look" ["self", "pair"] (spLook K C_Counter) := ⟨fCounterlook, _, ok_look FCounterlook ck g_PAIRS pk g_MISSED, ⟨aCounterlook, iCounterlook, kCounterlook⟩, bCounterlook⟩
  have m_count : Mtd l.prog w K mg base 1 C_Counter "count" ["self"] (spCount K C_Counter) := ⟨fCountercount, _, ok_count FCountercount ck, ⟨aCountercount, iCountercount, kCountercount⟩, bCountercount⟩
  have m_missed : Mtd l.prog w K mg base 1 C_Counter "missed" ["self"] (spMissed K C_Counter) := ⟨fCountermissed, _, ok_missed FCountermissed ck, ⟨aCountermissed, iCountermissed, kCountermissed⟩, bCountermissed⟩
  have m_Game : Mkr l.prog w K mg base 1 C_Game "Game" ["self", "knob", "reader"] (spGInit K C_Game) := ⟨fGamexinitx, _, ok_ginit FGamexinitx gk, PySem.W.mg_of X G zCGame, ⟨mkGame, aGamexinitx, iGamexinitx, kcGame⟩, bGamexinitx⟩
  have m_moves : Mtd l.prog w K mg base 1 C_Game "moves" ["self", "state"] (spMoves K C_Game) := ⟨fGamemoves, _, ok_moves FGamemoves gk, ⟨aGamemoves, iGamemoves, kGamemoves⟩, bGamemoves⟩
  have m_behind : Mtd l.prog w K mg base 1 C_Game "behind" ["self", "state", "move"] (spBehind K C_Game) := ⟨fGamebehind, _, ok_behind FGamebehind gk n_min, ⟨aGamebehind, iGamebehind, kGamebehind⟩, bGamebehind⟩
  have m_first_row : Mtd l.prog w K mg base 2 C_Game "first_row" ["self", "least", "noises"] (spFirst K C_Game) := ⟨fGamefirst_row, _, ok_first FGamefirst_row gk n_abs m_moves m_behind, ⟨aGamefirst_row, iGamefirst_row, kGamefirst_row⟩, bGamefirst_row⟩
  have c_need_row : Cal l.prog w K mg base 1 "need_row" ["knob", "row"] (spNeedRow K) := ⟨f9, _, ok_need_row F9 g_MOST_ROW n_enumerate n_min, PySem.W.mg_of X G a9, k9, b9⟩
  have c_positions : Cal l.prog w K mg base 1 "positions" ["row"] (spPos K) := ⟨f10, _, ok_positions F10 , PySem.W.mg_of X G a10, k10, b10⟩
  have c_shown : Cal l.prog w K mg base 2 "shown" ["knob", "row"] (spShown K) := ⟨f11, _, ok_shown F11 g_PAIRS pk c_need_knob c_need_row c_positions, PySem.W.mg_of X G a11, k11, b11⟩
  have c_judged : Cal l.prog w K mg base 3 "judged" ["knob", "reader"] (spJudged K) := ⟨f12, _, ok_judged F12 gk g_MISSED c_need_knob c_need_reader m_Game m_first_row, PySem.W.mg_of X G a12, k12, b12⟩
  have ei_BadKnob : ErrI l.prog w K mg base C_BadKnob "why" ["self", "why"] := ⟨fEBadKnob, _, aEBadKnob, tiBadKnob, ok_bki FEBadKnob ge tbE oex_BadKnob enwBadKnob, bEBadKnob⟩
  have ei_BadReader : ErrI l.prog w K mg base C_BadReader "why" ["self", "why"] := ⟨fEBadReader, _, aEBadReader, tiBadReader, ok_bri FEBadReader ge tbE oex_BadReader enwBadReader, bEBadReader⟩
  have cx_need_knob : CalN l.prog w K mg base 3 "need_knob" ["knob"] (spNeedKnobX K C_BadKnob) := ⟨f7, _, ok_needkx F7 g_MOST_GAP ek_BadKnob ei_BadKnob, PySem.W.mg_of X G a7, k7, b7⟩
  have cx_need_reader : CalN l.prog w K mg base 3 "need_reader" ["reader"] (spNeedReaderX K C_BadReader) := ⟨f8, _, ok_needrx F8 g_MOST_APART g_MOST_SAME ek_BadReader ei_BadReader, PySem.W.mg_of X G a8, k8, b8⟩
  have cx_fitted : CalN l.prog w K mg base 4 "fitted" ["knob"] (spK1 K C_BadKnob 0) := ⟨f15, _, ok_fittedk F15 cx_need_knob, PySem.W.mg_of X G a15, k15, b15⟩
  have cx_shown : CalN l.prog w K mg base 4 "shown" ["knob", "row"] (spK1 K C_BadKnob 1) := ⟨f11, _, ok_shownk F11 cx_need_knob, PySem.W.mg_of X G a11, k11, b11⟩
  have cx_written : CalN l.prog w K mg base 4 "written" ["knob", "row"] (spK1 K C_BadKnob 1) := ⟨f16, _, ok_writtenk F16 cx_need_knob, PySem.W.mg_of X G a16, k16, b16⟩
  have cx_read_row : CalN l.prog w K mg base 4 "read_row" ["knob", "text"] (spK1 K C_BadKnob 1) := ⟨f17, _, ok_read_rowk F17 cx_need_knob, PySem.W.mg_of X G a17, k17, b17⟩
  have cx_judged : CalN l.prog w K mg base 4 "judged" ["knob", "reader"] (spKR K C_BadKnob C_BadReader 0) := ⟨f12, _, ok_judgedkr F12 cx_need_knob cx_need_reader, PySem.W.mg_of X G a12, k12, b12⟩
  have cx_noisy : CalN l.prog w K mg base 4 "noisy" ["knob", "reader"] (spKR K C_BadKnob C_BadReader 0) := ⟨f13, _, ok_noisykr F13 cx_need_knob cx_need_reader, PySem.W.mg_of X G a13, k13, b13⟩
  have cx_run : CalN l.prog w K mg base 4 "run" ["knob", "reader", "row"] (spKR K C_BadKnob C_BadReader 1) := ⟨f14, _, ok_runkr F14 cx_need_knob cx_need_reader, PySem.W.mg_of X G a14, k14, b14⟩
  have c__law_with_reader : Cal l.prog w K mg base 2 "_law_with_reader" ["_law_knob_here", "_law_reader_here"] (spWithR l.prog w K mg base (tabs3 tP tR tK) C_BadKnob C_BadReader) := ⟨f5, _, ok_withr l5 c5 TBR tabs3_mR (tabs3_uR ne_tP_tR ne_tK_tR) cx_judged cx_noisy cx_run, PySem.W.mg_of X G a5, k5, b5⟩
  have c__law_with_knob : Cal l.prog w K mg base 2 "_law_with_knob" ["_law_knob_here"] (spWithK l.prog w K mg base (tabs3 tP tR tK) C_BadKnob) := ⟨f6, _, ok_withk l6 c6 TBK tabs3_mK (tabs3_uK ne_tP_tK ne_tR_tK) cx_fitted cx_shown cx_written cx_read_row, PySem.W.mg_of X G a6, k6, b6⟩
  have mx_Counter : MkrN l.prog w K mg base 4 C_Counter "Counter" ["self", "reader"] (spRi K C_BadReader) := ⟨fCounterxinitx, _, ok_cinitx FCounterxinitx cx_need_reader, PySem.W.mg_of X G zCCounter, ⟨mkCounter, aCounterxinitx, iCounterxinitx, kcCounter⟩, bCounterxinitx⟩
  have R : RefOk l.prog w K mg base C_KnobError C_BadKnob C_BadReader C_BadRow C_BadText 6 f20 _ ["_law_work", "_law_word", "_law_value"] := ok_refd (k := 4) F20 n_isinstance n_ValueError ge ge_BadKnob ge_BadReader ge_BadRow ge_BadText (ok_alikeh F18 n_isinstance n_bool n_int n_str) (PySem.W.mg_of X G a18) k18 b18
  exact ok_law l19 c19 TB R (PySem.W.mg_of X G a20) k20 b20 ne_tR_tP ne_tK_tP ew_BadKnob ew_BadReader ck n_max n_isinstance n_tuple c__law_dice c__law_off c__law_knob c__law_reader c__law_with_knob c__law_with_reader mx_Counter m_Counter m_count m_missed c_judged c_shown
theorem walk {l : PySem.W.OpenLaw} {q : Program} {loose : List Str} {XP : (Str → Option Value) → Heap → Prop} {YP : World → Heap → Prop} {d : DefRec} {K : Params → PySem.W.Frag} (hn : l.most = some 63) (hdf : d.params.defaults = []) (hY : ∀ (w : World) (h : Heap), YP w h → (K w.params).In h)
    (F : ∀ (w : World) (mg : Str → Option Value) (fa : Addr) (h : Heap), YP w h → (K w.params).In h → h.Ns mainGlobals mg → mg d.name = some (.ref fa) → LamX.LawAtS l w (K w.params) CX0 10 63 "_law_script" mg fa h) :
    PySem.W.WalkO q loose XP YP l.row.toRowW d [] (fun f vs => PySem.call f vs) :=
  LamX.walk_ofTs (n := 63) (k := 10) (x := "_law_script") (CX := fun _ => CX0) hn (by decide) hdf ⟨rfl, by decide, by decide⟩ hY F fun _ _ _ _ _ z => z
end KT
open PySem PySem.W PyProof.Rows in
set_option maxRecDepth 100000 in
set_option maxHeartbeats 0 in
theorem PySem.Challenge.cw_knobturn_k01_knobs_and_readers_refused_holds : PySem.Challenge.rw_knobturn_k01_knobs_and_readers_refused.Holds := by
  w_on; o_law; k_head; (case hw => w_witness2)
  k_fill
  refine KT.walk (l := PySem.Challenge.rw_knobturn_k01_knobs_and_readers_refused) rfl rfl (fun w h Y => PySem.W.km_in_of Y) ?F
  case F =>
    intro w mg fa h YY KX G hmg
    refine' KT.all_mk KX G hmg ?a1 ?l1 ?c1 ?k1 ?a2 ?l2 ?c2 ?k2 ?a3 ?l3 ?c3 ?k3 ?a4 ?l4 ?c4 ?k4 ?a5 ?l5 ?c5 ?k5 ?a6 ?l6 ?c6 ?k6 ?a7 ?l7 ?c7 ?k7 ?a8 ?l8 ?c8 ?k8 ?a9 ?l9 ?c9 ?k9 ?a10 ?l10 ?c10 ?k10 ?a11 ?l11 ?c11 ?k11 ?a12 ?l12 ?c12 ?k12 ?a13 ?l13 ?c13 ?k13 ?a14 ?l14 ?c14 ?k14 ?a15 ?l15 ?c15 ?k15 ?a16 ?l16 ?c16 ?k16 ?a17 ?l17 ?c17 ?k17 ?a18 ?l18 ?c18 ?k18 ?a19 ?l19 ?c19 ?k19 ?a20 ?l20 ?c20 ?k20 ?zg_MISSED ?zg_MOST_APART ?zg_MOST_GAP ?zg_MOST_ROW ?zg_MOST_SAME ?zP ?zP0 ?zP1 ?zP2 ?zP3 ?zP4 ?zn_ValueError ?zn_abs ?zn_all ?zn_bool ?zn_enumerate ?zn_int ?zn_isinstance ?zn_len ?zn_list ?zn_max ?zn_min ?zn_range ?zn_str ?zn_tuple ?zCCounter ?pgCounter ?hdCounter ?poCounter ?saCounter ?mkCounter ?kcCounter ?na_Counter_same ?na_Counter_kept ?na_Counter_met ?na_Counter_many ?na_Counter_total ?na_Counter_lost ?aCounterxinitx ?lCounterxinitx ?cCounterxinitx ?kCounterxinitx ?iCounterxinitx ?aCounterlook ?lCounterlook ?cCounterlook ?kCounterlook ?iCounterlook ?aCountercount ?lCountercount ?cCountercount ?kCountercount ?iCountercount ?aCountermissed ?lCountermissed ?cCountermissed ?kCountermissed ?iCountermissed ?zCGame ?pgGame ?hdGame ?poGame ?saGame ?mkGame ?kcGame ?na_Game_gap ?na_Game_bounce ?na_Game_apart ?na_Game_same ?na_Game_first ?aGamexinitx ?lGamexinitx ?cGamexinitx ?kGamexinitx ?iGamexinitx ?aGamemoves ?lGamemoves ?cGamemoves ?kGamemoves ?iGamemoves ?aGamebehind ?lGamebehind ?cGamebehind ?kGamebehind ?iGamebehind ?aGamefirst_row ?lGamefirst_row ?cGamefirst_row ?kGamefirst_row ?iGamefirst_row ?lcL ?zPL ?hdL ?nPL ?lcR ?zPR ?hdR ?nPR ?lcK ?zPK ?hdK ?nPK ?ne_tP_tR ?ne_tP_tK ?ne_tR_tP ?ne_tR_tK ?ne_tK_tP ?ne_tK_tR ?zE ?bga ?brd ?bini ?hnO ?htO ?zEBadKnob ?zEBadReader ?zEBadRow ?zEBadText ?olBadKnob ?ovBadKnob ?esaBadKnob ?eexBadKnob ?etyBadKnob ?ekcBadKnob ?ehdBadKnob ?ehgBadKnob ?ehkBadKnob ?ehaBadKnob ?ehmBadKnob ?enwBadKnob ?enaBadKnob ?aEBadKnob ?lEBadKnob ?cEBadKnob ?kEBadKnob ?tiBadKnob ?olBadReader ?ovBadReader ?esaBadReader ?eexBadReader ?etyBadReader ?ekcBadReader ?ehdBadReader ?ehgBadReader ?ehkBadReader ?ehaBadReader ?ehmBadReader ?enwBadReader ?enaBadReader ?aEBadReader ?lEBadReader ?cEBadReader ?kEBadReader ?tiBadReader ?xmBadKnob ?ki0BadKnob ?ki1BadKnob ?ki2BadKnob ?ki3BadKnob ?kvBadKnob ?xmBadReader ?ki0BadReader ?ki1BadReader ?ki2BadReader ?ki3BadReader ?kvBadReader ?ownR ?ownK ?own
    (case a1 => k_is)
    (case l1 => k_is)
    (case c1 => k_is)
    (case k1 => k_is)
    (case a2 => k_is)
    (case l2 => k_is)
    (case c2 => k_is)
    (case k2 => k_is)
    (case a3 => k_is)
    (case l3 => k_is)
    (case c3 => k_is)
    (case k3 => k_is)
    (case a4 => k_is)
    (case l4 => k_is)
    (case c4 => k_is)
    (case k4 => k_is)
    (case a5 => k_is)
    (case l5 => k_is)
    (case c5 => k_is)
    (case k5 => k_is)
    (case a6 => k_is)
    (case l6 => k_is)
    (case c6 => k_is)
    (case k6 => k_is)
    (case a7 => k_is)
    (case l7 => k_is)
    (case c7 => k_is)
    (case k7 => k_is)
    (case a8 => k_is)
    (case l8 => k_is)
    (case c8 => k_is)
    (case k8 => k_is)
    (case a9 => k_is)
    (case l9 => k_is)
    (case c9 => k_is)
    (case k9 => k_is)
    (case a10 => k_is)
    (case l10 => k_is)
    (case c10 => k_is)
    (case k10 => k_is)
    (case a11 => k_is)
    (case l11 => k_is)
    (case c11 => k_is)
    (case k11 => k_is)
    (case a12 => k_is)
    (case l12 => k_is)
    (case c12 => k_is)
    (case k12 => k_is)
    (case a13 => k_is)
    (case l13 => k_is)
    (case c13 => k_is)
    (case k13 => k_is)
    (case a14 => k_is)
    (case l14 => k_is)
    (case c14 => k_is)
    (case k14 => k_is)
    (case a15 => k_is)
    (case l15 => k_is)
    (case c15 => k_is)
    (case k15 => k_is)
    (case a16 => k_is)
    (case l16 => k_is)
    (case c16 => k_is)
    (case k16 => k_is)
    (case a17 => k_is)
    (case l17 => k_is)
    (case c17 => k_is)
    (case k17 => k_is)
    (case a18 => k_is)
    (case l18 => k_is)
    (case c18 => k_is)
    (case k18 => k_is)
    (case a19 => k_is)
    (case l19 => k_is)
    (case c19 => k_is)
    (case k19 => k_is)
    (case a20 => k_is)
    (case l20 => k_is)
    (case c20 => k_is)
    (case k20 => k_is)
    (case zg_MISSED => k_is)
    (case zg_MOST_APART => k_is)
    (case zg_MOST_GAP => k_is)
    (case zg_MOST_ROW => k_is)
    (case zg_MOST_SAME => k_is)
    (case zP => k_is)
    (case zP0 => k_is)
    (case zP1 => k_is)
    (case zP2 => k_is)
    (case zP3 => k_is)
    (case zP4 => k_is)
    (case zn_ValueError => k_is)
    (case zn_abs => k_is)
    (case zn_all => k_is)
    (case zn_bool => k_is)
    (case zn_enumerate => k_is)
    (case zn_int => k_is)
    (case zn_isinstance => k_is)
    (case zn_len => k_is)
    (case zn_list => k_is)
    (case zn_max => k_is)
    (case zn_min => k_is)
    (case zn_range => k_is)
    (case zn_str => k_is)
    (case zn_tuple => k_is)
    (case zCCounter => k_is)
    (case pgCounter => k_is)
    (case hdCounter => k_is)
    (case poCounter => k_is)
    (case saCounter => k_is)
    (case mkCounter => k_is)
    (case kcCounter => k_is)
    (case na_Counter_same => k_is)
    (case na_Counter_kept => k_is)
    (case na_Counter_met => k_is)
    (case na_Counter_many => k_is)
    (case na_Counter_total => k_is)
    (case na_Counter_lost => k_is)
    (case aCounterxinitx => k_is)
    (case lCounterxinitx => k_is)
    (case cCounterxinitx => k_is)
    (case kCounterxinitx => k_is)
    (case iCounterxinitx => k_is)
    (case aCounterlook => k_is)
    (case lCounterlook => k_is)
    (case cCounterlook => k_is)
    (case kCounterlook => k_is)
    (case iCounterlook => k_is)
    (case aCountercount => k_is)
    (case lCountercount => k_is)
    (case cCountercount => k_is)
    (case kCountercount => k_is)
    (case iCountercount => k_is)
    (case aCountermissed => k_is)
    (case lCountermissed => k_is)
    (case cCountermissed => k_is)
    (case kCountermissed => k_is)
    (case iCountermissed => k_is)
    (case zCGame => k_is)
    (case pgGame => k_is)
    (case hdGame => k_is)
    (case poGame => k_is)
    (case saGame => k_is)
    (case mkGame => k_is)
    (case kcGame => k_is)
    (case na_Game_gap => k_is)
    (case na_Game_bounce => k_is)
    (case na_Game_apart => k_is)
    (case na_Game_same => k_is)
    (case na_Game_first => k_is)
    (case aGamexinitx => k_is)
    (case lGamexinitx => k_is)
    (case cGamexinitx => k_is)
    (case kGamexinitx => k_is)
    (case iGamexinitx => k_is)
    (case aGamemoves => k_is)
    (case lGamemoves => k_is)
    (case cGamemoves => k_is)
    (case kGamemoves => k_is)
    (case iGamemoves => k_is)
    (case aGamebehind => k_is)
    (case lGamebehind => k_is)
    (case cGamebehind => k_is)
    (case kGamebehind => k_is)
    (case iGamebehind => k_is)
    (case aGamefirst_row => k_is)
    (case lGamefirst_row => k_is)
    (case cGamefirst_row => k_is)
    (case kGamefirst_row => k_is)
    (case iGamefirst_row => k_is)
    (case lcL => k_is)
    (case zPL => exact rfl)
    (case hdL => kernel_rfl)
    (case nPL => kernel_rfl)
    (case lcR => k_is)
    (case zPR => exact rfl)
    (case hdR => kernel_rfl)
    (case nPR => kernel_rfl)
    (case lcK => k_is)
    (case zPK => exact rfl)
    (case hdK => kernel_rfl)
    (case nPK => kernel_rfl)
    (case ne_tP_tR => decide)
    (case ne_tP_tK => decide)
    (case ne_tR_tP => decide)
    (case ne_tR_tK => decide)
    (case ne_tK_tP => decide)
    (case ne_tK_tR => decide)
    (case zE => k_is)
    (case bga => k_is)
    (case brd => k_is)
    (case bini => k_is)
    (case hnO => k_is)
    (case htO => k_is)
    (case zEBadKnob => k_is)
    (case zEBadReader => k_is)
    (case zEBadRow => k_is)
    (case zEBadText => k_is)
    (case olBadKnob => k_is)
    (case ovBadKnob => exact rfl)
    (case esaBadKnob => k_is)
    (case eexBadKnob => k_is)
    (case etyBadKnob => k_is)
    (case ekcBadKnob => k_is)
    (case ehdBadKnob => k_is)
    (case ehgBadKnob => k_is)
    (case ehkBadKnob => k_is)
    (case ehaBadKnob => k_is)
    (case ehmBadKnob => k_is)
    (case enwBadKnob => k_is)
    (case enaBadKnob => k_is)
    (case aEBadKnob => k_is)
    (case lEBadKnob => k_is)
    (case cEBadKnob => k_is)
    (case kEBadKnob => k_is)
    (case tiBadKnob => k_is)
    (case olBadReader => k_is)
    (case ovBadReader => exact rfl)
    (case esaBadReader => k_is)
    (case eexBadReader => k_is)
    (case etyBadReader => k_is)
    (case ekcBadReader => k_is)
    (case ehdBadReader => k_is)
    (case ehgBadReader => k_is)
    (case ehkBadReader => k_is)
    (case ehaBadReader => k_is)
    (case ehmBadReader => k_is)
    (case enwBadReader => k_is)
    (case enaBadReader => k_is)
    (case aEBadReader => k_is)
    (case lEBadReader => k_is)
    (case cEBadReader => k_is)
    (case kEBadReader => k_is)
    (case tiBadReader => k_is)
    (case xmBadKnob => kernel_rfl)
    (case ki0BadKnob => kernel_rfl)
    (case ki1BadKnob => kernel_rfl)
    (case ki2BadKnob => kernel_rfl)
    (case ki3BadKnob => kernel_rfl)
    (case kvBadKnob => kernel_rfl)
    (case xmBadReader => kernel_rfl)
    (case ki0BadReader => kernel_rfl)
    (case ki1BadReader => kernel_rfl)
    (case ki2BadReader => kernel_rfl)
    (case ki3BadReader => kernel_rfl)
    (case kvBadReader => kernel_rfl)
    (case ownR => exact PySem.W.km_tabs_of YY _ (by decide))
    (case ownK => exact PySem.W.km_tabs_of YY _ (by decide))
    (case own => exact PySem.W.km_tabs_of YY _ (by decide))
