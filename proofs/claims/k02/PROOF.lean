import PyProof.Rows.All
import Wide.All
import OpenK.AllK
import Wide.FinOn
import HandS.ForMost
import HandS.IsInst
import HandS.Codes
import HandS.Walk
import HandS.Deep
import HandS.Strs
import HandS.SetFor
import HandS.TupAny
import KE.KDictKeyed
import KE.KDictDisplayH
import HandS.RevRange
import HandS.SuiteRaise
import HandS.ExcOwn
import HandS.WordsExc
import KE.KExcIs
import HandS.Lambda
import HandS.HotCalls
import HandS.ExcField
import HandS.ExcCtx
import HandS.ExcInit
import HandS.EndOwn
import KE.KNestM
import PyProof.EnumFor
import PyProof.EnumMake
import KE.GoesMore
import PyProof.Draws
import HandS.More
import PySem.Challenge.RW_knobturn_k02_rows_refused
set_option Elab.async false
set_option linter.all false
set_option maxRecDepth 100000
/-! # Heaps with some places hidden, data read off a heap, calls in short -/
namespace KT
open PySem L2

/-! ### heaps with some places hidden -/
def Fz (ps : List Addr) (H : Hp) : Hp := fun a => if a ∈ ps then none else H a
section
variable {ps qs : List Addr} {H H' H1 H2 : Hp} {a b p : Addr} {o : HO} {K : PySem.W.Frag}
theorem fz_out (h : a ∉ ps) : Fz ps H a = H a := if_neg h
theorem fz_in (h : a ∈ ps) : Fz ps H a = none := if_pos h
theorem fz_some : Fz ps H a = some o ↔ a ∉ ps ∧ H a = some o := by
  unfold Fz
  by_cases h : a ∈ ps
  · rw [if_pos h]; simp [h]
  · rw [if_neg h]; simp [h]
theorem fz_nil : Fz [] H = H := by funext a; exact fz_out (by simp)
theorem fz_le : Same (Fz ps H) H := fun b o h => (fz_some.mp h).2
theorem fz_less (h : ∀ a ∈ ps, a ∈ qs) : Same (Fz qs H) (Fz ps H) := fun b o e => by
  obtain ⟨n, e⟩ := fz_some.mp e
  exact fz_some.mpr ⟨fun z => n (h b z), e⟩
theorem fz_tail : Same (Fz (a :: ps) H) (Fz ps H) := fz_less fun _ h => List.mem_cons_of_mem _ h
theorem fz_mono (h : Same H H') : Same (Fz ps H) (Fz ps H') := fun b o e => by
  obtain ⟨n, e⟩ := fz_some.mp e
  exact fz_some.mpr ⟨n, h b o e⟩
/-- a store at a hidden place -/
theorem fz_set (h : a ∈ ps) : Fz ps (upd H a o) = Fz ps H := by
  funext b
  by_cases hb : b ∈ ps
  · rw [fz_in hb, fz_in hb]
  · rw [fz_out hb, fz_out hb, upd_ne (fun z : b = a => hb (by rw [z]; exact h))]
theorem same_new (h : H a = none) : Same H (upd H a o) := fun b u e => by
  rw [upd_ne (ne_of_none e h)]
  exact e
theorem same_put (h : H a = none) (e : Same H H') : Same H (upd H' a o) := fun b u q => by
  rw [upd_ne (ne_of_none q h)]
  exact e b u q
def Live (ps : List Addr) (H : Hp) : Prop := ∀ p ∈ ps, H p ≠ none
theorem live_nil : Live [] H := fun _ h => by cases h
theorem live_cons (h : H a = some o) (l : Live ps H) : Live (a :: ps) H := fun p hp => by
  rcases List.mem_cons.mp hp with rfl | hp
  · rw [h]; exact fun z => by cases z
  · exact l p hp
theorem Live.tail (l : Live (a :: ps) H) : Live ps H := fun p hp => l p (List.mem_cons_of_mem _ hp)
theorem Live.new (l : Live ps H) (h : H a = none) : a ∉ ps := fun z => l a z h
theorem Live.mono (l : Live ps H) (e : Same H H') : Live ps H' := fun p hp z => by
  cases q : H p with
  | none => exact l p hp q
  | some o => rw [e p o q] at z; cases z
theorem Live.upd (l : Live ps H) : Live ps (upd H a o) := fun p hp z => by
  by_cases h : p = a
  · rw [h, upd_same] at z; cases z
  · rw [upd_ne h] at z; exact l p hp z
theorem fz_new (h : a ∉ ps) : Fz ps (upd H a o) = upd (Fz ps H) a o := by
  funext b
  by_cases hb : b = a
  · rw [hb, fz_out h, upd_same, upd_same]
  · rw [upd_ne hb]
    by_cases hp : b ∈ ps
    · rw [fz_in hp, fz_in hp]
    · rw [fz_out hp, fz_out hp, upd_ne hb]
theorem same_fz (h : ∀ p ∈ ps, H p = none) (e : Same H H') : Same H (Fz ps H') := fun b o q => fz_some.mpr ⟨(fun z => by rw [h b z] at q; cases q), e b o q⟩
/-- all but the hidden places is as it was -/
def Frm (ps : List Addr) (H H' : Hp) : Prop := ∀ b o, b ∉ ps → H b = some o → H' b = some o
theorem Frm.refl : Frm ps H H := fun _ _ _ h => h
theorem Frm.trans (a : Frm ps H H1) (b : Frm ps H1 H2) : Frm ps H H2 := fun c o n h => b c o n (a c o n h)
theorem Frm.fz (a : Frm ps H H') : Same (Fz ps H) (Fz ps H') := fun b o e => by
  obtain ⟨n, e⟩ := fz_some.mp e
  exact fz_some.mpr ⟨n, a b o n e⟩
theorem Frm.of_same (a : Same H H') : Frm ps H H' := fun b o _ h => a b o h
theorem Frm.mono (h : ∀ a ∈ ps, a ∈ qs) (a : Frm ps H H') : Frm qs H H' := fun b o n e => a b o (fun z => n (h b z)) e
theorem Frm.set (h : a ∈ ps) : Frm ps H (upd H a o) := fun b u n e => by
  rw [upd_ne (fun z : b = a => n (by rw [z]; exact h))]
  exact e
theorem Frm.new (h : H a = none) : Frm ps H (upd H a o) := Frm.of_same (same_new h)
/-- what is new may change -/
theorem Frm.off (e : Frm (a :: ps) H H') (h : H a = none) : Frm ps H H' := fun b o n q => e b o (fun z => by
  rcases List.mem_cons.mp z with rfl | z
  · rw [h] at q; cases q
  · exact n z) q
theorem Frm.same (e : Frm [] H H') : Same H H' := fun b o h => e b o (by simp) h
theorem same_seqT {xs : List V} (e : Same H H') (h : SqT K H a xs) : SqT K H' a xs := by
  rcases h with (h | ⟨o, h⟩) | h
  · exact .inl (.inl (e _ _ h))
  · exact .inl (.inr ⟨o, e _ _ h⟩)
  · exact .inr h
end

/-! ### lists -/
theorem int_at {ns : List Int} {i : Nat} {y : V} (h : (ns.map V.int)[i]? = some y) : ∃ z, ns[i]? = some z ∧ y = V.int z := by
  rw [List.getElem?_map] at h
  cases e : ns[i]? with
  | none => rw [e] at h; cases h
  | some z => rw [e] at h; exact ⟨z, rfl, (Option.some.inj h).symm⟩
theorem ixN_nat {n j : Nat} (h : j < n) : ixN n (j : Int) = some j := by
  unfold ixN
  simp [h]
theorem seqIndex_nat {n j : Nat} (h : j < n) : seqIndex? (j : Int) n = some j := by
  have e : ¬ ((j : Int) < 0) := by omega
  unfold seqIndex?
  simp [h, e]
theorem upd_id {H : Hp} {a : Addr} {o : HO} (h : H a = some o) : upd H a o = H := by
  funext b
  by_cases e : b = a
  · rw [e, upd_same, h]
  · rw [upd_ne e]
theorem min2 (a b : Int) : min a b = if b < a then b else a := by
  rw [Int.min_def]
  by_cases h : b < a
  · rw [if_pos h, if_neg (by omega)]
  · rw [if_neg h, if_pos (by omega)]
/-! ### tests -/
theorem iteNT {c A B : Prop} [Decidable c] (hc : ¬ c) (h : A) : if (!decide c) = true then A else B := by
  rw [decide_eq_false hc]
  exact iteT h
theorem iteDT {c A B : Prop} [Decidable c] (hc : c) (h : A) : if decide c = true then A else B := by
  rw [decide_eq_true hc]
  exact iteT h
theorem iteDF {c A B : Prop} [Decidable c] (hc : ¬ c) (h : B) : if decide c = true then A else B := by
  rw [decide_eq_false hc]
  exact iteF h
theorem iteBT {b : Bool} {A B : Prop} (hb : b = true) (h : A) : if b = true then A else B := by rw [if_pos hb]; exact h
theorem iteBF {b : Bool} {A B : Prop} (hb : b = false) (h : B) : if b = true then A else B := by rw [hb]; exact iteF h
theorem iteB {b : Bool} {A B : Prop} (h1 : b = true → A) (h2 : b = false → B) : if b = true then A else B := by
  cases b with
  | true => exact iteT (h1 rfl)
  | false => exact iteF (h2 rfl)
theorem vint_ne {i j : Int} (h : i ≠ j) : V.int i ≠ V.int j := fun e => h (V.int.inj e)
theorem vint_eq {i j : Int} (h : i = j) : V.int i = V.int j := congrArg V.int h
/-! ### data -/
section
variable {K : PySem.W.Frag} {H H' : Hp} {ps : List Addr}
mutual
theorem dp_same (e : Same H H') : ∀ {v : V} {d : PyData}, Dp K H v d → Dp K H' v d
  | _, _, .non => .non
  | _, _, .bl b => .bl b
  | _, _, .int i => .int i
  | _, _, .str x => .str x
  | _, _, .lst h a => .lst (e.seq h) (dpa_same e a)
  | _, _, .tup h a => .tup (same_seqT e h) (dpa_same e a)
theorem dpa_same (e : Same H H') : ∀ {vs : List V} {ds : List PyData}, DpAll K H vs ds → DpAll K H' vs ds
  | _, _, .nil => .nil
  | _, _, .cons h t => .cons (dp_same e h) (dpa_same e t)
end
theorem dp_fz {v : V} {d : PyData} (h : Dp K (Fz ps H) v d) : Dp K H v d := dp_same fz_le h
theorem dpa_length : ∀ {vs : List V} {ds : List PyData}, DpAll K H vs ds → vs.length = ds.length
  | _, _, .nil => rfl
  | _, _, .cons _ t => congrArg (· + 1) (dpa_length t)
theorem dpa_get : ∀ {vs : List V} {ds : List PyData} {i : Nat} {v : V}, DpAll K H vs ds → vs[i]? = some v → ∃ d, ds[i]? = some d ∧ Dp K H v d
  | _, _, _, _, .nil, e => by simp at e
  | _, _, 0, _, .cons h _, e => by simp at e; subst e; exact ⟨_, rfl, h⟩
  | _, _, i + 1, v, .cons _ t, e => by
    obtain ⟨d, h1, h2⟩ := dpa_get (i := i) (v := v) t (by simpa using e)
    exact ⟨d, by simpa using h1, h2⟩
theorem dpa_at : ∀ {vs : List V} {ds : List PyData} {i : Nat} {d : PyData}, DpAll K H vs ds → ds[i]? = some d → ∃ v, vs[i]? = some v ∧ Dp K H v d
  | _, _, _, _, .nil, e => by simp at e
  | _, _, 0, _, .cons h _, e => by simp at e; subst e; exact ⟨_, rfl, h⟩
  | _, _, i + 1, d, .cons _ t, e => by
    obtain ⟨v, h1, h2⟩ := dpa_at (i := i) (d := d) t (by simpa using e)
    exact ⟨v, by simpa using h1, h2⟩
theorem dpa_append : ∀ {vs us : List V} {ds es : List PyData}, DpAll K H vs ds → DpAll K H us es → DpAll K H (vs ++ us) (ds ++ es)
  | _, _, _, _, .nil, t => t
  | _, _, _, _, .cons h t, u => .cons h (dpa_append t u)
theorem dpa_snoc {vs : List V} {ds : List PyData} {v : V} {d : PyData} (h : DpAll K H vs ds) (q : Dp K H v d) : DpAll K H (vs ++ [v]) (ds ++ [d]) := dpa_append h (.cons q .nil)
theorem dpa_take : ∀ {vs : List V} {ds : List PyData} (n : Nat), DpAll K H vs ds → DpAll K H (vs.take n) (ds.take n)
  | _, _, 0, _ => by simp; exact .nil
  | _, _, _ + 1, .nil => by simp; exact .nil
  | _, _, n + 1, .cons h t => .cons h (dpa_take n t)
theorem dpa_drop : ∀ {vs : List V} {ds : List PyData} (n : Nat), DpAll K H vs ds → DpAll K H (vs.drop n) (ds.drop n)
  | _, _, 0, h => h
  | _, _, _ + 1, .nil => by simp; exact .nil
  | _, _, n + 1, .cons _ t => dpa_drop n t
theorem dpa_ints : ∀ (ns : List Int), DpAll K H (ns.map V.int) (ns.map PyData.int)
  | [] => .nil
  | n :: r => .cons (.int n) (dpa_ints r)
theorem dpa_ints_eq : ∀ {ns : List Int} {vs : List V}, DpAll K H vs (ns.map PyData.int) → vs = ns.map V.int
  | [], _, h => by cases h; rfl
  | n :: r, _, h => by
    cases h with
    | cons q t => cases q; rw [dpa_ints_eq t]; rfl
theorem dpa_map {α : Type} {f : α → PyData} : ∀ {l : List α} {vs : List V}, (∀ (i : Nat) (v : V), vs[i]? = some v → ∃ x, l[i]? = some x ∧ Dp K H v (f x)) → vs.length = l.length → DpAll K H vs (l.map f)
  | [], [], _, _ => .nil
  | [], _ :: _, _, e => by simp at e
  | _ :: _, [], _, e => by simp at e
  | x :: l, v :: vs, h, e => by
    obtain ⟨y, h1, h2⟩ := h 0 v rfl
    have : x = y := Option.some.inj h1
    subst this
    exact .cons h2 (dpa_map (fun i u q => h (i + 1) u q) (by simpa using e))
theorem dpa_map_at {α : Type} {f : α → PyData} {l : List α} {vs : List V} {i : Nat} {v : V} (h : DpAll K H vs (l.map f)) (e : vs[i]? = some v) : ∃ x, l[i]? = some x ∧ Dp K H v (f x) := by
  obtain ⟨d, h1, h2⟩ := dpa_get h e
  rw [List.getElem?_map] at h1
  cases q : l[i]? with
  | none => rw [q] at h1; cases h1
  | some x => rw [q] at h1; cases h1; exact ⟨x, rfl, h2⟩
theorem dp_int {v : V} {i : Int} (h : Dp K H v (.int i)) : v = .int i := by cases h; rfl
theorem dp_bl {v : V} {b : Bool} (h : Dp K H v (.bool b)) : v = .bl b := by cases h; rfl
theorem dp_str {v : V} {x : Str} (h : Dp K H v (.str x)) : v = .str x := by cases h; rfl
theorem dp_non {v : V} (h : Dp K H v .none) : v = .non := by cases h; rfl
theorem dp_lst {v : V} {ds : List PyData} (h : Dp K H v (.list ds)) : ∃ a xs, v = .ref a ∧ SqL K H a xs ∧ DpAll K H xs ds := by
  cases h with | lst h a => exact ⟨_, _, rfl, h, a⟩
theorem dp_tup {v : V} {ds : List PyData} (h : Dp K H v (.tuple ds)) : ∃ a xs, v = .ref a ∧ SqT K H a xs ∧ DpAll K H xs ds := by
  cases h with | tup h a => exact ⟨_, _, rfl, h, a⟩
/-- a pair of plain things -/
theorem dp_two {v : V} {d e : PyData} (h : Dp K H v (.tuple [d, e])) : ∃ a x y, v = .ref a ∧ SqT K H a [x, y] ∧ Dp K H x d ∧ Dp K H y e := by
  obtain ⟨a, xs, rfl, h, t⟩ := dp_tup h
  cases t with
  | cons h1 t =>
    cases t with
    | cons h2 t => cases t; exact ⟨a, _, _, rfl, h, h1, h2⟩
theorem dp_ii {v : V} {i j : Int} (h : Dp K H v (.tuple [.int i, .int j])) : ∃ a, v = .ref a ∧ SqT K H a [.int i, .int j] := by
  obtain ⟨a, x, y, rfl, h, h1, h2⟩ := dp_two h
  rw [dp_int h1, dp_int h2] at h
  exact ⟨a, rfl, h⟩
theorem dp_ib {v : V} {i : Int} {b : Bool} (h : Dp K H v (.tuple [.int i, .bool b])) : ∃ a, v = .ref a ∧ SqT K H a [.int i, .bl b] := by
  obtain ⟨a, x, y, rfl, h, h1, h2⟩ := dp_two h
  rw [dp_int h1, dp_bl h2] at h
  exact ⟨a, rfl, h⟩
/-- a new tuple, a new list -/
theorem dp_newT {a : Addr} {xs : List V} {ds : List PyData} (l : Live ps H) (h : H a = none) (t : DpAll K (Fz ps H) xs ds) : Dp K (Fz ps (upd H a (.tup xs))) (.ref a) (.tuple ds) := by
  rw [fz_new (l.new h)]
  refine .tup (SqT.of upd_same) (dpa_same (same_new ?_) t)
  rw [fz_out (l.new h)]; exact h
theorem dp_newL {a : Addr} {xs : List V} {ds : List PyData} (l : Live ps H) (h : H a = none) (t : DpAll K (Fz ps H) xs ds) : Dp K (Fz ps (upd H a (.lst xs))) (.ref a) (.list ds) := by
  rw [fz_new (l.new h)]
  refine .lst (SqL.of upd_same) (dpa_same (same_new ?_) t)
  rw [fz_out (l.new h)]; exact h
/-- a list that was being made is let go -/
theorem dp_doneL {a : Addr} {xs : List V} {ds : List PyData} (n : a ∉ ps) (h : H a = some (.lst xs)) (t : DpAll K (Fz (a :: ps) H) xs ds) : Dp K (Fz ps H) (.ref a) (.list ds) :=
  .lst (SqL.of (by rw [fz_out n]; exact h)) (dpa_same fz_tail t)
/-- found.append((..)), found hidden -/
theorem dpa_push {a t : Addr} {o : HO} {xs ys : List V} {ds es : List PyData} (l : Live (a :: ps) H) (ht : H t = none) (h : DpAll K (Fz (a :: ps) H) xs ds) (q : DpAll K (Fz (a :: ps) H) ys es) :
    DpAll K (Fz (a :: ps) (upd (upd H t (.tup ys)) a o)) (xs ++ [.ref t]) (ds ++ [.tuple es]) := by
  rw [fz_set (List.mem_cons_self ..)]
  exact dpa_snoc (dpa_same (fz_mono (same_new ht)) h) (dp_newT l ht q)
theorem dpa_put {a : Addr} {o : HO} {v : V} {d : PyData} {xs : List V} {ds : List PyData} (h : DpAll K (Fz (a :: ps) H) xs ds) (q : Dp K (Fz (a :: ps) H) v d) :
    DpAll K (Fz (a :: ps) (upd H a o)) (xs ++ [v]) (ds ++ [d]) := by
  rw [fz_set (List.mem_cons_self ..)]
  exact dpa_snoc h q
theorem dpa_ii (i j : Int) : DpAll K H [.int i, .int j] [.int i, .int j] := .cons (.int i) (.cons (.int j) .nil)
theorem dpa_ib (i : Int) (b : Bool) : DpAll K H [.int i, .bl b] [.int i, .bool b] := .cons (.int i) (.cons (.bl b) .nil)
/-- the types that isinstance sees -/
theorem ty_lst {a : Addr} {xs : List V} (h : SqL K H a xs) : TyX K H (.ref a) (.type "list") := by
  rcases h with (h | ⟨o, h⟩) | ⟨o, its, n, h, c, _⟩
  · exact .base (.lst h)
  · exact .base (.frz h)
  · exact .kList h c
theorem ty_tup {a : Addr} {xs : List V} (h : SqT K H a xs) : TyX K H (.ref a) (.type "tuple") := by
  rcases h with (h | ⟨o, h⟩) | ⟨o, its, n, h, c, _⟩
  · exact .base (.tup h)
  · exact .fTuple h
  · exact .kTuple h c
end

/-! ### calls in short -/
/-- a def of the module: it keeps sp -/
def Cal (P : Program) (w : World) (K : PySem.W.Frag) (mg : Str → Option Value) (base : Heap) (k : Nat) (x : Str) (ps : List Str) (sp : Sp) : Prop :=
  ∃ f fd, FnOk P w K mg base CX0 k f fd ps sp ∧ mg x = some (.ref f) ∧ PySem.W.keepIn K (.ref f) = true ∧ Binds K fd ps []
/-- a method of the class at C -/
def Mtd (P : Program) (w : World) (K : PySem.W.Frag) (mg : Str → Option Value) (base : Heap) (k : Nat) (C : Addr) (m : Str) (ps : List Str) (sp : Sp) : Prop :=
  ∃ f fd, FnOk P w K mg base CX0 k f fd ps sp ∧ Meth K C m f ∧ Binds K fd ps []
/-- a class that is called -/
def Mkr (P : Program) (w : World) (K : PySem.W.Frag) (mg : Str → Option Value) (base : Heap) (k : Nat) (C : Addr) (x : Str) (ps : List Str) (sp : Sp) : Prop :=
  ∃ f fd, FnOk P w K mg base CX0 k f fd ps sp ∧ mg x = some (.ref C) ∧ Mk K C f ∧ Binds K fd ps []
section
variable {X : Cx} {k : Nat} {C : Addr} {x m : Str} {qs : List Str} {sp : Sp} {p pos apos : Pos} {e o : Expr} {es : List Expr} {t : TA} {ta : TE}
/-! rules whose readings name K plainly (within a comprehension X.K does not do) -/
def rLenQ (K : PySem.W.Frag) : List V → Hp → VK → Prop := fun xs H Q => ∃ p ys, xs = [.ref p] ∧ (SqL K H p ys ∨ SqT K H p ys) ∧ Q (.int ys.length) H
theorem call_lenQ : CallR X (.builtin "len") (rLenQ X.K) := call_len_seq
def rListQ (K : PySem.W.Frag) : List V → Hp → VK → Prop := fun xs H Q => ∃ p ys, xs = [.ref p] ∧ (SqL K H p ys ∨ SqT K H p ys) ∧ ∀ l, H l = none → Q (.ref l) (upd H l (.lst ys))
theorem call_listQ : CallR X (.type "list") (rListQ X.K) := call_list_of
def rTupleQ (K : PySem.W.Frag) : List V → Hp → VK → Prop := fun xs H Q => ∃ p ys, xs = [.ref p] ∧ ((SqL K H p ys ∧ ∀ l, H l = none → Q (.ref l) (upd H l (.tup ys))) ∨ (SqT K H p ys ∧ Q (.ref p) H))
theorem call_tupleQ : CallR X (.type "tuple") (rTupleQ X.K) := call_tuple_of
theorem pe_fldK {K : PySem.W.Frag} {f : Str} (hK : X.K = K) (he : PE X e ta) (hb : attributeBase e f X.env (eval e X.env) = eval e X.env := by rfl) : PE X (.Attribute e f pos) (tFld K ta f) := by
  subst hK
  exact pe_fld he hb
/-- a word between an expression and what follows -/
def tCutE (t : TE) : TE := fun σ H Q => ∃ R : VK, t σ H R ∧ ∀ v H', R v H' → Q v H'
theorem pe_cut {t : TE} (h : PE X e t) : PE X e (tCutE t) := ⟨fun pins s σ H Q I ⟨R, h1, h2⟩ => thn (h.run pins s σ H R I h1) fun v s1 ⟨x, H1, I1, r1, q1⟩ => ⟨x, H1, I1, r1, h2 _ _ q1⟩⟩
def tCutT (t : TT) : TT := fun σ H Q => ∃ R : Bool → Hp → Prop, t σ H R ∧ ∀ v H', R v H' → Q v H'
theorem pt_cut {t : TT} (h : PT X e t) : PT X e (tCutT t) := ⟨fun pins s σ H Q I ⟨R, h1, h2⟩ => thn (h.run pins s σ H R I h1) fun v s1 ⟨H1, I1, q1⟩ => ⟨H1, I1, h2 _ _ q1⟩⟩
theorem pe_cal (c : Cal X.prog X.w X.K X.mg X.base k x qs sp) (hr : Room k X.A) (ha : PA X (e :: es) t) (hg : Gl X x := by rfl) (hdb : (x == ("__debug__" : Str)) = false := by decide)
    (he : starEach (e :: es) X.env = (false, eval e X.env) :: starEach es X.env := by rfl) (hpl : (backTo pos (starEach es X.env)).any (·.1) = false := by rfl) : PE X (.Call (.Name x p) (e :: es) [] pos) (tCall sp [] E0 t) := by
  obtain ⟨f, fd, F, hm, hk, hb⟩ := c
  exact pe_call F hr hg hm hk hb .nil pass0 ha hdb he hpl
theorem pe_cal0 (c : Cal X.prog X.w X.K X.mg X.base k x qs sp) (hr : Room k X.A) (hg : Gl X x := by rfl) (hdb : (x == ("__debug__" : Str)) = false := by decide) : PE X (.Call (.Name x p) [] [] pos) (tCall sp [] E0 tNil) := by
  obtain ⟨f, fd, F, hm, hk, hb⟩ := c
  exact pe_call0 F hr hg hm hk hb .nil pass0 hdb
theorem pe_mtd {pl : Sem Bool} (c : Mtd X.prog X.w X.K X.mg X.base k C m qs sp) (cl : Cls X.K C) (hr : Room k X.A) (he : PE X o ta) (ha : PA X (e :: es) t)
    (hst : starEach (e :: es) X.env = (false, eval e X.env) :: starEach es X.env := by rfl) (hpl : (backTo pos (starEach es X.env)).any (·.1) = false := by rfl)
    (ht : eval (.Call (.Attribute o m apos) (e :: es) [] pos) X.env = (do
      let ov ← eval o X.env
      standAt apos.atName
      let (f, first) ← holding [ov] (getMethod ov m pl)
      callWith pos f first (backTo pos (starEach (e :: es) X.env)) (backToKw pos (keywordEach [] X.env))) := by rfl) :
    PE X (.Call (.Attribute o m apos) (e :: es) [] pos) (tMeth C m sp [] E0 ta t) := by
  obtain ⟨f, fd, F, hm, hb⟩ := c
  exact pe_meth he cl hm F hr hb .nil pass0 ha hst hpl ht
theorem pe_mtd0 {pl : Sem Bool} (c : Mtd X.prog X.w X.K X.mg X.base k C m qs sp) (cl : Cls X.K C) (hr : Room k X.A) (he : PE X o ta)
    (ht : eval (.Call (.Attribute o m apos) [] [] pos) X.env = (do
      let ov ← eval o X.env
      standAt apos.atName
      let (f, first) ← holding [ov] (getMethod ov m pl)
      callWith pos f first (backTo pos (starEach [] X.env)) (backToKw pos (keywordEach [] X.env))) := by rfl) :
    PE X (.Call (.Attribute o m apos) [] [] pos) (tMeth C m sp [] E0 ta tNil) := by
  obtain ⟨f, fd, F, hm, hb⟩ := c
  exact pe_meth0 he cl hm F hr hb .nil pass0 ht
theorem pe_mkr (c : Mkr X.prog X.w X.K X.mg X.base k C x qs sp) (hr : Room (k + 1) X.A) (ha : PA X (e :: es) t) (hg : Gl X x := by rfl) (hdb : (x == ("__debug__" : Str)) = false := by decide)
    (he : starEach (e :: es) X.env = (false, eval e X.env) :: starEach es X.env := by rfl) (hpl : (backTo pos (starEach es X.env)).any (·.1) = false := by rfl) : PE X (.Call (.Name x p) (e :: es) [] pos) (tMake C sp [] E0 t) := by
  obtain ⟨f, fd, F, hm, M, hb⟩ := c
  exact pe_make M F hr hg hm hb .nil pass0 ha hdb he hpl
end
/-! ### t.index(x) of data at any depth -/
theorem hu65 {k : Nat} {A : Around} (r : Room k A) : A.units + 65 < cLine := by have := r.un; omega
def rTupIndexD (K : PySem.W.Frag) : V → List V → Hp → VK → Prop := fun x xs H Q => ∃ (a : Addr) (y : V) (d : PyData) (ds : List PyData) (j : Nat) (z : PyData), x = V.ref a ∧ xs = [y] ∧ Dp K H (V.ref a) (.tuple ds) ∧ Dp K H y d ∧
  SeqAt.shaped (.tuple ds) = true ∧ SeqAt.shaped d = true ∧ ds[j]? = some z ∧ PyData.eqv z d = true ∧ (∀ (m : Nat) (z' : PyData), m < j → ds[m]? = some z' → PyData.eqv z' d = false) ∧ Q (.int (j : Nat)) H
theorem mt_tup_indexD {X : Cx} (hu : X.A.units + 65 < cLine) : MtR X "tuple.index" (rTupIndexD X.K) := by
  intro pins s σ H x xs v us Q I rx rxs h
  obtain ⟨a, y, d, ds, j, z, rfl, rfl, hl, hy, sl, sd, hz, hzj, hno, q⟩ := h
  cases rx
  cases rxs with
  | cons ry rt =>
    rename_i uy ut
    cases rt
    obtain ⟨bs, r1⟩ := Dp.reads I d y uy hy ry
    have hxs : PyData.canLayAll0 ds = true := by
      have := SeqAt.canLay_of_shaped sl
      simpa [PyData.canLay0] using this
    have hroom : X.A.units + 1 + min (PyData.depthAll ds) d.depth < cLine := PyProof.Rows.room_in_shaped sd hu
    cases hl with
    | tup hs ha =>
      obtain ⟨its, rv, ⟨⟨cls, dd, dt, sls⟩, ho, hc, n, hdt⟩, hlen⟩ := I.tuple hs
      simp only at hc hdt
      subst hc hdt
      obtain ⟨as, h4⟩ := Dp.readsAll I ds _ its ha rv
      have hn : its.length = ds.length := SeqAt.ReadsAll.length ds its as h4
      have hmap : its.map (SeqAt.readOf s.heap) = ds := SeqAt.readsAll_map ds its as hxs h4
      obtain ⟨hjd, _⟩ := List.getElem?_eq_some_iff.mp hz
      have hjl : j < its.length := by omega
      have hj : j < its.toArray.size := by simpa using hjl
      have at_ : ∀ (m : Nat) (hm : m < its.toArray.size) (z' : PyData), ds[m]? = some z' → SeqAt.readOf s.heap its.toArray[m] = z' := by
        intro m hm z' hz'
        have hml : m < its.length := by simpa using hm
        rw [← hmap, List.getElem?_map, List.getElem?_eq_getElem hml] at hz'
        have e1 : SeqAt.readOf s.heap its[m] = z' := Option.some.inj (show some (SeqAt.readOf s.heap its[m]) = some z' from hz')
        simpa using e1
      refine call_meets PySem.F.slot_tuple_index ⟨_, ho, rfl⟩ PySem.F.entry_tuple_index (PySem.F.args_tuple_index_2 _ _)
        (TI.tuple_indexAt a its.toArray n dd sls uy (fun u => PyData.eqv (SeqAt.readOf s.heap u) d) j hj ?_ ?_) ⟨ho, SeqAt.items_eqAt (vs := its.toArray) (show ReadsAll s.heap its.toArray.toList ds as from h4) r1 hxs (SeqAt.canLay_of_shaped sd) hroom, ?_⟩
      · show PyData.eqv (SeqAt.readOf s.heap its.toArray[j]) d = true
        rw [at_ j hj z hz]
        exact hzj
      · intro m hm hmj
        have hmd : m < ds.length := by omega
        have hz' : ds[m]? = some ds[m] := List.getElem?_eq_getElem hmd
        show PyData.eqv (SeqAt.readOf s.heap its.toArray[m]) d = false
        rw [at_ m hm _ hz']
        exact hno m _ hmj hz'
      · exact ⟨.int (j : Nat), H, I.tok _, ⟨_, rfl⟩, q⟩
theorem few {α : Type} {fs : List α} (n : Nat) (h : fs.length = n) (hn : n < 1000 := by decide) : fs.length < 1000 := by omega
theorem iteD {c A B : Prop} [Decidable c] (h1 : c → A) (h2 : ¬ c → B) : if decide c = true then A else B := by
  by_cases h : c
  · exact iteDT h (h1 h)
  · exact iteDF h (h2 h)
/-- o.f = .., among several targets -/
def gFld (K : PySem.W.Frag) (to : TE) (f : Str) : TG := fun v σ H Q => to σ H fun x H1 => ∃ a C dx fs, x = .ref a ∧ H1 a = some (.ins C dx fs) ∧ Cls K C ∧ NoAttr K C f ∧ fs.length < 1000 ∧ Q σ (upd H1 a (.ins C dx (putF f v fs)))
theorem pg_fld {X : Cx} {o : Expr} {to : TE} {f : Str} {pos : Pos} (ho : PE X o to) : PG X (.Attribute o f pos) (gFld X.K to f) := by
  refine ⟨fun pins s σ H v u Q I r h => ?_⟩
  rw [arm_assign_Attribute]
  refine wpAny_bind (wpAny_holding (thn (ho.run pins s σ H _ I h) fun ov s1 ⟨x, H1, I1, r1, a, C, dx, fs, ex, ea, c, n, l, q⟩ => ?_))
  subst ex
  obtain rfl : ov = Value.ref a := r1
  refine wpAny_bind (wpAny_standAt (wpAny_bind (wpAny_holding (setattr_ok I1 ea c n l r fun s2 I2 => ?_))))
  exact wpAny_release ⟨σ, _, I2, q⟩
end KT

namespace KT
open PySem L2
def top (i : Nat) : Stmt := PySem.Challenge.pw_knobturn_k02_rows_refused.main.body.getD i (.Pass ⟨0, 0, 0, 0⟩)
/-! ### rows: what a knob can go -/
abbrev Mv := Int × Bool
/-- moments since the latest turn (at most gap), whether it ever turned; one moment on -/
def stp (gap : Int) (s : Int × Bool) (m : Mv) : Int × Bool := (min gap ((if m.1 = 0 then s.1 else 0) + 1), s.2 || decide (m.1 ≠ 0))
def rst (gap : Int) (row : List Mv) : Int × Bool := row.foldl (stp gap) (gap, false)
structure OkM (gap bounce : Int) (s : Int × Bool) (m : Mv) : Prop where
  turn : m.1 = -1 ∨ m.1 = 0 ∨ m.1 = 1
  soon : m.1 ≠ 0 → gap ≤ s.1
  old : m.2 = true → (s.2 = true ∨ m.1 ≠ 0) ∧ (if m.1 = 0 then s.1 else 0) < bounce
structure Good (gap bounce : Int) (row : List Mv) : Prop where
  len : row.length ≤ 200
  ok : ∀ (i : Nat) (m : Mv), row[i]? = some m → OkM gap bounce (rst gap (row.take i)) m
theorem take_snoc {α : Type} {l : List α} {i : Nat} {x : α} (h : l[i]? = some x) : l.take (i + 1) = l.take i ++ [x] := by
  rw [List.take_add_one, h]
  rfl
theorem rst_snoc {gap : Int} {row : List Mv} {i : Nat} {m : Mv} (h : row[i]? = some m) : rst gap (row.take (i + 1)) = stp gap (rst gap (row.take i)) m := by
  unfold rst
  rw [take_snoc h, List.foldl_append]
  rfl
theorem rst_app {gap : Int} {row : List Mv} {m : Mv} : rst gap (row ++ [m]) = stp gap (rst gap row) m := by
  unfold rst
  rw [List.foldl_append]
  rfl
theorem good_snoc {gap bounce : Int} {row : List Mv} {m : Mv} (h : Good gap bounce row) (hl : row.length < 200) (hm : OkM gap bounce (rst gap row) m) : Good gap bounce (row ++ [m]) := by
  refine ⟨by rw [List.length_append, List.length_singleton]; omega, fun i x hx => ?_⟩
  by_cases hi : i < row.length
  · rw [List.getElem?_append_left hi] at hx
    rw [List.take_append_of_le_length (by omega)]
    exact h.ok i x hx
  · have hi2 : i = row.length := by
      have := (List.getElem?_eq_some_iff.mp hx).1
      rw [List.length_append, List.length_singleton] at this
      omega
    subst hi2
    simp at hx
    subst hx
    rw [List.take_append_of_le_length (Nat.le_refl _), List.take_length]
    exact hm
theorem good_nil {gap bounce : Int} : Good gap bounce [] := ⟨by simp, fun i m h => by simp at h⟩
def mvD (m : Mv) : PyData := .tuple [.int m.1, .bool m.2]
def rowD (row : List Mv) : PyData := .list (row.map mvD)
def knD (g b : Int) : PyData := .tuple [.int g, .int b]
/-- (where the knob is, which the latest turn was) -/
def pst (s : Int × Int) (m : Mv) : Int × Int := (s.1 + m.1, if m.1 = 0 then s.2 else m.1)
def pas (row : List Mv) : Int × Int := row.foldl pst (0, 0)
/-- what is told of a moment: where the knob is, where it is seen to be -/
def seenOf (s : Int × Int) (old : Bool) : Int × Int := (s.1, if old then s.1 - s.2 else s.1)
def plcs (row : List Mv) : List (Int × Int) := (List.range row.length).map fun i => match row[i]? with
  | some m => seenOf (pas (row.take (i + 1))) m.2
  | none => (0, 0)
theorem pas_snoc {row : List Mv} {i : Nat} {m : Mv} (h : row[i]? = some m) : pas (row.take (i + 1)) = pst (pas (row.take i)) m := by
  unfold pas
  rw [take_snoc h, List.foldl_append]
  rfl
theorem plcs_take {row : List Mv} {i : Nat} (hi : i ≤ row.length) : plcs (row.take i) = (plcs row).take i := by
  unfold plcs
  rw [List.length_take, Nat.min_eq_left hi, ← List.map_take, List.take_range, Nat.min_eq_left hi]
  refine List.map_congr_left fun j hj => ?_
  have hj : j < i := List.mem_range.mp hj
  rw [List.getElem?_take, if_pos hj, List.take_take, Nat.min_eq_left hj]
theorem plcs_snoc {row : List Mv} {i : Nat} {m : Mv} (h : row[i]? = some m) : plcs (row.take (i + 1)) = plcs (row.take i) ++ [seenOf (pst (pas (row.take i)) m) m.2] := by
  have hi := (List.getElem?_eq_some_iff.mp h).1
  rw [plcs_take hi, plcs_take (Nat.le_of_lt hi), List.take_add_one]
  have e : (plcs row)[i]? = some (seenOf (pst (pas (row.take i)) m) m.2) := by
    unfold plcs
    rw [List.getElem?_map, List.getElem?_range hi, Option.map_some, h]
    show some (seenOf (pas (row.take (i + 1))) m.2) = _
    rw [pas_snoc h]
  rw [e]
  rfl
theorem plcs_length (row : List Mv) : (plcs row).length = row.length := by unfold plcs; simp
def ppD (p : Int × Int) : PyData := .tuple [.int p.1, .int p.2]
/-- what both wires show in a place -/
def pr (z : Int) : Int × Int := if z % 4 = 0 then (0, 0) else if z % 4 = 1 then (0, 1) else if z % 4 = 2 then (1, 1) else (1, 0)
theorem mod4 (z : Int) : z % 4 = 0 ∨ z % 4 = 1 ∨ z % 4 = 2 ∨ z % 4 = 3 := by omega
/-- lists and tuples at most n deep, of bounded length -/
def Nest : Nat → PyData → Prop
  | _, .none => True
  | _, .bool _ => True
  | _, .int _ => True
  | _, .str x => PyData.strOk x = true
  | n + 1, .list ds => ds.length ≤ 1000000 ∧ ∀ d ∈ ds, Nest n d
  | n + 1, .tuple ds => ds.length ≤ 1000000 ∧ ∀ d ∈ ds, Nest n d
  | _, _ => False
/-! ### the keys of a dict of the module; a text's signs with their places -/
section
open PySem PySem.Spec PyProof.Rows L2
def ItW (zs : List Str) : It := ⟨fun i _ => i < zs.length, fun i H v H' => H' = H ∧ ∃ z, zs[i]? = some z ∧ v = .str z, fun i _ => zs.length ≤ i⟩
/-- the dict's keys are these texts -/
def KKeys (es : Array DictEntry) (zs : List Str) : Prop := es.size = zs.length ∧ ∀ (i : Nat) (z : Str), zs[i]? = some z → ∃ en t, es[i]? = some en ∧ en.key = .str z t
theorem turn_kd {P : Program} {w : World} {K : PySem.W.Frag} {tg : Expr} {d it : Addr} {es : Array DictEntry} {n : Nat} {zs : List Str} (hl : K.lookup d = some ⟨.type "dict", none, .dict es n, #[]⟩) (hk : KKeys es zs) :
    Turn P w K tg (ItW zs) [it] it (fun i h => h.IsKeyIter it d i zs.length n) := by
  refine ⟨by simp, fun i h st b hb => ?_, fun i h h' st k => st.at fun oi e => k it (by simp) oi e, ?_, ?_, fun A i s Q E st h => wpAny_pyIter_keyiter st h⟩
  · have e : b = it := by simpa using hb
    obtain ⟨oi, e1, _, dd⟩ := st
    exact ⟨oi, by rw [e]; exact e1, fun v z => by rw [dd] at z; cases z⟩
  · intro X hP hw hK hc i pins s σ H E I hf st hi
    subst hP hw hK
    have hi : i < zs.length := hi
    obtain ⟨f0, f1, _, f3, f4, f5⟩ := hf it (by simp)
    have hgd := I.kIn _ _ hl
    obtain ⟨en, t, h1, h2⟩ := hk.2 i zs[i] (List.getElem?_eq_getElem hi)
    refine next_key_item st hgd rfl hk.1 h1 fun h' st' sb => ?_
    have J := I.turned (t' := s.toks) (h' := h') (fun b ob hb e => (sb.2 b hb).trans e) f0 f1 f3 f4 f5
    obtain ⟨oi, e, c, dd⟩ := id st'
    exact ⟨en.key, rfl, go_of (s := { s with heap := h' }) e c dd (by decide) ⟨.str zs[i], H, J, ⟨t, h2⟩, ⟨rfl, zs[i], List.getElem?_eq_getElem hi, rfl⟩, st', fun b hb => (hf b hb).1⟩⟩
  · intro X hP hw hK hc i pins s σ H E I hf st hi
    subst hP hw hK
    have hi : zs.length ≤ i := hi
    obtain ⟨f0, f1, _, f3, f4, f5⟩ := hf it (by simp)
    exact next_key_end (I.ok.hd hc) st (I.kIn _ _ hl) rfl hk.1 hi fun h' eb => ⟨rfl, I.turned (t' := s.toks) (fun b ob hb e => eb b ob hb e) f0 f1 f3 f4 f5⟩
def iKd (d : Addr) (zs : List Str) (td : TE) : TI := fun σ H R => td σ H fun x H1 => x = .ref d ∧ R (ItW zs) H1
theorem pi_kd {X : Cx} {tg e : Expr} {td : TE} {d : Addr} {es : Array DictEntry} {n : Nat} {zs : List Str} (D : KDict X.K X.w d es n) (hk : KKeys es zs) (he : PE X e td) : PI X tg e (iKd d zs td) := by
  refine ⟨fun pins s σ H R I h => thn (he.run pins s σ H _ I h) fun u s1 ⟨x, H1, I1, rx, ex, q⟩ => ?_⟩
  subst ex
  obtain rfl : u = Value.ref d := rx
  refine iter_keys D.low (I1.kIn _ _ D.at_) ⟨rfl, rfl, rfl⟩ rfl (pi_one (tk := s1.toks) I1 _ (turn_kd D.at_ hk) ⟨_, Heap.get?_push_size _ rfl, rfl, ?_⟩ q)
  rw [hk.1] <;> rfl
theorem walk_kd {zs : List Str} : Walk (ItW zs) zs.length (fun _ => True) (fun i H v H' => H' = H ∧ ∃ z, zs[i]? = some z ∧ v = .str z) :=
  ⟨fun _ _ hi _ => hi, fun _ _ => Nat.le_refl _, fun _ _ _ _ _ _ y => y⟩
/-- for i, c in enumerate(text) -/
def ItU (x : Str) : It := ⟨fun i _ => i < x.cps.size, fun i H v H' => ∃ T c, v = .ref T ∧ H T = none ∧ x.cps[i]? = some c ∧ H' = upd H T (.tup [.int (i : Nat), .str ⟨#[c]⟩]), fun i _ => i = x.cps.size⟩
theorem turn_enumU {P : Program} {w : World} {K : PySem.W.Frag} {elts : List Expr} {kk : Nat} {tpos : Pos} (x : Str) (t : Tok) (e it : Addr) :
    Turn P w K (.Tuple elts kk tpos) (ItU x) [e, it] e (fun i h => (∃ old, IsEnum h e it ((i : Nat) : Int) old) ∧ h.IsStrIter it (strIterType x) x t i ∧ e ≠ it) := by
  refine ⟨by simp, fun i h st b hb => ?_, fun i h h' st k => ?_, ?_, ?_, fun A i s Q E st h => let ⟨⟨_, he⟩, _⟩ := st; wpAny_pyIter_enum he h⟩
  · obtain ⟨⟨old, he⟩, ⟨o, ho, hc, hd⟩, _⟩ := st
    rcases (show b = e ∨ b = it by simpa using hb) with z | z
    · subst z; exact ⟨_, he, fun v q => nomatch q⟩
    · exact ⟨o, by rw [z]; exact ho, fun v q => by rw [hd] at q; cases q⟩
  · obtain ⟨⟨old, he⟩, ⟨o, ho, r⟩, hne⟩ := st
    exact ⟨⟨old, k e (by simp) _ he⟩, ⟨o, k it (by simp) o ho, r⟩, hne⟩
  · intro X hP hw hK hc i pins s σ H E I hf st hi
    subst hP hw hK
    have hi : i < x.cps.size := hi
    obtain ⟨⟨old, he⟩, hit, hne⟩ := st
    have hel : e < s.heap.objs.size := Heap.lt_size he
    have hil : it < s.heap.objs.size := by obtain ⟨_, q, _⟩ := id hit; exact Heap.lt_size q
    refine wpAny_pyNext_enum_itemD (Draws.text (A := X.A.in1) (I.ok.hd hc) it x t) he hit hi hne (by simpa using hne) fun u h' tk hu ho hit' hT hsz hk => ?_
    obtain ⟨c, tu, hc1, rfl⟩ := hu
    refine ⟨_, rfl, wpAny_letOwnedTupleGo_enum (s := { s with heap := h', toks := tk + 1 }) ho fun h'' he' sb => ?_⟩
    have hT2 := (sb.2 _ (Nat.ne_of_gt hel)).trans hT
    have new : ObjOk X.prog X.w (upd H s.heap.objs.size (.tup [.int (i : Nat), .str ⟨#[c]⟩])) h'' s.heap.objs.size (.tup [.int (i : Nat), .str ⟨#[c]⟩]) :=
      ⟨by show 2 ≤ sizeLine; decide, [.int i tk, .str ⟨#[c]⟩ tu], .cons ⟨_, rfl⟩ (.cons ⟨_, rfl⟩ .nil), ⟨_, hT2, rfl, _, rfl⟩⟩
    have J : Inv X pins σ (upd H s.heap.objs.size (.tup [.int (i : Nat), .str ⟨#[c]⟩])) { s with heap := h'', toks := tk + 1 } :=
      I.turnedNew (ch := [e, it]) (fun b ob hb q => (sb.2 b (fun z => hb (by simp [z]))).trans (hk b ob (fun z => hb (by simp [z])) (fun z => hb (by simp [z])) q)) hf (Nat.le_refl _) new
    refine ⟨.ref s.heap.objs.size, _, J, rfl, ⟨_, c, rfl, I.hok.fresh (Nat.le_refl _), hc1, rfl⟩, ⟨⟨.str ⟨#[c]⟩ tu, ?_⟩, ?_, hne⟩, fun b hb => ?_⟩
    · rw [show ((i + 1 : Nat) : Int) = (i : Int) + 1 by omega]; exact he'
    · obtain ⟨o, ho2, r⟩ := hit'
      exact ⟨o, (sb.2 it (Ne.symm hne)).trans ho2, r⟩
    · have hb' : b < s.heap.objs.size := by
        rcases (show b = e ∨ b = it by simpa using hb) with z | z <;> rw [z] <;> assumption
      rw [upd_ne (Nat.ne_of_lt hb')]
      exact (hf b hb).1
  · intro X hP hw hK hc i pins s σ H E I hf st hi
    subst hP hw hK
    have hi : i = x.cps.size := hi
    subst hi
    obtain ⟨⟨old, he⟩, hit, hne⟩ := st
    obtain ⟨f0, f1, _, f3, f4, f5⟩ := hf it (by simp)
    exact wpAny_pyNext_enum_endD (Draws.text (A := X.A.in1) (I.ok.hd hc) it x t) he hit fun h' eb => ⟨rfl, I.turned (t' := s.toks) (fun b o hb q => eb b o hb q) f0 f1 f3 f4 f5⟩
def iEnumU (ta : TA) : TI := fun σ H R => ta σ H fun vs H1 => ∃ x, vs = [.str x] ∧ R (ItU x) H1
theorem pi_enumU {X : Cx} {e : Expr} {ta : TA} {p pos tpos : Pos} {elts : List Expr} {kk : Nat} (hg : Gl X "enumerate") (hm : X.mg "enumerate" = none) (ha : PA X [e] ta) (hs : starEach [e] X.env = [(false, eval e X.env)] := by rfl) :
    PI X (.Tuple elts kk tpos) (.Call (.Name "enumerate" p) [e] [] pos) (iEnumU ta) := by
  refine ⟨fun pins s σ H R I h => Call_ (ld_blt I hg hm boot_enumerate (PyProof.Rows.callWith_type1 (thn (ha.run pos pins s σ H _ I h) fun us s1 ⟨vs, H1, I1, r1, q1⟩ => ?_) hs rfl))⟩
  obtain ⟨x, rfl, q⟩ := q1
  cases r1 with
  | cons r rr =>
    cases rr
    obtain ⟨t, rfl⟩ := r
    refine call_enumerate_str fun h' he hit hsz hk => wpAny_pyIter_enum he ?_
    refine ⟨s1.heap.objs.size + 1, [s1.heap.objs.size + 1, s1.heap.objs.size], _, _, H1, rfl, I1.kept (t' := s1.toks) hk, turn_enumU x t (s1.heap.objs.size + 1) s1.heap.objs.size, ⟨⟨.none, he⟩, hit, Nat.succ_ne_self _⟩, fun b hb => ?_, q⟩
    have hle : s1.heap.objs.size ≤ b := by
      rcases (show b = s1.heap.objs.size + 1 ∨ b = s1.heap.objs.size by simpa using hb) with z | z <;> rw [z]
      · exact Nat.le_add_right _ _
      · exact Nat.le_refl _
    exact I1.fpOk hle (I1.hok.fresh hle)
theorem walk_enumU {x : Str} : Walk (ItU x) x.cps.size (fun _ => True) (fun i H v H' => ∃ T c, v = .ref T ∧ H T = none ∧ x.cps[i]? = some c ∧ H' = upd H T (.tup [.int (i : Nat), .str ⟨#[c]⟩])) :=
  ⟨fun _ _ hi _ => hi, fun _ _ => rfl, fun _ _ _ _ _ _ y => y⟩
end
/-! ### the signs of moments -/
def sgs : List Str := [".", "+", "-", ",", "p", "m"]
def sgM : List Mv := [(0, false), (1, false), (-1, false), (0, true), (1, true), (-1, true)]
structure SignsK (K : PySem.W.Frag) (w : World) (a : Addr) : Prop where
  d : ∃ es n, KDict K w a es n ∧ KKeys es sgs
  val : ∀ (i : Nat) (z : Str) (m : Mv), sgs[i]? = some z → sgM[i]? = some m → ∃ q, PySem.W.nsIn K a z = some (some (.ref q)) ∧ ∀ H, SqT K H q [.int m.1, .bl m.2]
  no : ∀ z, z ∉ sgs → PySem.W.nsIn K a z = some none
theorem signs_of {K : PySem.W.Frag} {w : World} {a q0 q1 q2 q3 q4 q5 : Addr} {t0 t1 t2 t3 t4 t5 : Tok} {n : Nat} (low : (a == sysModules) = false)
    (hl : K.lookup a = some ⟨.type "dict", none, .dict #[⟨PyData.keyHash w.params ".", .str "." t0, .ref q0⟩, ⟨PyData.keyHash w.params "+", .str "+" t1, .ref q1⟩, ⟨PyData.keyHash w.params "-", .str "-" t2, .ref q2⟩, ⟨PyData.keyHash w.params ",", .str "," t3, .ref q3⟩, ⟨PyData.keyHash w.params "p", .str "p" t4, .ref q4⟩, ⟨PyData.keyHash w.params "m", .str "m" t5, .ref q5⟩] n, #[]⟩)
    (h0 : ∀ H, SqT K H q0 [.int 0, .bl false]) (h1 : ∀ H, SqT K H q1 [.int 1, .bl false]) (h2 : ∀ H, SqT K H q2 [.int (-1), .bl false]) (h3 : ∀ H, SqT K H q3 [.int 0, .bl true]) (h4 : ∀ H, SqT K H q4 [.int 1, .bl true]) (h5 : ∀ H, SqT K H q5 [.int (-1), .bl true]) : SignsK K w a := by
  refine ⟨⟨_, _, ⟨hl, ⟨⟨_, _, rfl, rfl⟩, ⟨_, _, rfl, rfl⟩, ⟨_, _, rfl, rfl⟩, ⟨_, _, rfl, rfl⟩, ⟨_, _, rfl, rfl⟩, ⟨_, _, rfl, rfl⟩, trivial⟩, low⟩, rfl, fun i z hz => ?_⟩, fun i z m hz hm => ?_, fun z hz => ?_⟩
  · have hi : i < 6 := (List.getElem?_eq_some_iff.mp hz).1
    have : i = 0 ∨ i = 1 ∨ i = 2 ∨ i = 3 ∨ i = 4 ∨ i = 5 := by omega
    rcases this with rfl | rfl | rfl | rfl | rfl | rfl <;> cases hz <;> exact ⟨_, _, rfl, rfl⟩
  · have hi : i < 6 := (List.getElem?_eq_some_iff.mp hz).1
    have e : ∀ x r, PySem.W.nsIn K a x = r ↔ (match ([⟨PyData.keyHash w.params ".", .str "." t0, .ref q0⟩, ⟨PyData.keyHash w.params "+", .str "+" t1, .ref q1⟩, ⟨PyData.keyHash w.params "-", .str "-" t2, .ref q2⟩, ⟨PyData.keyHash w.params ",", .str "," t3, .ref q3⟩, ⟨PyData.keyHash w.params "p", .str "p" t4, .ref q4⟩, ⟨PyData.keyHash w.params "m", .str "m" t5, .ref q5⟩] : List DictEntry).find? (·.key.isStr x) with
      | some e => some (some e.val)
      | none => some none) = r := by
      intro x r
      unfold PySem.W.nsIn
      rw [hl]
      rfl
    have : i = 0 ∨ i = 1 ∨ i = 2 ∨ i = 3 ∨ i = 4 ∨ i = 5 := by omega
    rcases this with rfl | rfl | rfl | rfl | rfl | rfl <;> cases hz <;> cases hm
    · exact ⟨q0, (e _ _).mpr rfl, h0⟩
    · exact ⟨q1, (e _ _).mpr rfl, h1⟩
    · exact ⟨q2, (e _ _).mpr rfl, h2⟩
    · exact ⟨q3, (e _ _).mpr rfl, h3⟩
    · exact ⟨q4, (e _ _).mpr rfl, h4⟩
    · exact ⟨q5, (e _ _).mpr rfl, h5⟩
  · unfold sgs at hz
    simp only [List.mem_cons, List.not_mem_nil, or_false, not_or] at hz
    have ne : ∀ x : Str, ¬ z = x → (x == z) = false := fun x h => by simpa using fun e : x = z => h e.symm
    unfold PySem.W.nsIn
    rw [hl]
    dsimp only
    rw [List.find?_cons, List.find?_cons, List.find?_cons, List.find?_cons, List.find?_cons, List.find?_cons, List.find?_nil]
    simp only [Value.isStr, ne _ hz.1, ne _ hz.2.1, ne _ hz.2.2.1, ne _ hz.2.2.2.1, ne _ hz.2.2.2.2.1, ne _ hz.2.2.2.2.2]
    rfl
theorem SignsK.get {K : PySem.W.Frag} {w : World} {a : Addr} (k : SignsK K w a) {i : Nat} {z : Str} {m : Mv} (hz : sgs[i]? = some z) (hm : sgM[i]? = some m) : ∃ q, KDct K w a z (.ref q) ∧ ∀ H, SqT K H q [.int m.1, .bl m.2] := by
  obtain ⟨es, n, D, _⟩ := k.d
  obtain ⟨q, h1, h2⟩ := k.val i z m hz hm
  exact ⟨q, ⟨es, n, .ref q, D.at_, D.lit, h1, rfl⟩, h2⟩
/-- z not in SIGNS -/
def rNotInS (K : PySem.W.Frag) (a : Addr) : R2 := fun x y H Q => ∃ (z : Str) (r : Option Value), x = .str z ∧ y = .ref a ∧ PySem.W.nsIn K a z = some r ∧ Q (.bl (!r.isSome)) H
theorem op_notInS {X : Cx} {a : Addr} {es : Array DictEntry} {n : Nat} (D : KDict X.K X.w a es n) : OpR X (compareOp .NotIn) (rNotInS X.K a) := op_notIn_kd D
/-! ### texts of rows -/
def sgC (m : Mv) : Nat := if m.2 = true then (if m.1 = 0 then 44 else if m.1 = 1 then 112 else 109) else (if m.1 = 0 then 46 else if m.1 = 1 then 43 else 45)
def txt (row : List Mv) : Str := ⟨(row.map sgC).toArray⟩
theorem txt_snoc (row : List Mv) (m : Mv) : txt (row ++ [m]) = txt row ++ ⟨#[sgC m]⟩ := by
  show (⟨((row ++ [m]).map sgC).toArray⟩ : Str) = ⟨(row.map sgC).toArray ++ #[sgC m]⟩
  rw [List.map_append]
  simp
theorem txt_len (row : List Mv) : (txt row).length = row.length := by
  show ((row.map sgC).toArray).size = _
  simp
/-- the sign of a moment -/
theorem sg_at {m : Mv} (h : m.1 = -1 ∨ m.1 = 0 ∨ m.1 = 1) : ∃ i : Nat, sgs[i]? = some (⟨#[sgC m]⟩ : Str) ∧ sgM[i]? = some m := by
  obtain ⟨t, o⟩ := m
  dsimp only at h
  rcases h with rfl | rfl | rfl <;> cases o
  · exact ⟨2, by decide +kernel, rfl⟩
  · exact ⟨5, by decide +kernel, rfl⟩
  · exact ⟨0, by decide +kernel, rfl⟩
  · exact ⟨3, by decide +kernel, rfl⟩
  · exact ⟨1, by decide +kernel, rfl⟩
  · exact ⟨4, by decide +kernel, rfl⟩
theorem eqv_mv (x m : Mv) : PyData.eqv (mvD x) (mvD m) = decide (x = m) := by
  obtain ⟨a, b⟩ := x
  obtain ⟨c, d⟩ := m
  by_cases h1 : a = c
  · subst h1
    cases b <;> cases d <;> simp [mvD, PyData.eqv, PyData.eqvAll]
  · cases b <;> cases d <;> simp [mvD, PyData.eqv, PyData.eqvAll, h1]
/-! ### the dice -/
/-- the numbers of the dice: a number below 2 ^ 31, what is left of a great number, great numbers -/
def Dice (ns : List Int) : Prop := ∃ (a b : Int) (r : List Int), ns = a :: b :: r ∧ 0 ≤ a ∧ a < 2147483647 ∧ 0 ≤ b ∧ (∀ x ∈ r, 0 < x) ∧ r.length ≤ 63
def spDice (K : PySem.W.Frag) : Sp := fun vs H Q _ => ∃ (a : Addr) (ns : List Int), vs = [.ref a, .int 0] ∧ SqL K H a (ns.map V.int) ∧ ns.length ≤ 63 ∧
  ∀ (p : Addr) (ms : List Int) (H' : Hp), H p = none → Same H H' → H' p = some (.lst (ms.map V.int)) → Dice ms → Q (.ref p) H'
/-- a draw below m: any -/
def spOff : Sp := fun vs H Q _ => ∃ (d : Addr) (ns : List Int) (m : Int), vs = [.ref d, .int m] ∧ H d = some (.lst (ns.map V.int)) ∧ Dice ns ∧ 0 < m ∧ m < 1073741824 ∧
  ∀ (v : Int) (ms : List Int), 0 ≤ v → v < m → Dice ms → Q (.int v) (upd H d (.lst (ms.map V.int)))
section
variable {P : Program} {w : World} {K : PySem.W.Frag} {mg : Str → Option Value} {base : Heap}
theorem sc_dice : FnScope ["_law_script", "_law_k", "_law_found", "_law_cell"] ["_law_script", "_law_k"] (defScope (top 25)) := ⟨rfl, rfl, rfl, by decide +kernel, rfl, by decide +kernel, by decide +kernel⟩
theorem ok_dice {f : Addr} {fd : FuncData} (F : Fun K "_law_dice" "_law_dice" (top 25) f fd) (n_abs : mg "abs" = none) : FnOk P w K mg base CX0 1 f fd ["_law_script", "_law_k"] (spDice K) := by
  have sc := sc_dice
  refine F.ok sc (fun vs H Q E h => ?_) (fun cdv A outer s H vs Q E hr h => ?_)
  · obtain ⟨a, ns, rfl, _⟩ := h
    rfl
  · obtain ⟨a, ns, rfl, hS, hlen, k⟩ := h
    refine ⟨_, (pss_cons (ps_set (i := 2) sc.nd rfl (Or.inl rfl) (pv 1))
(pss_cons (ps_for PassesOwn.never rfl (pi_list (pv 0)) (pg_name (i := 3) sc.nd rfl (Or.inl rfl))
(pss_one (ps_set (i := 2) sc.nd rfl (Or.inl rfl) (pe_op op_mod (pe_op op_add (pe_op op_mul (pv 2) pe_int) (pe_callB call_abs (by rfl) n_abs (by decide +kernel) (pa_cons (pv 3) pa_nil))) pe_int))))
(pss_one (ps_ret (pe_op op_cat (pe_lst (pa_cons (pv 2) (pa_cons pe_int pa_nil))) (pe_lc (own := [("_law_cell", 3)]) (g := gName 3) rfl sc.nd (pi_list (pv 0)) (blkOk_by (own := [("_law_cell", 3)]) (N := ["_law_script", "_law_k", "_law_found", "_law_cell"]) (sc := defScope (top 25)) (by decide +kernel)) (fun _ _ _ _ _ => (pg_name (i := 3) sc.nd rfl (Or.inl rfl))) (fun _ _ _ _ _ => (pts_one (pt_cmpR op_ge (pv 3) (pe_op op_pow pe_int pe_int) (nomark _)))) (fun _ _ _ _ _ => (pv 3)))))))), ?_⟩
    refine ⟨_, rfl, _, rfl, a, rfl, ⟨_, hS⟩, for_list (K := K) (a := a) (xs := ns.map V.int) (fun i σ H' => ∃ (f : Int) (v : Option V), σ = [some (.ref a), some (.int 0), some (.int f), v] ∧ 0 ≤ f ∧ f < 2147483647 ∧ H' = H)
      ⟨0, none, rfl, by omega, by omega, rfl⟩ (fun i σ H' _ ⟨_, _, _, _, _, e⟩ => by rw [e]; exact hS) ?_ ?_⟩
    · rintro i y σ H' hi ⟨f, v, rfl, f0, f1, rfl⟩
      obtain ⟨z, _, rfl⟩ := int_at hi
      refine ⟨_, rfl, _, _, rfl, rfl, .inl ⟨by omega, by omega⟩, _, rfl, _, rfl, _, _, rfl, rfl, _, _, rfl, rfl, (by show (0 : Int) < 2147483647; decide), ?_⟩
      exact ⟨_, _, rfl, Int.emod_nonneg _ (by decide), Int.emod_lt_of_pos _ (by decide), rfl⟩
    · rintro σ H' ⟨f, v, rfl, f0, f1, rfl⟩
      refine ⟨_, rfl, (by show 2 ≤ sizeLine; decide), fun l hl => ?_⟩
      have s1 : Same H' (upd H' l (.lst [.int f, .int 0])) := same_new hl
      refine ⟨_, rfl, a, rfl, ⟨_, s1.seq hS⟩, fun D hD => lc_list (K := K) (a := a) (xs := ns.map V.int) (fun i H2 => ∃ ms : List Int, H2 = upd (upd H' l (.lst [.int f, .int 0])) D (.lst (ms.map V.int)) ∧ (∀ x ∈ ms, 0 < x) ∧ ms.length ≤ i)
        ⟨[], rfl, by simp, by simp⟩ (fun i H2 _ ⟨ms, e, _⟩ => by rw [e]; exact (s1.trans (same_new hD)).seq hS) ?_ ?_⟩
      · rintro i y H2 hi ⟨ms, rfl, hp, hm⟩
        obtain ⟨z, hz, rfl⟩ := int_at hi
        have hil := (List.getElem?_eq_some_iff.mp hz).1
        refine ⟨rfl, _, rfl, _, _, rfl, rfl, ⟨by decide, by decide, by decide⟩, _, _, rfl, rfl, _, rfl, ?_⟩
        by_cases c : (10 : Int) ^ (18 : Int).toNat ≤ z
        · rw [decide_eq_true c]
          refine iteT ⟨_, rfl, ms.map V.int, upd_same, ?_, ms ++ [z], ?_, ?_, ?_⟩
          · rw [List.length_map]; exact small1000 (by omega)
          · rw [upd_upd, List.map_append]; rfl
          · intro x hx
            rcases List.mem_append.mp hx with hx | hx
            · exact hp x hx
            · rw [List.mem_singleton.mp hx]
              have : (10 : Int) ^ (18 : Int).toNat = 1000000000000000000 := by decide
              omega
          · rw [List.length_append, List.length_singleton]; omega
        · rw [decide_eq_false c]
          exact iteF ⟨ms, rfl, hp, by omega⟩
      · rintro H2 ⟨ms, rfl, hms, hm⟩
        rw [List.length_map] at hm
        have nl : l ≠ D := fun z => by rw [z, upd_same] at hD; cases hD
        refine ⟨l, D, [.int f, .int 0], ms.map V.int, rfl, rfl, (by rw [upd_ne nl, upd_same]), upd_same, ?_, fun p hp => ?_⟩
        · rw [List.length_map]
          exact Nat.le_of_lt (small1000 (by show 2 + ms.length ≤ 1000; omega))
        · have s2 : Same H' (upd (upd H' l (.lst [.int f, .int 0])) D (.lst (ms.map V.int))) := s1.trans (same_new hD)
          exact k p (f :: 0 :: ms) _ (s2.free hp) (s2.trans (same_new hp)) upd_same ⟨f, 0, ms, rfl, f0, f1, by omega, hms, by omega⟩
theorem sc_off : FnScope ["_law_d", "_law_most", "_law_found"] ["_law_d", "_law_most"] (defScope (top 26)) := ⟨rfl, rfl, rfl, by decide +kernel, rfl, by decide +kernel, by decide +kernel⟩
theorem ok_off {f : Addr} {fd : FuncData} (F : Fun K "_law_off" "_law_off" (top 26) f fd) (n_len : mg "len" = none) : FnOk P w K mg base CX0 1 f fd ["_law_d", "_law_most"] spOff := by
  have sc := sc_off
  refine F.ok sc (fun vs H Q E h => ?_) (fun cdv A outer s H vs Q E hr h => ?_)
  · obtain ⟨d, ns, m, rfl, _⟩ := h
    rfl
  · obtain ⟨d, ns, m, rfl, hd, hD, m0, m1, k⟩ := h
    refine ⟨_, (C8.pss_cut (ps_if (PW.pt (pw_and (pt_cmpR op_eq (pe_ix (r := rIxL K) ix_list (pv 0) pe_int (fun _ _ => rfl)) pe_int (nomark _)) (pw_and1 (pt_cmpR op_gt (pe_callB (r := rLenQ K) call_lenQ (by rfl) n_len PySem.boot_len (pa_cons (pv 0) pa_nil)) pe_int (nomark _)))))
(pss_one (ps_asg (pe_bm PySem.F.plainAttrs_list PySem.F.slot_list_pop PySem.F.type_list_pop mt_popAt (pv 0) (pa_cons pe_int pa_nil)) (pg_sub (pv 0) pe_int set_list)))
pss_nil)
(pss_cons (ps_if (pt_cmpR op_gt (pe_ix (r := rIxL K) ix_list (pv 0) pe_int (fun _ _ => rfl)) pe_int (nomark _))
(pss_cons (ps_set (i := 2) sc.nd rfl (Or.inl rfl) (pe_op op_mod (pe_ix (r := rIxL K) ix_list (pv 0) pe_int (fun _ _ => rfl)) (pv 1)))
(pss_cons (ps_asg (pe_op op_fdiv (pe_ix (r := rIxL K) ix_list (pv 0) pe_int (fun _ _ => rfl)) (pv 1)) (pg_sub (pv 0) pe_int set_list))
(pss_one (ps_ret (pv 2)))))
pss_nil)
(pss_cons (ps_asg (pe_op op_mod (pe_op op_add (pe_op op_mul (pe_ix (r := rIxL K) ix_list (pv 0) pe_int (fun _ _ => rfl)) pe_int) pe_int) pe_int) (pg_sub (pv 0) pe_int set_list))
(pss_one (ps_ret (pe_op op_mod (pe_op op_fdiv (pe_ix (r := rIxL K) ix_list (pv 0) pe_int (fun _ _ => rfl)) pe_int) (pv 1))))))), ?_⟩
    refine ⟨fun σ H' => ∃ ms : List Int, σ = [some (.ref d), some (.int m), none] ∧ H' = upd H d (.lst (ms.map V.int)) ∧ Dice ms, ?_, ?_⟩
    · obtain ⟨a, b, r, rfl, a0, a1, b0, hr', rl⟩ := hD
      refine ⟨_, rfl, d, _, _, _, rfl, rfl, SqL.of hd, at_of (j := 1) rfl rfl, rfl, _, rfl, ?_⟩
      refine ite2 (fun c => ?_) (fun c => ?_)
      · refine ⟨_, rfl, d, _, rfl, .inl (SqL.of hd), _, _, rfl, rfl, _, rfl, ?_⟩
        refine ite2 (fun c2 => ?_) (fun c2 => ?_)
        · cases r with
          | nil => simp at c2
          | cons x r =>
            refine ⟨_, rfl, .inl ⟨rfl, _, SqL.of hd⟩, d, _, 2, 2, _, rfl, rfl, hd, by decide, by decide, ?_, rfl, ?_⟩
            · show seqIndex? 2 ((a :: b :: x :: r).map V.int).length = some 2
              rw [List.length_map]
              exact seqIndex_nat (by simp)
            · refine ⟨_, rfl, d, _, 1, 1, rfl, rfl, upd_same, ixN_nat (by simp), ?_⟩
              refine ⟨a :: x :: r, rfl, by rw [upd_upd]; rfl, a, x, r, rfl, a0, a1, Int.le_of_lt (hr' x (by simp)), fun y hy => hr' y (by simp [hy]), by simp at rl; omega⟩
        · exact ⟨_, rfl, (upd_id hd).symm, a, b, r, rfl, a0, a1, b0, hr', rl⟩
      · exact ⟨_, rfl, (upd_id hd).symm, a, b, r, rfl, a0, a1, b0, hr', rl⟩
    · rintro σ H' ⟨ms, rfl, rfl, hD2⟩
      obtain ⟨a, b, r, rfl, a0, a1, b0, hr', rl⟩ := hD2
      refine ⟨_, rfl, d, _, _, _, rfl, rfl, SqL.of upd_same, at_of (j := 1) rfl rfl, _, _, rfl, rfl, _, rfl, ?_⟩
      refine ite2 (fun c => ?_) (fun c => ?_)
      · refine ⟨_, rfl, d, _, _, _, rfl, rfl, SqL.of upd_same, at_of (j := 1) rfl rfl, _, rfl, _, _, rfl, rfl, m0, ?_⟩
        refine ⟨_, rfl, d, _, _, _, rfl, rfl, SqL.of upd_same, at_of (j := 1) rfl rfl, _, rfl, _, _, rfl, rfl, ⟨m0, m1⟩, _, rfl, d, _, 1, 1, rfl, rfl, upd_same, ixN_nat (by simp), ?_⟩
        refine ⟨_, rfl, ?_⟩
        rw [upd_upd]
        exact k (b % m) (a :: b / m :: r) (Int.emod_nonneg _ (by omega)) (Int.emod_lt_of_pos _ m0) ⟨a, b / m, r, rfl, a0, a1, Int.ediv_nonneg b0 (by omega), hr', rl⟩
      · refine ⟨_, rfl, d, _, _, _, rfl, rfl, SqL.of upd_same, at_of (j := 0) rfl rfl, _, _, rfl, rfl, .inl ⟨by omega, by omega⟩, _, _, rfl, rfl, _, _, rfl, rfl, (by show (0 : Int) < 2147483647; decide), _, rfl, d, _, 0, 0, rfl, rfl, upd_same, ixN_nat (by simp), ?_⟩
        rw [upd_upd]
        refine ⟨_, rfl, d, _, _, _, rfl, rfl, SqL.of upd_same, at_of (j := 0) rfl rfl, _, _, rfl, rfl, ⟨by decide, by decide⟩, _, rfl, _, _, rfl, rfl, m0, ?_⟩
        exact k _ (((a * 48271 + 11) % 2147483647) :: b :: r) (Int.emod_nonneg _ (by omega)) (Int.emod_lt_of_pos _ m0) ⟨_, b, r, rfl, Int.emod_nonneg _ (by decide), Int.emod_lt_of_pos _ (by decide), b0, hr', rl⟩
end
/-! ### a knob -/
def spKnob : Sp := fun vs H Q _ => ∃ (d : Addr) (ns : List Int), vs = [.ref d] ∧ H d = some (.lst (ns.map V.int)) ∧ Dice ns ∧
  ∀ (g b : Int) (ms : List Int) (p : Addr), 1 ≤ g → g ≤ 6 → 0 ≤ b → b ≤ g → Dice ms → H p = none → Q (.ref p) (upd (upd H d (.lst (ms.map V.int))) p (.tup [.int g, .int b]))
section
variable {P : Program} {w : World} {K : PySem.W.Frag} {mg : Str → Option Value} {base : Heap}
theorem sc_knob : FnScope ["_law_d", "_law_gap"] ["_law_d"] (defScope (top 29)) := ⟨rfl, rfl, rfl, by decide +kernel, rfl, by decide +kernel, by decide +kernel⟩
theorem ok_knob {f : Addr} {fd : FuncData} (F : Fun K "_law_knob" "_law_knob" (top 29) f fd) (c__law_off : Cal P w K mg base 1 "_law_off" ["_law_d", "_law_most"] spOff) : FnOk P w K mg base CX0 2 f fd ["_law_d"] spKnob := by
  have sc := sc_knob
  refine F.ok sc (fun vs H Q E h => ?_) (fun cdv A outer s H vs Q E hr h => ?_)
  · obtain ⟨d, ns, rfl, _⟩ := h
    rfl
  · obtain ⟨d, ns, rfl, hd, hD, k⟩ := h
    refine ⟨_, (pss_cons (ps_set (i := 1) sc.nd rfl (Or.inl rfl) (pe_op op_add pe_int (pe_cal c__law_off (hr.mono (by first | decide | omega)) (pa_cons (pv 0) (pa_cons pe_int pa_nil)))))
(pss_one (ps_ret (pe_tup (pa_cons (pv 1) (pa_cons (pe_cal c__law_off (hr.mono (by first | decide | omega)) (pa_cons (pv 0) (pa_cons (pe_op op_add (pv 1) pe_int) pa_nil))) pa_nil)))))), ?_⟩
    refine ⟨_, rfl, d, ns, 6, rfl, hd, hD, by decide, by decide, fun v ms v0 v1 hD1 => ?_⟩
    refine ⟨_, _, rfl, rfl, ?_⟩
    refine ⟨_, rfl, _, rfl, _, rfl, _, _, rfl, rfl, d, ms, 1 + v + 1, rfl, upd_same, hD1, by omega, by omega, fun u ms2 u0 u1 hD2 => ?_⟩
    refine ⟨(by show 2 ≤ sizeLine; decide), fun p hp => ?_⟩
    rw [upd_upd] at hp ⊢
    exact k (1 + v) u ms2 p (by omega) (by omega) u0 (by omega) hD2 (by
      have n : p ≠ d := fun z => by rw [z, upd_same] at hp; cases hp
      rw [upd_ne n] at hp; exact hp)
end
/-! ### a reader -/
def spReader : Sp := fun vs H Q _ => ∃ (d : Addr) (ns : List Int), vs = [.ref d] ∧ H d = some (.lst (ns.map V.int)) ∧ Dice ns ∧
  ∀ (a s : Int) (ms : List Int) (p : Addr), 1 ≤ a → a ≤ 6 → 1 ≤ s → s ≤ 3 → Dice ms → H p = none → Q (.ref p) (upd (upd H d (.lst (ms.map V.int))) p (.tup [.int a, .int s]))
section
variable {P : Program} {w : World} {K : PySem.W.Frag} {mg : Str → Option Value} {base : Heap}
theorem sc_reader : FnScope ["_law_d"] ["_law_d"] (defScope (top 30)) := ⟨rfl, rfl, rfl, by decide +kernel, rfl, by decide +kernel, by decide +kernel⟩
theorem ok_reader {f : Addr} {fd : FuncData} (F : Fun K "_law_reader" "_law_reader" (top 30) f fd) (c__law_off : Cal P w K mg base 1 "_law_off" ["_law_d", "_law_most"] spOff) : FnOk P w K mg base CX0 2 f fd ["_law_d"] spReader := by
  have sc := sc_reader
  refine F.ok sc (fun vs H Q E h => ?_) (fun cdv A outer s H vs Q E hr h => ?_)
  · obtain ⟨d, ns, rfl, _⟩ := h
    rfl
  · obtain ⟨d, ns, rfl, hd, hD, k⟩ := h
    refine ⟨_, (pss_one (ps_ret (pe_tup (pa_cons (pe_op op_add pe_int (pe_cal c__law_off (hr.mono (by first | decide | omega)) (pa_cons (pv 0) (pa_cons pe_int pa_nil)))) (pa_cons (pe_op op_add pe_int (pe_cal c__law_off (hr.mono (by first | decide | omega)) (pa_cons (pv 0) (pa_cons pe_int pa_nil)))) pa_nil))))), ?_⟩
    refine ⟨_, rfl, d, ns, 6, rfl, hd, hD, by decide, by decide, fun v ms v0 v1 hD1 => ?_⟩
    refine ⟨_, _, rfl, rfl, _, rfl, d, ms, 3, rfl, upd_same, hD1, by decide, by decide, fun u ms2 u0 u1 hD2 => ?_⟩
    refine ⟨_, _, rfl, rfl, (by show 2 ≤ sizeLine; decide), fun p hp => ?_⟩
    rw [upd_upd] at hp ⊢
    exact k (1 + v) (1 + u) ms2 p (by omega) (by omega) (by omega) (by omega) hD2 (by
      have n : p ≠ d := fun z => by rw [z, upd_same] at hp; cases hp
      rw [upd_ne n] at hp; exact hp)
end
/-! ### a row that a knob can go -/
def spRowW (K : PySem.W.Frag) : Sp := fun vs H Q _ => ∃ (d kn : Addr) (ns : List Int) (many g b : Int) (ps : List Addr), vs = [.ref d, .ref kn, .int many] ∧ H d = some (.lst (ns.map V.int)) ∧ Dice ns ∧ d ∈ ps ∧ Live ps H ∧
  Dp K (Fz ps H) (.ref kn) (knD g b) ∧ 1 ≤ g ∧ g ≤ 6 ∧ 0 ≤ b ∧ b ≤ g ∧ 0 ≤ many ∧ many ≤ 900 ∧
  ∀ (row : List Mv) (ms : List Int) (p : Addr) (xs : List V) (H' : Hp), row.length = many.toNat → Dice ms → H p = none → Frm [d] H H' → H' d = some (.lst (ms.map V.int)) → H' p = some (.lst xs) →
    DpAll K (Fz (p :: ps) H') xs (row.map mvD) → Q (.ref p) H'
section
variable {P : Program} {w : World} {K : PySem.W.Frag} {mg : Str → Option Value} {base : Heap}
theorem sc_roww : FnScope ["_law_d", "_law_knob_here", "_law_many", "_law_often", "_law_back", "_law_way", "_law_since", "_law_ever", "_law_row_here", "_law_k", "_law_turn"] ["_law_d", "_law_knob_here", "_law_many"] (defScope (top 31)) := ⟨rfl, rfl, rfl, by decide +kernel, rfl, by decide +kernel, by decide +kernel⟩
set_option maxHeartbeats 1000000 in
theorem ok_roww {f : Addr} {fd : FuncData} (F : Fun K "_law_row" "_law_row" (top 31) f fd) (c__law_off : Cal P w K mg base 1 "_law_off" ["_law_d", "_law_most"] spOff) (n_range : mg "range" = none) (n_int : mg "int" = none) : FnOk P w K mg base CX0 2 f fd ["_law_d", "_law_knob_here", "_law_many"] (spRowW K) := by
  have sc := sc_roww
  refine F.ok sc (fun vs H Q E h => ?_) (fun cdv A outer s H vs Q E hr h => ?_)
  · obtain ⟨d, kn, ns, many, g, b, ps, rfl, _⟩ := h
    rfl
  · obtain ⟨d, kn, ns, many, g, b, ps, rfl, hd, hD, dps, lv, hkn, g1, g6, b0, b1, m0, m1, k⟩ := h
    obtain ⟨kn', e, hT⟩ := dp_ii hkn
    cases e
    refine ⟨_, (pss_cons (ps_set (i := 3) sc.nd rfl (Or.inl rfl) (pe_op op_add pe_int (pe_cal c__law_off (hr.mono (by first | decide | omega)) (pa_cons (pv 0) (pa_cons pe_int pa_nil)))))
(pss_cons (ps_set (i := 4) sc.nd rfl (Or.inl rfl) (pe_op op_add pe_int (pe_cal c__law_off (hr.mono (by first | decide | omega)) (pa_cons (pv 0) (pa_cons pe_int pa_nil)))))
(pss_cons (ps_set (i := 5) sc.nd rfl (Or.inl rfl) (pe_ix (r := rIxL K) ix_list (pe_lst (pa_cons pe_int (pa_cons (pe_un un_neg pe_int) pa_nil))) (pe_cal c__law_off (hr.mono (by first | decide | omega)) (pa_cons (pv 0) (pa_cons pe_int pa_nil))) (fun _ _ => rfl)))
(pss_cons (ps_set (i := 6) sc.nd rfl (Or.inl rfl) (pe_ix (r := rIxT K) ix_tup (pv 1) pe_int (fun _ _ => rfl)))
(pss_cons (ps_set (i := 7) sc.nd rfl (Or.inl rfl) pe_bl)
(pss_cons (ps_set (i := 8) sc.nd rfl (Or.inl rfl) (pe_lst pa_nil))
(pss_cons (ps_for PassesOwn.never rfl (pi_range1 rfl n_range (pa_cons (pv 2) pa_nil)) (pg_name (i := 9) sc.nd rfl (Or.inl rfl))
(pss_cons (ps_set (i := 10) sc.nd rfl (Or.inl rfl) pe_int)
(C8.pss_cut (ps_if (PW.pt (pw_and (pt_cmpR op_ge (pv 6) (pe_ix (r := rIxT K) ix_tup (pv 1) pe_int (fun _ _ => rfl)) (nomark _)) (pw_and1 (pt_cmpR op_eq (pe_cal c__law_off (hr.mono (by first | decide | omega)) (pa_cons (pv 0) (pa_cons (pv 3) pa_nil))) pe_int (nomark _)))))
(pss_cons (ps_set (i := 5) sc.nd rfl (Or.inl rfl) (pe_op op_mul (pv 5) (pe_ix (r := rIxL K) ix_list (pe_lst (pa_cons pe_int (pa_cons (pe_un un_neg pe_int) pa_nil))) (pe_callTy call_int1 (by rfl) n_int (by decide +kernel) (pa_cons (pe_cmpR op_eq (pe_cal c__law_off (hr.mono (by first | decide | omega)) (pa_cons (pv 0) (pa_cons (pv 4) pa_nil))) pe_int (nomark _)) pa_nil)) (fun _ _ => rfl))))
(pss_cons (ps_set (i := 10) sc.nd rfl (Or.inl rfl) (pv 5))
(pss_cons (ps_set (i := 6) sc.nd rfl (Or.inl rfl) pe_int)
(pss_one (ps_set (i := 7) sc.nd rfl (Or.inl rfl) pe_bl)))))
pss_nil)
(pss_cons (ps_expr (pe_bm PySem.F.plainAttrs_list PySem.F.slot_list_append PySem.F.type_list_append mt_append (pv 8) (pa_cons (pe_tup (pa_cons (pv 10) (pa_cons (pe_cut (pe_and (pv 7) (pe_and (pe_cmpR op_lt (pv 6) (pe_ix (r := rIxT K) ix_tup (pv 1) pe_int (fun _ _ => rfl)) (nomark _)) (pe_one (pe_cmpR op_eq (pe_cal c__law_off (hr.mono (by first | decide | omega)) (pa_cons (pv 0) (pa_cons pe_int pa_nil))) pe_int (nomark _)))))) pa_nil))) pa_nil)))
(pss_one (ps_set (i := 6) sc.nd rfl (Or.inl rfl) (pe_op op_add (pv 6) pe_int)))))))
(pss_one (ps_ret (pv 8)))))))))), ?_⟩
    -- often, back
    refine ⟨_, rfl, d, ns, 4, rfl, hd, hD, by decide, by decide, fun v1 ms1 v10 v11 hD1 => ?_⟩
    refine ⟨_, _, rfl, rfl, ?_⟩
    refine ⟨_, rfl, d, ms1, 6, rfl, upd_same, hD1, by decide, by decide, fun v2 ms2 v20 v21 hD2 => ?_⟩
    refine ⟨_, _, rfl, rfl, ?_⟩
    rw [upd_upd]
    -- way
    refine ⟨_, rfl, (by show 2 ≤ sizeLine; decide), fun l1 h1 => ?_⟩
    have n1 : d ≠ l1 := fun z => by rw [← z, upd_same] at h1; cases h1
    refine ⟨_, rfl, d, ms2, 2, rfl, (by rw [upd_ne n1, upd_same]), hD2, by decide, by decide, fun v3 ms3 v30 v31 hD3 => ?_⟩
    have f0 : Frm [d] H (upd H d (.lst (ms2.map V.int))) := Frm.set (by simp)
    have f1 : Frm [d] H (upd (upd (upd H d (.lst (ms2.map V.int))) l1 (.lst [.int 1, .int (-1)])) d (.lst (ms3.map V.int))) := (f0.trans (Frm.new h1)).trans (Frm.set (by simp))
    refine ⟨l1, _, _, .int (if v3 = 0 then 1 else -1), rfl, rfl, SqL.of (by rw [upd_ne n1.symm]; exact upd_same), ?_, ?_⟩
    · show atI [V.int 1, V.int (-1)] v3 = _
      have : v3 = 0 ∨ v3 = 1 := by omega
      rcases this with h | h <;> rw [h] <;> decide
    -- since, ever, the list
    have frT : ∀ {H' : Hp}, Frm [d] H H' → SqT K H' kn [.int g, .int b] := fun {H'} fr => same_seqT (fz_le (ps := ps)) (same_seqT (Frm.fz (Frm.mono (by simpa using dps) fr)) hT)
    refine ⟨_, rfl, kn, _, _, _, rfl, rfl, frT f1, at_of (j := 0) rfl rfl, ?_⟩
    refine ⟨Nat.zero_le _, fun l hl => ?_⟩
    have hlH : H l = none := by
      cases q : H l with
      | none => rfl
      | some o =>
        by_cases e : l = d
        · rw [e, upd_same] at hl; cases hl
        · rw [f1 l o (by simpa using e) q] at hl; cases hl
    have nld : l ≠ d := fun z => by rw [z, upd_same] at hl; cases hl
    refine ⟨_, rfl, many, rfl, by omega, by omega, for_range (lo := 0) (n := many.toNat) (fun i σ H' => ∃ (row : List Mv) (ms : List Int) (xs : List V) (way since : Int) (ever : Bool) (u1 u2 : Option V),
        σ = [some (.ref d), some (.ref kn), some (.int many), some (.int (1 + v1)), some (.int (1 + v2)), some (.int way), some (.int since), some (.bl ever), some (.ref l), u1, u2] ∧
        (way = 1 ∨ way = -1) ∧ 0 ≤ since ∧ row.length = i ∧ rst g row = (min g since, ever) ∧ Dice ms ∧ Frm [d] H H' ∧ H' d = some (.lst (ms.map V.int)) ∧ H' l = some (.lst xs) ∧ DpAll K (Fz (l :: ps) H') xs (row.map mvD)) ?_ ?_ ?_⟩
    · refine ⟨[], ms3, [], _, _, _, _, _, rfl, ?_, by omega, rfl, ?_, hD3, f1.trans (Frm.new hl), by rw [upd_ne nld.symm, upd_same], upd_same, .nil⟩
      · split <;> simp
      · show (g, false) = _
        rw [Int.min_self]
    · rintro i σ H1 hi ⟨row, ms, xs, way, since, ever, u1, u2, rfl, hw, s0, hrl, hst, hDm, fr, hd1, hl1, hX⟩
      have hi900 : row.length < 900 := by omega
      -- the turn
      refine ⟨fun σ H' => ∃ (t way' since' : Int) (ever' : Bool) (ms' : List Int), σ = [some (.ref d), some (.ref kn), some (.int many), some (.int (1 + v1)), some (.int (1 + v2)), some (.int way'), some (.int since'), some (.bl ever'), some (.ref l), some (.int (0 + (i : Int))), some (.int t)] ∧
        (way' = 1 ∨ way' = -1) ∧ (t = -1 ∨ t = 0 ∨ t = 1) ∧ since' = (if t = 0 then since else 0) ∧ ever' = (ever || decide (t ≠ 0)) ∧ (t ≠ 0 → g ≤ since) ∧ Dice ms' ∧ Frm [d] H H' ∧ H' d = some (.lst (ms'.map V.int)) ∧ H' l = some (.lst xs) ∧ DpAll K (Fz (l :: ps) H') xs (row.map mvD), ?_, ?_⟩
      · refine ⟨_, rfl, _, rfl, kn, _, _, _, rfl, rfl, frT fr, at_of (j := 0) rfl rfl, _, _, rfl, rfl, _, rfl, ?_⟩
        by_cases c : g ≤ since
        · refine iteDT c ⟨_, rfl, _, rfl, d, ms, 1 + v1, rfl, hd1, hDm, by omega, by omega, fun v4 ms4 v40 v41 hD4 => ?_⟩
          refine ⟨rfl, _, rfl, ?_⟩
          have fr4 : Frm [d] H (upd H1 d (.lst (ms4.map V.int))) := fr.trans (Frm.set (by simp))
          have hX4 : DpAll K (Fz (l :: ps) (upd H1 d (.lst (ms4.map V.int)))) xs (row.map mvD) := by rw [fz_set (by simp [dps])]; exact hX
          by_cases c4 : v4 = 0
          · refine iteDT (vint_eq c4) ?_
            refine ⟨_, rfl, _, rfl, (by show 2 ≤ sizeLine; decide), fun l5 h5 => ?_⟩
            have n5 : d ≠ l5 := fun z => by rw [← z, upd_same] at h5; cases h5
            have n5l : l ≠ l5 := fun z => by rw [← z, upd_ne nld, hl1] at h5; cases h5
            refine ⟨_, rfl, _, rfl, d, ms4, 1 + v2, rfl, (by rw [upd_ne n5, upd_same]), hD4, by omega, by omega, fun v6 ms6 v60 v61 hD6 => ?_⟩
            refine ⟨rfl, .inr ⟨_, rfl, ?_⟩⟩
            refine ⟨l5, _, _, .int (if v6 = 0 then -1 else 1), rfl, rfl, SqL.of (by rw [upd_ne n5.symm]; exact upd_same), ?_, ?_⟩
            · show atI [V.int 1, V.int (-1)] (if decide (V.int v6 = V.int 0) = true then 1 else 0) = _
              by_cases c6 : v6 = 0
              · rw [if_pos c6, decide_eq_true (vint_eq c6)]; decide
              · rw [if_neg c6, decide_eq_false (vint_ne c6)]; decide
            refine ⟨_, _, rfl, rfl, .inl ⟨by omega, by omega⟩, ?_⟩
            refine ⟨_, rfl, ?_⟩
            have hw6 : way * (if v6 = 0 then -1 else 1) = 1 ∨ way * (if v6 = 0 then -1 else 1) = -1 := by
              rcases hw with h | h <;> rw [h] <;> split <;> simp
            have hn6 : way * (if v6 = 0 then -1 else 1) ≠ 0 := by omega
            refine ⟨way * (if v6 = 0 then -1 else 1), way * (if v6 = 0 then -1 else 1), 0, true, ms6, rfl, hw6, by omega, by rw [if_neg hn6], by rw [decide_eq_true hn6, Bool.or_true], fun _ => c, hD6, (fr4.trans (Frm.new h5)).trans (Frm.set (by simp)), upd_same, ?_, ?_⟩
            · rw [upd_ne nld, upd_ne n5l, upd_ne nld]; exact hl1
            · rw [fz_set (by simp [dps])]; exact dpa_same (fz_mono (same_new h5)) hX4
          · refine iteDF (vint_ne c4) ?_
            exact ⟨0, way, since, ever, ms4, rfl, hw, by simp, by simp, by simp, by simp, hD4, fr4, upd_same, by rw [upd_ne nld]; exact hl1, hX4⟩
        · refine iteDF c ?_
          exact ⟨0, way, since, ever, ms, rfl, hw, by simp, by simp, by simp, by simp, hDm, fr, hd1, hl1, hX⟩
      · rintro σ H2 ⟨t, way', since', ever', ms', rfl, hw', ht, hs', he', hso, hD', fr2, hd2, hl2, hX2⟩
        have s0' : 0 ≤ since' := by rw [hs']; split <;> omega
        have nxt : min g (since' + 1) = min g ((if t = 0 then min g since else 0) + 1) := by
          rw [hs']; by_cases c : t = 0
          · rw [if_pos c, if_pos c]; omega
          · rw [if_neg c, if_neg c]
        refine ⟨_, rfl, .inl ⟨rfl, _, SqL.of hl2⟩, _, rfl, ?_⟩
        -- whether the old is shown
        refine ⟨fun v H' => ∃ (o : Bool) (ms3 : List Int), v = .bl o ∧ (o = true → ever' = true ∧ since' < b) ∧ Dice ms3 ∧ Frm [d] H H' ∧ H' d = some (.lst (ms3.map V.int)) ∧ H' l = some (.lst xs) ∧ DpAll K (Fz (l :: ps) H') xs (row.map mvD), ?_, ?_⟩
        · refine ⟨_, rfl, _, rfl, ?_⟩
          refine iteB (fun ce => ?_) (fun ce => ?_)
          · refine ⟨_, rfl, _, rfl, kn, _, _, _, rfl, rfl, frT fr2, at_of (j := 1) rfl rfl, _, _, rfl, rfl, _, rfl, ?_⟩
            refine iteB (fun cs => ?_) (fun cs => ?_)
            · refine ⟨_, rfl, d, ms', 2, rfl, hd2, hD', by decide, by decide, fun v7 ms7 v70 v71 hD7 => ?_⟩
              refine ⟨rfl, _, ms7, rfl, fun _ => ⟨ce, of_decide_eq_true cs⟩, hD7, fr2.trans (Frm.set (by simp)), upd_same, by rw [upd_ne nld]; exact hl2, ?_⟩
              rw [fz_set (by simp [dps])]; exact hX2
            · exact ⟨false, ms', rfl, by simp, hD', fr2, hd2, hl2, hX2⟩
          · exact ⟨false, ms', rfl, by simp, hD', fr2, hd2, hl2, hX2⟩
        · rintro v H3 ⟨o, ms3, rfl, ho, hD3', fr3, hd3, hl3, hX3⟩
          refine ⟨(by show 2 ≤ sizeLine; decide), fun tp htp => ?_⟩
          have ntl : l ≠ tp := ne_of_none hl3 htp
          have ntd : d ≠ tp := ne_of_none hd3 htp
          have hxn : xs.length ≤ 1000 := by rw [dpa_length hX3, List.length_map]; omega
          refine ⟨l, xs, _, rfl, rfl, (by rw [upd_ne ntl]; exact hl3), small1000 hxn, ?_⟩
          refine ⟨_, rfl, _, _, rfl, rfl, row ++ [(t, o)], ms3, xs ++ [.ref tp], way', since' + 1, ever', _, _, rfl, hw', by omega, ?_, ?_, hD3', ?_, ?_, upd_same, ?_⟩
          · rw [List.length_append, List.length_singleton, hrl]
          · rw [rst_app, hst]
            unfold stp
            dsimp only
            rw [he', nxt]
          · exact fun b o n q => by
              have nb : b ≠ l := fun z => by rw [z, hlH] at q; cases q
              rw [upd_ne nb]
              exact same_new htp b o (fr3 b o n q)
          · rw [upd_ne nld.symm, upd_ne ntd]; exact hd3
          · rw [List.map_append]
            exact dpa_push (live_cons hl3 (fun p hp z => by
              by_cases e : p = d
              · rw [e, hd3] at z; cases z
              · cases q : H p with
                | none => exact lv p hp q
                | some o => rw [fr3 p o (by simpa using e) q] at z; cases z)) htp hX3 (dpa_ib t o)
    · rintro σ H1 ⟨row, ms, xs, way, since, ever, u1, u2, rfl, hw, s0, hrl, hst, hDm, fr, hd1, hl1, hX⟩
      exact ⟨_, rfl, k row ms l xs H1 hrl hDm hlH fr hd1 hl1 hX⟩
end
/-! ### what is alike itself by == -/
theorem lay_nest : ∀ (n : Nat) (d : PyData), Nest n d → d.canLay0 = true ∧ d.depth ≤ n := by
  have all : ∀ (n : Nat) (ds : List PyData), (∀ d ∈ ds, d.canLay0 = true ∧ d.depth ≤ n) → PyData.canLayAll0 ds = true ∧ PyData.depthAll ds ≤ n := by
    intro n ds
    induction ds with
    | nil => intro _; exact ⟨rfl, Nat.zero_le _⟩
    | cons d ds ih =>
      intro h
      obtain ⟨h1, h2⟩ := h d (by simp)
      obtain ⟨h3, h4⟩ := ih fun x hx => h x (by simp [hx])
      refine ⟨by simp [PyData.canLayAll0, h1, h3], ?_⟩
      show max d.depth (PyData.depthAll ds) ≤ n
      omega
  intro n
  induction n with
  | zero =>
    intro d h
    cases d with
    | none => exact ⟨rfl, Nat.le_refl _⟩
    | bool _ => exact ⟨rfl, Nat.le_refl _⟩
    | int _ => exact ⟨rfl, Nat.le_refl _⟩
    | str _ => exact ⟨h, Nat.le_refl _⟩
    | list _ => exact h.elim
    | tuple _ => exact h.elim
    | dict _ => exact h.elim
  | succ n ih =>
    intro d h
    cases d with
    | none => exact ⟨rfl, Nat.zero_le _⟩
    | bool _ => exact ⟨rfl, Nat.zero_le _⟩
    | int _ => exact ⟨rfl, Nat.zero_le _⟩
    | str _ => exact ⟨h, Nat.zero_le _⟩
    | list ds =>
      obtain ⟨h1, h2⟩ := all n ds fun d hd => ih d (h.2 d hd)
      exact ⟨by simpa [PyData.canLay0] using h1, Nat.succ_le_succ h2⟩
    | tuple ds =>
      obtain ⟨h1, h2⟩ := all n ds fun d hd => ih d (h.2 d hd)
      exact ⟨by simpa [PyData.canLay0] using h1, Nat.succ_le_succ h2⟩
    | dict _ => exact h.elim
theorem shaped_nest {n : Nat} {d : PyData} (h : Nest n d) (hn : n ≤ 64) : SeqAt.shaped d = true := by
  obtain ⟨h1, h2⟩ := lay_nest n d h
  unfold SeqAt.shaped
  rw [h1, decide_eq_true (Nat.le_trans h2 hn)]
  rfl
theorem eqv_nest {n : Nat} {d : PyData} (h : Nest n d) : PyData.eqv d d = true := SeqAt.eqv_refl d (lay_nest n d h).1
theorem nest_row {row : List Mv} (h : row.length ≤ 1000000) : Nest 2 (rowD row) := by
  refine ⟨by rw [List.length_map]; exact h, fun d hd => ?_⟩
  obtain ⟨m, _, rfl⟩ := List.mem_map.mp hd
  refine ⟨by show 2 ≤ 1000000; decide, fun x hx => ?_⟩
  simp at hx
  rcases hx with rfl | rfl <;> trivial
theorem nest_pairs {l : List (Int × Int)} (h : l.length ≤ 1000000) : Nest 2 (.list (l.map ppD)) := by
  refine ⟨by rw [List.length_map]; exact h, fun d hd => ?_⟩
  obtain ⟨m, _, rfl⟩ := List.mem_map.mp hd
  refine ⟨by show 2 ≤ 1000000; decide, fun x hx => ?_⟩
  simp at hx
  rcases hx with rfl | rfl <;> trivial
theorem smallM {n : Nat} (h : n ≤ 1000000) : n < sizeLine := by rw [sizeLine_eq]; omega
/-! ### slices, lists of ints as data -/
theorem cut_from {xs : List V} {i : Int} (h : 0 ≤ i) : cutV xs (some i) none = xs.drop i.toNat := by
  unfold cutV
  obtain ⟨n, rfl⟩ := Int.eq_ofNat_of_zero_le h
  rw [show (some (n : Int)) = some ((n : Nat) : Int) from rfl, HT.sIx_nat, HT.sIx_none, Int.toNat_natCast]
  by_cases q : n ≤ xs.length
  · rw [Nat.min_eq_left q, List.take_of_length_le (by rw [List.length_drop]; omega)]
  · rw [Nat.min_eq_right (by omega), Nat.sub_self, List.take_zero, List.drop_eq_nil_of_le (by omega)]
theorem cut_last {xs : List V} {i : Int} (h : 0 < i) : cutV xs (some (0 - i)) none = xs.drop (xs.length - i.toNat) := by
  unfold cutV
  have e : HT.sIx xs.length 0 (some (0 - i)) = xs.length - i.toNat := by
    show (if (0 - i) < 0 then ((0 - i) + (xs.length : Int)).toNat else _) = _
    rw [if_pos (by omega)]; omega
  rw [e, HT.sIx_none, List.take_of_length_le (by rw [List.length_drop]; omega)]
theorem cut_to {xs : List V} {i : Int} (h : 0 ≤ i) : cutV xs none (some i) = xs.take i.toNat := by
  unfold cutV
  obtain ⟨n, rfl⟩ := Int.eq_ofNat_of_zero_le h
  rw [show (some (n : Int)) = some ((n : Nat) : Int) from rfl, HT.sIx_nat, HT.sIx_none, Int.toNat_natCast, Nat.sub_zero, List.drop_zero]
  by_cases q : n ≤ xs.length
  · rw [Nat.min_eq_left q]
  · rw [Nat.min_eq_right (by omega), List.take_of_length_le (by omega), List.take_of_length_le (by omega)]
theorem cut_mid {xs : List V} {i j : Int} (h : 0 ≤ i) (hj : 0 ≤ j) : cutV xs (some i) (some j) = (xs.drop i.toNat).take (j.toNat - i.toNat) := by
  unfold cutV
  obtain ⟨n, rfl⟩ := Int.eq_ofNat_of_zero_le h
  obtain ⟨m, rfl⟩ := Int.eq_ofNat_of_zero_le hj
  rw [show (some (n : Int)) = some ((n : Nat) : Int) from rfl, show (some (m : Int)) = some ((m : Nat) : Int) from rfl, HT.sIx_nat, HT.sIx_nat, Int.toNat_natCast, Int.toNat_natCast]
  by_cases q : n ≤ xs.length
  · rw [Nat.min_eq_left q]
    by_cases q2 : m ≤ xs.length
    · rw [Nat.min_eq_left q2]
    · rw [Nat.min_eq_right (by omega), List.take_of_length_le (by rw [List.length_drop]; omega), List.take_of_length_le (by rw [List.length_drop]; omega)]
  · rw [show min n xs.length = xs.length by omega, List.drop_eq_nil_of_le (Nat.le_refl _), List.drop_eq_nil_of_le (show xs.length ≤ n by omega)]; simp
theorem nest_ints {ns : List Int} (h : ns.length ≤ 1000000) : Nest 1 (.list (ns.map PyData.int)) := by
  refine ⟨by rw [List.length_map]; exact h, fun d hd => ?_⟩
  obtain ⟨m, _, rfl⟩ := List.mem_map.mp hd
  trivial
theorem eqv_nil (ds : List PyData) : PyData.eqv (.list ds) (.list []) = ds.isEmpty := by
  cases ds with
  | nil => rfl
  | cons d ds => rfl
theorem dp_ints {K : PySem.W.Frag} {H : Hp} {a : Addr} {ns : List Int} (h : SqL K H a (ns.map V.int)) : Dp K H (.ref a) (.list (ns.map PyData.int)) := .lst h (dpa_ints ns)
theorem dp_nilL {K : PySem.W.Frag} {H : Hp} {a : Addr} (h : SqL K H a []) : Dp K H (.ref a) (.list []) := .lst h .nil
/-! ### isinstance -/
section
variable {K : PySem.W.Frag} {H : Hp} {σ : St} {x : V} {i : Nat} {t T : String} {b : Bool}
theorem e_isi {Q : VK} (h : σ[i]? = some (some x)) (ty : TyX K H x (.type t)) (e : kitB t T = some b) (q : Q (.bl b) H) : tCB (rIsi K) (tCons (tVar i) (tCons (tC (.ty T)) tNil)) σ H Q :=
  ⟨x, h, x, .ty T, .type t, .type T, b, rfl, .ty T, ty, kit_ty e, q⟩
theorem t_isi {Q : Bool → Hp → Prop} (h : σ[i]? = some (some x)) (ty : TyX K H x (.type t)) (e : kitB t T = some b) (q : Q b H) : tB (tCB (rIsi K) (tCons (tVar i) (tCons (tC (.ty T)) tNil))) σ H Q :=
  e_isi h ty e ⟨b, rfl, q⟩
theorem t_isi2 {Q : Bool → Hp → Prop} {j : Nat} {y : V} (h : σ[i]? = some (some x)) (h' : σ[j]? = some (some y)) (ty : TyX K H x (.type t)) (ty' : TyX K H y (.type t)) (e : kitB t T = some b) (q : Q false H) :
    tTest (tOp rNe (tCB (rIsi K) (tCons (tVar i) (tCons (tC (.ty T)) tNil))) (tCB (rIsi K) (tCons (tVar j) (tCons (tC (.ty T)) tNil)))) σ H Q := by
  refine e_isi h ty e (e_isi h' ty' e ⟨rfl, _, rfl, ?_⟩)
  rw [decide_eq_true rfl]
  exact q
end
/-! ### data that are alike -/
/-- alike of two readings of one thing -/
def spAlike (K : PySem.W.Frag) : Nat → Sp
  | 0 => fun _ _ _ _ => False
  | n + 1 => fun vs H Q _ => ∃ (v u : V) (d : PyData), vs = [v, u] ∧ Dp K H v d ∧ Dp K H u d ∧ Nest n d ∧ ∀ H', Same H H' → Q (.bl true) H'
section
variable {P : Program} {w : World} {K : PySem.W.Frag} {mg : Str → Option Value} {base : Heap}
theorem sc_alike : FnScope ["_law_found", "_law_due", "_law_k"] ["_law_found", "_law_due"] (defScope (top 27)) := ⟨rfl, rfl, rfl, by decide +kernel, rfl, by decide +kernel, by decide +kernel⟩
theorem ok_alike0 {f : Addr} {fd : FuncData} (F : Fun K "_law_alike" "_law_alike" (top 27) f fd) : FnOk P w K mg base CX0 1 f fd ["_law_found", "_law_due"] (spAlike K 0) :=
  F.ok sc_alike (fun vs H Q E h => h.elim) (fun cdv A outer s H vs Q E hr h => h.elim)
theorem ok_alikeS {f : Addr} {fd : FuncData} {n : Nat} (F : Fun K "_law_alike" "_law_alike" (top 27) f fd) (c__law_alike : Cal P w K mg base (n + 1) "_law_alike" ["_law_found", "_law_due"] (spAlike K n))
    (n_isinstance : mg "isinstance" = none) (n_bool : mg "bool" = none) (n_int : mg "int" = none) (n_str : mg "str" = none) (n_tuple : mg "tuple" = none) (n_list : mg "list" = none) (n_len : mg "len" = none) (n_all : mg "all" = none) (n_range : mg "range" = none) :
    FnOk P w K mg base CX0 (n + 2) f fd ["_law_found", "_law_due"] (spAlike K (n + 1)) := by
  have sc := sc_alike
  refine F.ok sc (fun vs H Q E h => ?_) (fun cdv A outer s H vs Q E hr h => ?_)
  · obtain ⟨v, u, d, rfl, _⟩ := h
    rfl
  · obtain ⟨v, u, d, rfl, hv, hu, hN, k⟩ := h
    refine ⟨_, (pss_cons (ps_if (pt_cmpR op_isN (pv 1) pe_non (nomark _))
(pss_one (ps_ret (pe_cmpR op_isN (pv 0) pe_non (nomark _))))
pss_nil)
(pss_cons (ps_if (pt_val (pe_callB (r := rIsi K) call_isi (by rfl) n_isinstance (by decide +kernel) (pa_cons (pv 1) (pa_cons (pe_bltn (v := .ty "bool") (by rfl) n_bool (by decide +kernel) rfl) pa_nil))))
(pss_one (ps_ret (pe_and (pe_callB (r := rIsi K) call_isi (by rfl) n_isinstance (by decide +kernel) (pa_cons (pv 0) (pa_cons (pe_bltn (v := .ty "bool") (by rfl) n_bool (by decide +kernel) rfl) pa_nil))) (pe_one (pe_cmpR op_eq (pv 0) (pv 1) (nomark _))))))
pss_nil)
(pss_cons (ps_if (pt_val (pe_callB (r := rIsi K) call_isi (by rfl) n_isinstance (by decide +kernel) (pa_cons (pv 1) (pa_cons (pe_bltn (v := .ty "int") (by rfl) n_int (by decide +kernel) rfl) pa_nil))))
(pss_one (ps_ret (pe_and (pe_callB (r := rIsi K) call_isi (by rfl) n_isinstance (by decide +kernel) (pa_cons (pv 0) (pa_cons (pe_bltn (v := .ty "int") (by rfl) n_int (by decide +kernel) rfl) pa_nil))) (pe_and (pe_not (pe_callB (r := rIsi K) call_isi (by rfl) n_isinstance (by decide +kernel) (pa_cons (pv 0) (pa_cons (pe_bltn (v := .ty "bool") (by rfl) n_bool (by decide +kernel) rfl) pa_nil)))) (pe_one (pe_cmpR op_eq (pv 0) (pv 1) (nomark _)))))))
pss_nil)
(pss_cons (ps_if (pt_val (pe_callB (r := rIsi K) call_isi (by rfl) n_isinstance (by decide +kernel) (pa_cons (pv 1) (pa_cons (pe_bltn (v := .ty "str") (by rfl) n_str (by decide +kernel) rfl) pa_nil))))
(pss_one (ps_ret (pe_and (pe_callB (r := rIsi K) call_isi (by rfl) n_isinstance (by decide +kernel) (pa_cons (pv 0) (pa_cons (pe_bltn (v := .ty "str") (by rfl) n_str (by decide +kernel) rfl) pa_nil))) (pe_one (pe_cmpR op_eq (pv 0) (pv 1) (nomark _))))))
pss_nil)
(pss_cons (ps_if (PW.pt (pw_or (pt_cmpR op_ne (pe_callB (r := rIsi K) call_isi (by rfl) n_isinstance (by decide +kernel) (pa_cons (pv 1) (pa_cons (pe_bltn (v := .ty "tuple") (by rfl) n_tuple (by decide +kernel) rfl) pa_nil))) (pe_callB (r := rIsi K) call_isi (by rfl) n_isinstance (by decide +kernel) (pa_cons (pv 0) (pa_cons (pe_bltn (v := .ty "tuple") (by rfl) n_tuple (by decide +kernel) rfl) pa_nil))) (nomark _)) (pw_or1 (pt_cmpR op_ne (pe_callB (r := rIsi K) call_isi (by rfl) n_isinstance (by decide +kernel) (pa_cons (pv 1) (pa_cons (pe_bltn (v := .ty "list") (by rfl) n_list (by decide +kernel) rfl) pa_nil))) (pe_callB (r := rIsi K) call_isi (by rfl) n_isinstance (by decide +kernel) (pa_cons (pv 0) (pa_cons (pe_bltn (v := .ty "list") (by rfl) n_list (by decide +kernel) rfl) pa_nil))) (nomark _)))))
(pss_one (ps_ret pe_bl))
pss_nil)
(pss_cons (ps_if (pt_cmpR op_ne (pe_callB (r := rLenQ K) call_lenQ (by rfl) n_len PySem.boot_len (pa_cons (pv 0) pa_nil)) (pe_callB (r := rLenQ K) call_lenQ (by rfl) n_len PySem.boot_len (pa_cons (pv 1) pa_nil)) (nomark _))
(pss_one (ps_ret pe_bl))
pss_nil)
(pss_one (ps_ret (pe_callB (r := rAll K) (cr_all rfl) (by rfl) n_all (by decide +kernel) (pa_cons (pe_lc (own := [("_law_k", 2)]) (g := gName 2) rfl sc.nd (pi_range1 rfl n_range (pa_cons (pe_callB (r := rLenQ K) call_lenQ (by rfl) n_len PySem.boot_len (pa_cons (pv 1) pa_nil)) pa_nil)) (blkOk_by (own := [("_law_k", 2)]) (N := ["_law_found", "_law_due", "_law_k"]) (sc := defScope (top 27)) (by decide +kernel)) (fun _ _ _ _ _ => (pg_name (i := 2) sc.nd rfl (Or.inl rfl))) (fun _ _ _ _ _ => pts_nil) (fun _ _ _ _ _ => (pe_cal c__law_alike (hr.mono (by first | decide | omega)) (pa_cons (pe_ix (r := rIx K) ix_seq (pv 0) (pv 2) (fun _ _ => rfl)) (pa_cons (pe_ix (r := rIx K) ix_seq (pv 1) (pv 2) (fun _ _ => rfl)) pa_nil))))) pa_nil)))))))))), ?_⟩
    refine ⟨_, rfl, rfl, _, rfl, ?_⟩
    cases d with
    | none =>
      cases hv; cases hu
      exact iteDT rfl ⟨_, rfl, rfl, by rw [decide_eq_true rfl]; exact k H (Same.refl H)⟩
    | bool b =>
      cases hv; cases hu
      refine iteDF (by simp) (t_isi (t := "bool") (b := true) rfl (.base (.bl b)) (by decide +kernel) (iteT ?_))
      refine e_isi (t := "bool") (b := true) rfl (.base (.bl b)) (by decide +kernel) ⟨_, rfl, iteT ⟨_, rfl, _, rfl, rfl, ?_⟩⟩
      rw [decide_eq_true rfl]; exact k H (Same.refl H)
    | int b =>
      cases hv; cases hu
      refine iteDF (by simp) (t_isi (t := "int") (b := false) rfl (.base (.int b)) (by decide +kernel) (iteF ?_))
      refine t_isi (t := "int") (b := true) rfl (.base (.int b)) (by decide +kernel) (iteT ?_)
      refine e_isi (t := "int") (b := true) rfl (.base (.int b)) (by decide +kernel) ⟨_, rfl, iteT ?_⟩
      refine e_isi (t := "int") (b := false) rfl (.base (.int b)) (by decide +kernel) ⟨_, rfl, _, rfl, iteT ⟨_, rfl, _, rfl, rfl, ?_⟩⟩
      rw [decide_eq_true rfl]; exact k H (Same.refl H)
    | str b =>
      cases hv; cases hu
      refine iteDF (by simp) (t_isi (t := "str") (b := false) rfl (.base (.str b)) (by decide +kernel) (iteF ?_))
      refine t_isi (t := "str") (b := false) rfl (.base (.str b)) (by decide +kernel) (iteF ?_)
      refine t_isi (t := "str") (b := true) rfl (.base (.str b)) (by decide +kernel) (iteT ?_)
      refine e_isi (t := "str") (b := true) rfl (.base (.str b)) (by decide +kernel) ⟨_, rfl, iteT ⟨_, rfl, _, rfl, rfl, ?_⟩⟩
      rw [decide_eq_true rfl]; exact k H (Same.refl H)
    | list ds =>
      obtain ⟨a, xs, rfl, hL, hX⟩ := dp_lst hv
      obtain ⟨b, ys, rfl, hM, hY⟩ := dp_lst hu
      have ta := ty_lst hL
      have tb := ty_lst hM
      have lx := dpa_length hX
      have ly := dpa_length hY
      refine iteDF (by simp) (t_isi (t := "list") (b := false) rfl tb (by decide +kernel) (iteF ?_))
      refine t_isi (t := "list") (b := false) rfl tb (by decide +kernel) (iteF ?_)
      refine t_isi (t := "list") (b := false) rfl tb (by decide +kernel) (iteF ?_)
      refine t_isi2 (t := "list") (b := false) rfl rfl tb ta (by decide +kernel) (iteF ?_)
      refine t_isi2 (t := "list") (b := true) rfl rfl tb ta (by decide +kernel) (iteF ?_)
      refine ⟨_, rfl, a, xs, rfl, .inl hL, _, rfl, b, ys, rfl, .inl hM, rfl, _, rfl, iteNS (vint_eq (by omega)) ?_⟩
      match n, hN, c__law_alike, hr with
      | n + 1, hN, c__law_alike, hr =>
      obtain ⟨hl, hN⟩ := hN
      refine ⟨_, rfl, b, ys, rfl, .inl hM, _, rfl, by omega, by omega, fun D hD => lc_range (lo := 0) (n := ((ys.length : Nat) : Int).toNat) (fun i H' => Same H H' ∧ H' D = some (.lst (List.replicate i (V.bl true)))) ⟨same_new hD, upd_same⟩ ?_ ?_⟩
      · rintro i H1 hi ⟨hs, hd1⟩
        have hiy : i < ys.length := by omega
        have hix : i < xs.length := by omega
        obtain ⟨d1, e1, q1⟩ := dpa_get hX (List.getElem?_eq_getElem hix)
        obtain ⟨d2, e2, q2⟩ := dpa_get hY (List.getElem?_eq_getElem hiy)
        rw [e1] at e2
        cases e2
        refine ⟨rfl, _, rfl, _, rfl, .inl ⟨a, xs, _, _, rfl, rfl, hs.seq hL, at_of (j := i) (by omega) (List.getElem?_eq_getElem hix), _, rfl, _, rfl, .inl ⟨b, ys, _, _, rfl, rfl, hs.seq hM, at_of (j := i) (by omega) (List.getElem?_eq_getElem hiy), ?_⟩⟩⟩
        refine ⟨_, _, d1, rfl, dp_same hs q1, dp_same hs q2, hN d1 (List.mem_of_getElem? e1), fun H2 hs2 => ?_⟩
        refine ⟨_, hs2 _ _ hd1, smallM (by rw [List.length_replicate]; omega), same_put hD (hs.trans hs2), ?_⟩
        rw [upd_same, List.replicate_succ']
      · rintro H1 ⟨hs, hd1⟩
        refine ⟨D, List.replicate ((ys.length : Nat) : Int).toNat true, rfl, SqL.of (by rw [hd1, List.map_replicate]), ?_⟩
        rw [List.all_replicate]
        show Q (.bl (if _ then true else true)) _
        rw [ite_self]
        exact k _ hs
    | tuple ds =>
      obtain ⟨a, xs, rfl, hL, hX⟩ := dp_tup hv
      obtain ⟨b, ys, rfl, hM, hY⟩ := dp_tup hu
      have ta := ty_tup hL
      have tb := ty_tup hM
      have lx := dpa_length hX
      have ly := dpa_length hY
      refine iteDF (by simp) (t_isi (t := "tuple") (b := false) rfl tb (by decide +kernel) (iteF ?_))
      refine t_isi (t := "tuple") (b := false) rfl tb (by decide +kernel) (iteF ?_)
      refine t_isi (t := "tuple") (b := false) rfl tb (by decide +kernel) (iteF ?_)
      refine t_isi2 (t := "tuple") (b := true) rfl rfl tb ta (by decide +kernel) (iteF ?_)
      refine t_isi2 (t := "tuple") (b := false) rfl rfl tb ta (by decide +kernel) (iteF ?_)
      refine ⟨_, rfl, a, xs, rfl, .inr hL, _, rfl, b, ys, rfl, .inr hM, rfl, _, rfl, iteNS (vint_eq (by omega)) ?_⟩
      match n, hN, c__law_alike, hr with
      | n + 1, hN, c__law_alike, hr =>
      obtain ⟨hl, hN⟩ := hN
      refine ⟨_, rfl, b, ys, rfl, .inr hM, _, rfl, by omega, by omega, fun D hD => lc_range (lo := 0) (n := ((ys.length : Nat) : Int).toNat) (fun i H' => Same H H' ∧ H' D = some (.lst (List.replicate i (V.bl true)))) ⟨same_new hD, upd_same⟩ ?_ ?_⟩
      · rintro i H1 hi ⟨hs, hd1⟩
        have hiy : i < ys.length := by omega
        have hix : i < xs.length := by omega
        obtain ⟨d1, e1, q1⟩ := dpa_get hX (List.getElem?_eq_getElem hix)
        obtain ⟨d2, e2, q2⟩ := dpa_get hY (List.getElem?_eq_getElem hiy)
        rw [e1] at e2
        cases e2
        refine ⟨rfl, _, rfl, _, rfl, .inr (.inl ⟨a, xs, _, _, rfl, rfl, same_seqT hs hL, at_of (j := i) (by omega) (List.getElem?_eq_getElem hix), _, rfl, _, rfl, .inr (.inl ⟨b, ys, _, _, rfl, rfl, same_seqT hs hM, at_of (j := i) (by omega) (List.getElem?_eq_getElem hiy), ?_⟩)⟩)⟩
        refine ⟨_, _, d1, rfl, dp_same hs q1, dp_same hs q2, hN d1 (List.mem_of_getElem? e1), fun H2 hs2 => ?_⟩
        refine ⟨_, hs2 _ _ hd1, smallM (by rw [List.length_replicate]; omega), same_put hD (hs.trans hs2), ?_⟩
        rw [upd_same, List.replicate_succ']
      · rintro H1 ⟨hs, hd1⟩
        refine ⟨D, List.replicate ((ys.length : Nat) : Int).toNat true, rfl, SqL.of (by rw [hd1, List.map_replicate]), ?_⟩
        rw [List.all_replicate]
        show Q (.bl (if _ then true else true)) _
        rw [ite_self]
        exact k _ hs
    | dict _ => cases hv
end
/-! ### PAIRS -/
structure PairsK (K : PySem.W.Frag) (aP p0 p1 p2 p3 : Addr) : Prop where
  ty : ∃ o, K.lookup aP = some o ∧ o.cls = .type "tuple" ∧ o.dict = none
  all : ∀ H, SqT K H aP [.ref p0, .ref p1, .ref p2, .ref p3]
  q0 : ∀ H, SqT K H p0 [.int 0, .int 0]
  q1 : ∀ H, SqT K H p1 [.int 0, .int 1]
  q2 : ∀ H, SqT K H p2 [.int 1, .int 1]
  q3 : ∀ H, SqT K H p3 [.int 1, .int 0]
theorem PairsK.at {K : PySem.W.Frag} {aP p0 p1 p2 p3 : Addr} (k : PairsK K aP p0 p1 p2 p3) (z : Int) : ∃ p, atI [V.ref p0, .ref p1, .ref p2, .ref p3] (z % 4) = some (.ref p) ∧ ∀ H, Dp K H (.ref p) (ppD (pr z)) := by
  unfold pr
  rcases mod4 z with h | h | h | h <;> rw [h]
  · exact ⟨p0, rfl, fun H => .tup (k.q0 H) (dpa_ii 0 0)⟩
  · exact ⟨p1, rfl, fun H => .tup (k.q1 H) (dpa_ii 0 1)⟩
  · exact ⟨p2, rfl, fun H => .tup (k.q2 H) (dpa_ii 1 1)⟩
  · exact ⟨p3, rfl, fun H => .tup (k.q3 H) (dpa_ii 1 0)⟩
theorem knT_of {K : PySem.W.Frag} {aP : Addr} {oc : Value} {od : Option Addr} {its : Array Value} {n : Nat} {sl : Array (Option Value)} {xs : List V} (h : K.lookup aP = some ⟨oc, od, .seq its n, sl⟩) (c : oc = .type "tuple") (z : its.size ≤ sizeLine) (r : Vals xs its.toList) (H : Hp) : SqT K H aP xs :=
  .inr ⟨_, its, n, h, c, rfl, z, r⟩
/-! ### need_knob -/
def spNeedKnob (K : PySem.W.Frag) : Sp := fun vs H Q _ => ∃ (v : V) (g b : Int), vs = [v] ∧ Dp K H v (knD g b) ∧ 1 ≤ g ∧ g ≤ 6 ∧ 0 ≤ b ∧ b ≤ g ∧ Q .non H
section
variable {P : Program} {w : World} {K : PySem.W.Frag} {mg : Str → Option Value} {base : Heap}
theorem sc_need_knob : FnScope ["knob", "gap", "bounce"] ["knob"] (defScope (top 12)) := ⟨rfl, rfl, rfl, by decide +kernel, rfl, by decide +kernel, by decide +kernel⟩
theorem ok_need_knob {f : Addr} {fd : FuncData} {t1 : Tok} (F : Fun K "need_knob" "need_knob" (top 12) f fd) (g_MOST_GAP : mg "MOST_GAP" = some (.int 6 t1)) : FnOk P w K mg base CX0 1 f fd ["knob"] (spNeedKnob K) := by
  have sc := sc_need_knob
  refine F.ok sc (fun vs H Q E h => ?_) (fun cdv A outer s H vs Q E hr h => ?_)
  · obtain ⟨v, g, b, rfl, _⟩ := h
    rfl
  · obtain ⟨v, g, b, rfl, hd, g1, g6, b0, b1, k⟩ := h
    obtain ⟨a, rfl, hT⟩ := dp_ii hd
    refine ⟨_, (pss_cons (ps_asg (pv 0) (pg_tup rfl (pgs_cons (pg_name (i := 1) sc.nd rfl (Or.inl rfl)) (pgs_cons (pg_name (i := 2) sc.nd rfl (Or.inl rfl)) pgs_nil))))
(pss_cons (ps_if (pt_not (pt_chain op_le op_le pe_int (pv 1) (pe_glob (v := .int 6) rfl g_MOST_GAP ⟨_, rfl⟩)))
(pss_one ps_never)
pss_nil)
(pss_one (ps_if (pt_not (pt_chain op_le op_le pe_int (pv 2) (pv 1)))
(pss_one ps_never)
pss_nil)))), ?_⟩
    refine ⟨_, rfl, a, _, rfl, hT, rfl, _, _, rfl, _, _, rfl, rfl, ?_⟩
    refine ⟨_, rfl, _, _, rfl, rfl, _, rfl, ?_⟩
    rw [decide_eq_true g1]
    refine iteT ⟨_, _, rfl, rfl, _, rfl, ?_⟩
    rw [decide_eq_true g6]
    refine iteF ?_
    refine ⟨_, rfl, _, _, rfl, rfl, _, rfl, ?_⟩
    rw [decide_eq_true b0]
    refine iteT ⟨_, rfl, _, _, rfl, rfl, _, rfl, ?_⟩
    rw [decide_eq_true b1]
    exact iteF k
end
/-! ### need_reader -/
def spNeedReader (K : PySem.W.Frag) : Sp := fun vs H Q _ => ∃ (v : V) (a s : Int), vs = [v] ∧ Dp K H v (knD a s) ∧ 1 ≤ a ∧ a ≤ 6 ∧ 1 ≤ s ∧ s ≤ 3 ∧ Q .non H
section
variable {P : Program} {w : World} {K : PySem.W.Frag} {mg : Str → Option Value} {base : Heap}
theorem sc_need_reader : FnScope ["reader", "apart", "same"] ["reader"] (defScope (top 13)) := ⟨rfl, rfl, rfl, by decide +kernel, rfl, by decide +kernel, by decide +kernel⟩
theorem ok_need_reader {f : Addr} {fd : FuncData} {t1 t2 : Tok} (F : Fun K "need_reader" "need_reader" (top 13) f fd) (g_MOST_APART : mg "MOST_APART" = some (.int 6 t1)) (g_MOST_SAME : mg "MOST_SAME" = some (.int 3 t2)) : FnOk P w K mg base CX0 1 f fd ["reader"] (spNeedReader K) := by
  have sc := sc_need_reader
  refine F.ok sc (fun vs H Q E h => ?_) (fun cdv A outer s H vs Q E hr h => ?_)
  · obtain ⟨v, g, b, rfl, _⟩ := h
    rfl
  · obtain ⟨v, g, b, rfl, hd, g1, g6, b0, b1, k⟩ := h
    obtain ⟨a, rfl, hT⟩ := dp_ii hd
    refine ⟨_, (pss_cons (ps_asg (pv 0) (pg_tup rfl (pgs_cons (pg_name (i := 1) sc.nd rfl (Or.inl rfl)) (pgs_cons (pg_name (i := 2) sc.nd rfl (Or.inl rfl)) pgs_nil))))
(pss_cons (ps_if (pt_not (pt_chain op_le op_le pe_int (pv 1) (pe_glob (v := .int 6) rfl g_MOST_APART ⟨_, rfl⟩)))
(pss_one ps_never)
pss_nil)
(pss_one (ps_if (pt_not (pt_chain op_le op_le pe_int (pv 2) (pe_glob (v := .int 3) rfl g_MOST_SAME ⟨_, rfl⟩)))
(pss_one ps_never)
pss_nil)))), ?_⟩
    refine ⟨_, rfl, a, _, rfl, hT, rfl, _, _, rfl, _, _, rfl, rfl, ?_⟩
    refine ⟨_, rfl, _, _, rfl, rfl, _, rfl, ?_⟩
    rw [decide_eq_true g1]
    refine iteT ⟨_, _, rfl, rfl, _, rfl, ?_⟩
    rw [decide_eq_true g6]
    refine iteF ?_
    refine ⟨_, rfl, _, _, rfl, rfl, _, rfl, ?_⟩
    rw [decide_eq_true b0]
    refine iteT ⟨_, _, rfl, rfl, _, rfl, ?_⟩
    rw [decide_eq_true b1]
    exact iteF k
end
def spPos (K : PySem.W.Frag) : Sp := fun vs H Q _ => ∃ (u : V) (row : List Mv) (ps : List Addr), vs = [u] ∧ Live ps H ∧ Dp K (Fz ps H) u (rowD row) ∧ row.length ≤ 1000 ∧
  ∀ (p : Addr) (xs : List V) (H' : Hp), H p = none → Same H H' → H' p = some (.lst xs) → DpAll K (Fz (p :: ps) H') xs ((plcs row).map ppD) → Q (.ref p) H'
/-! ### need_row of what is one; positions -/
def spNeedRow (K : PySem.W.Frag) : Sp := fun vs H Q _ => ∃ (v u : V) (g b : Int) (row : List Mv), vs = [v, u] ∧ Dp K H v (knD g b) ∧ Dp K H u (rowD row) ∧ Good g b row ∧ ∀ H', Same H H' → Q .non H'
section
variable {P : Program} {w : World} {K : PySem.W.Frag} {mg : Str → Option Value} {base : Heap}
theorem sc_need_row : FnScope ["knob", "row", "gap", "bounce", "since", "turned", "at", "turn", "old"] ["knob", "row"] (defScope (top 14)) := ⟨rfl, rfl, rfl, by decide +kernel, rfl, by decide +kernel, by decide +kernel⟩
theorem ok_need_row {f : Addr} {fd : FuncData} {t1 : Tok} (F : Fun K "need_row" "need_row" (top 14) f fd) (g_MOST_ROW : mg "MOST_ROW" = some (.int 200 t1)) (n_enumerate : mg "enumerate" = none) (n_min : mg "min" = none) : FnOk P w K mg base CX0 1 f fd ["knob", "row"] (spNeedRow K) := by
  have sc := sc_need_row
  refine F.ok sc (fun vs H Q E h => ?_) (fun cdv A outer s H vs Q E hr h => ?_)
  · obtain ⟨v, u, g, b, row, rfl, _⟩ := h
    rfl
  · obtain ⟨v, u, g, b, row, rfl, hd, hrow, hG, k⟩ := h
    obtain ⟨a, rfl, hT⟩ := dp_ii hd
    obtain ⟨l, xs, rfl, hL, hX⟩ := dp_lst hrow
    have hxl : xs.length = row.length := by rw [dpa_length hX, List.length_map]
    refine ⟨_, (pss_cons (ps_asg (pv 0) (pg_tup rfl (pgs_cons (pg_name (i := 2) sc.nd rfl (Or.inl rfl)) (pgs_cons (pg_name (i := 3) sc.nd rfl (Or.inl rfl)) pgs_nil))))
(pss_cons (ps_set (i := 4) sc.nd rfl (Or.inl rfl) (pv 2))
(pss_cons (ps_set (i := 5) sc.nd rfl (Or.inl rfl) pe_bl)
(pss_one (ps_for PassesOwn.never rfl (pi_enum (by rfl) n_enumerate (pa_cons (pv 1) pa_nil)) (pg_tup rfl (pgs_cons (pg_name (i := 6) sc.nd rfl (Or.inl rfl)) (pgs_cons (pg_tup rfl (pgs_cons (pg_name (i := 7) sc.nd rfl (Or.inl rfl)) (pgs_cons (pg_name (i := 8) sc.nd rfl (Or.inl rfl)) pgs_nil))) pgs_nil)))
(pss_cons (ps_if (PW.pt (pw_or (pt_cmpR op_ge (pv 6) (pe_glob (v := .int 200) rfl g_MOST_ROW ⟨_, rfl⟩) (nomark _)) (pw_or (pt_cmpR (r := rIn K true) op_notIn_seq (pv 7) (pe_tup (pa_cons (pe_un un_neg pe_int) (pa_cons pe_int (pa_cons pe_int pa_nil)))) (by rfl)) (pw_or1 (PW.pt (pw_and (pt_cmpR op_ne (pv 7) pe_int (nomark _)) (pw_and1 (pt_cmpR op_lt (pv 4) (pv 2) (nomark _)))))))))
(pss_one ps_never)
pss_nil)
(C8.pss_cut (ps_if (pt_cmpR op_ne (pv 7) pe_int (nomark _))
(pss_cons (ps_set (i := 4) sc.nd rfl (Or.inl rfl) pe_int)
(pss_one (ps_set (i := 5) sc.nd rfl (Or.inl rfl) pe_bl)))
pss_nil)
(pss_cons (ps_if (PW.pt (pw_and (pt_val (pv 8)) (pw_and1 (PW.pt (pw_or (pt_not (pt_val (pv 5))) (pw_or1 (pt_cmpR op_ge (pv 4) (pv 3) (nomark _))))))))
(pss_one ps_never)
pss_nil)
(pss_one (ps_set (i := 4) sc.nd rfl (Or.inl rfl) (pe_callB (call_min2 rfl) (by rfl) n_min (by decide +kernel) (pa_cons (pv 2) (pa_cons (pe_op op_add (pv 4) pe_int) pa_nil))))))))))))), ?_⟩
    refine ⟨_, rfl, a, _, rfl, hT, rfl, _, _, rfl, _, _, rfl, rfl, ?_⟩
    refine ⟨_, rfl, ?_⟩
    refine ⟨_, rfl, l, xs, rfl, hL, for_it (walk_enum (xs := xs)) (fun i σ H' => ∃ v1 v2 v3, σ = [some (.ref a), some (.ref l), some (.int g), some (.int b), some (.int (rst g (row.take i)).1), some (.bl (rst g (row.take i)).2), v1, v2, v3] ∧ Same H H')
      ⟨none, none, none, rfl, Same.refl H⟩ (fun i σ H' _ ⟨_, _, _, _, e⟩ => e.seq hL) ?_ ?_⟩
    · rintro i x σ H1 H2 hi ⟨v1, v2, v3, rfl, hs⟩ ⟨T, y, z, rfl, hT0, rfl, hy, hz⟩
      cases hy
      obtain ⟨m, hm, hz2⟩ := dpa_map_at (dpa_same hs hX) hz
      have hz3 := dp_same (same_new hT0 (o := .tup [.int ((i : Nat) : Int), z])) hz2
      obtain ⟨q, rfl, hq⟩ := dp_ib hz3
      have ok := hG.ok i m hm
      have hi200 : i < 200 := by have := hG.len; omega
      refine ⟨T, _, rfl, SqT.of upd_same, rfl, _, _, rfl, _, _, rfl, ?_⟩
      refine ⟨q, _, rfl, hq, rfl, _, _, rfl, _, _, rfl, rfl, rfl, ?_⟩
      have e0 : (rst g (row.take (i + 1))) = stp g (rst g (row.take i)) m := rst_snoc hm
      refine ⟨_, rfl, _, _, rfl, rfl, _, rfl, ?_⟩
      rw [decide_eq_false (show ¬ (200 : Int) ≤ (i : Nat) by omega)]
      refine iteF ⟨_, rfl, _, rfl, (by show 3 ≤ sizeLine; decide), fun tp htp => ?_⟩
      have s2 : Same H (upd (upd H1 T (.tup [.int ((i : Nat) : Int), .ref q])) tp (.tup [.int (-1), .int 0, .int 1])) := (hs.trans (same_new hT0)).trans (same_new htp)
      refine ⟨tp, _, rfl, .inr (SqT.of upd_same), rfl, rfl, _, rfl, ?_⟩
      refine iteBF ?_ ?_
      · show (!(inV (V.int m.1) [V.int (-1), V.int 0, V.int 1])) = false
        rcases ok.turn with h | h | h <;> rw [h] <;> decide
      have third : ∀ {R : Bool → Hp → Prop} {σ : St} {Hq : Hp}, σ[7]? = some (some (.int m.1)) → σ[4]? = some (some (.int (rst g (row.take i)).1)) → σ[2]? = some (some (.int g)) → R false Hq →
          tAnd (tTest (tOp rNe (tVar 7) (tC (.int 0)))) (tTest (tOp (rI0 fun i j => .bl (decide (i < j))) (tVar 4) (tVar 2))) σ Hq R := by
        intro R σ Hq h7 h4 h2 hR
        refine ⟨_, h7, rfl, _, rfl, ?_⟩
        by_cases h0 : m.1 = 0
        · exact iteNS (vint_eq h0) hR
        · refine iteNT (vint_ne h0) ⟨_, h4, _, h2, _, _, rfl, rfl, _, rfl, ?_⟩
          rw [decide_eq_false (show ¬ (rst g (row.take i)).1 < g by have := ok.soon h0; omega)]
          exact hR
      refine third rfl rfl rfl (iteF ?_)
      refine ⟨fun σ H' => σ = [some (.ref a), some (.ref l), some (.int g), some (.int b), some (.int (if m.1 = 0 then (rst g (row.take i)).1 else 0)), some (.bl ((rst g (row.take i)).2 || decide (m.1 ≠ 0))), some (.int ((i : Nat) : Int)), some (.int m.1), some (.bl m.2)] ∧ Same H H', ?_, ?_⟩
      · refine ⟨_, rfl, rfl, _, rfl, ?_⟩
        by_cases h0 : m.1 = 0
        · refine iteNS (vint_eq h0) ⟨?_, s2⟩
          rw [if_pos h0, decide_eq_false (show ¬ m.1 ≠ 0 from fun z => z h0), Bool.or_false]
          rfl
        · refine iteNT (vint_ne h0) ⟨?_, s2⟩
          rw [if_neg h0, decide_eq_true (show m.1 ≠ 0 from h0), Bool.or_true]
          rfl
      · rintro σ H' ⟨rfl, s3⟩
        refine ⟨_, rfl, _, rfl, ?_⟩
        have fin : ∃ v1 v2 v3, [some (V.ref a), some (V.ref l), some (.int g), some (.int b), some (.int (if (if m.1 = 0 then (rst g (row.take i)).1 else 0) + 1 < g then (if m.1 = 0 then (rst g (row.take i)).1 else 0) + 1 else g)), some (.bl ((rst g (row.take i)).2 || decide (m.1 ≠ 0))), some (.int ((i : Nat) : Int)), some (.int m.1), some (.bl m.2)] =
            [some (.ref a), some (.ref l), some (.int g), some (.int b), some (.int (rst g (row.take (i + 1))).1), some (.bl (rst g (row.take (i + 1))).2), v1, v2, v3] ∧ Same H H' := by
          refine ⟨some (.int ((i : Nat) : Int)), some (.int m.1), some (.bl m.2), ?_, s3⟩
          rw [e0]
          unfold stp
          dsimp only
          rw [min2]
        have last : ∀ {Z : Prop}, Z → (if m.2 = true then Z else Z) := fun z => by split <;> exact z
        by_cases ho : m.2 = true
        · obtain ⟨o1, o2⟩ := ok.old ho
          refine iteBT ho ⟨_, rfl, _, rfl, ?_⟩
          have e1 : ((rst g (row.take i)).2 || decide (m.1 ≠ 0)) = true := by
            rcases o1 with h | h
            · rw [h, Bool.true_or]
            · rw [decide_eq_true h, Bool.or_true]
          rw [e1]
          refine iteF ⟨_, rfl, _, rfl, _, _, rfl, rfl, _, rfl, ?_⟩
          rw [decide_eq_false (show ¬ b ≤ (if m.1 = 0 then (rst g (row.take i)).1 else 0) by omega)]
          refine iteF ?_
          rw [e1] at fin
          exact ⟨_, rfl, _, rfl, _, _, rfl, rfl, _, _, rfl, fin⟩
        · refine iteBF (by simpa using ho) (iteF ⟨_, rfl, _, rfl, _, _, rfl, rfl, _, _, rfl, fin⟩)
    · rintro σ H1 ⟨v1, v2, v3, rfl, hs⟩
      exact k H1 hs
end
section
variable {P : Program} {w : World} {K : PySem.W.Frag} {mg : Str → Option Value} {base : Heap}
theorem sc_positions : FnScope ["row", "here", "last", "found", "turn", "old"] ["row"] (defScope (top 15)) := ⟨rfl, rfl, rfl, by decide +kernel, rfl, by decide +kernel, by decide +kernel⟩
theorem ok_positions {f : Addr} {fd : FuncData} (F : Fun K "positions" "positions" (top 15) f fd) : FnOk P w K mg base CX0 1 f fd ["row"] (spPos K) := by
  have sc := sc_positions
  refine F.ok sc (fun vs H Q E h => ?_) (fun cdv A outer s H vs Q E hr h => ?_)
  · obtain ⟨u, row, ps, rfl, _⟩ := h
    rfl
  · obtain ⟨u, row, ps, rfl, lv, hrow, hlen, k⟩ := h
    obtain ⟨a, ys, rfl, hL, hY⟩ := dp_lst hrow
    have hyl : ys.length = row.length := by rw [dpa_length hY, List.length_map]
    refine ⟨_, (pss_cons (ps_set (i := 1) sc.nd rfl (Or.inl rfl) pe_int)
(pss_cons (ps_set (i := 2) sc.nd rfl (Or.inl rfl) pe_int)
(pss_cons (ps_set (i := 3) sc.nd rfl (Or.inl rfl) (pe_lst pa_nil))
(pss_cons (ps_for PassesOwn.never rfl (pi_list (pv 0)) (pg_tup rfl (pgs_cons (pg_name (i := 4) sc.nd rfl (Or.inl rfl)) (pgs_cons (pg_name (i := 5) sc.nd rfl (Or.inl rfl)) pgs_nil)))
(pss_cons (ps_set (i := 1) sc.nd rfl (Or.inl rfl) (pe_op op_add (pv 1) (pv 4)))
(pss_cons (ps_set (i := 2) sc.nd rfl (Or.inl rfl) (pe_ifExp (pt_cmpR op_ne (pv 4) pe_int (nomark _)) (pv 4) (pv 2)))
(pss_one (ps_expr (pe_bm PySem.F.plainAttrs_list PySem.F.slot_list_append PySem.F.type_list_append mt_append (pv 3) (pa_cons (pe_tup (pa_cons (pv 1) (pa_cons (pe_ifExp (pt_val (pv 5)) (pe_op op_sub (pv 1) (pv 2)) (pv 1)) pa_nil))) pa_nil)))))))
(pss_one (ps_ret (pv 3))))))), ?_⟩
    refine ⟨Nat.zero_le _, fun l hl => ?_⟩
    have s0 : Same H (upd H l (.lst [])) := same_new hl
    refine ⟨_, rfl, a, rfl, ⟨ys, s0.seq (fz_le.seq hL)⟩, for_it (walk_list (xs := ys)) (fun i σ H' => ∃ (xs : List V) (v1 v2 : Option V), σ = [some (.ref a), some (.int (pas (row.take i)).1), some (.int (pas (row.take i)).2), some (.ref l), v1, v2] ∧ Same H H' ∧
        H' l = some (.lst xs) ∧ DpAll K (Fz (l :: ps) H') xs ((plcs (row.take i)).map ppD))
      ⟨[], none, none, rfl, s0, upd_same, .nil⟩ (fun i σ H' _ ⟨_, _, _, _, e, _⟩ => e.seq (fz_le.seq hL)) ?_ ?_⟩
    · rintro i x σ H1 H2 hi ⟨xs, v1, v2, rfl, hs, hxl, hX⟩ ⟨rfl, hx⟩
      obtain ⟨⟨t, o⟩, hm, hz⟩ := dpa_map_at hY hx
      obtain ⟨q, rfl, hq⟩ := dp_ib (dp_same hs (dp_fz hz))
      have ep := pas_snoc hm
      have el := plcs_snoc hm
      have hxn : xs.length ≤ 1000 := by
        rw [dpa_length hX, List.length_map, plcs_length, List.length_take]; omega
      have lv2 : Live (l :: ps) H2 := live_cons hxl (lv.mono hs)
      refine ⟨q, _, rfl, hq, rfl, _, _, rfl, _, _, rfl, rfl, ?_⟩
      refine ⟨_, rfl, _, rfl, _, _, rfl, rfl, ?_⟩
      have fin : ∀ (z : Int) (tp : Addr), H2 tp = none → z = (if o = true then (pst (pas (row.take i)) (t, o)).1 - (pst (pas (row.take i)) (t, o)).2 else (pst (pas (row.take i)) (t, o)).1) →
          DpAll K (Fz (l :: ps) (upd (upd H2 tp (.tup [.int ((pas (row.take i)).1 + t), .int z])) l (.lst (xs ++ [.ref tp])))) (xs ++ [.ref tp]) ((plcs (row.take (i + 1))).map ppD) := by
        intro z tp htp ez
        rw [el, List.map_append]
        refine dpa_push lv2 htp hX ?_
        rw [ez]
        exact dpa_ii _ _
      have fins : ∀ (tp : Addr) (ws : List V) (us : List V), H2 tp = none → Same H (upd (upd H2 tp (.tup ws)) l (.lst us)) := fun tp ws us htp => same_put hl (hs.trans (same_new htp))
      have el1 : (pas (row.take (i + 1))).1 = (pas (row.take i)).1 + t := by rw [ep]; rfl
      have el2 : (pas (row.take (i + 1))).2 = (if t = 0 then (pas (row.take i)).2 else t) := by rw [ep]; rfl
      refine ⟨_, rfl, rfl, _, rfl, ?_⟩
      by_cases h0 : t = 0
      · refine iteNS (vint_eq h0) ⟨_, rfl, ?_⟩
        rw [if_pos h0] at el2
        have e2 : (pst (pas (row.take i)) (t, o)).2 = (pas (row.take i)).2 := if_pos h0
        refine ⟨_, rfl, .inl ⟨rfl, _, SqL.of hxl⟩, _, rfl, _, rfl, _, rfl, iteB (fun ho => ?_) (fun ho => ?_)⟩
        · refine ⟨_, rfl, _, rfl, _, _, rfl, rfl, (by show 2 ≤ sizeLine; decide), fun tp htp => ?_⟩
          have ntl : l ≠ tp := ne_of_none hxl htp
          refine ⟨l, xs, _, rfl, rfl, (by rw [upd_ne ntl]; exact hxl), small1000 hxn, _, some (.int t), some (.bl o), ?_, fins _ _ _ htp, upd_same, fin _ _ htp ?_⟩
          · rw [el1, el2]; rfl
          · rw [if_pos ho, e2]; rfl
        · refine ⟨_, rfl, (by show 2 ≤ sizeLine; decide), fun tp htp => ?_⟩
          have ntl : l ≠ tp := ne_of_none hxl htp
          refine ⟨l, xs, _, rfl, rfl, (by rw [upd_ne ntl]; exact hxl), small1000 hxn, _, some (.int t), some (.bl o), ?_, fins _ _ _ htp, upd_same, fin _ _ htp ?_⟩
          · rw [el1, el2]; rfl
          · rw [if_neg (by rw [show o = false from ho]; decide)]; rfl
      · refine iteNT (vint_ne h0) ⟨_, rfl, ?_⟩
        rw [if_neg h0] at el2
        have e2 : (pst (pas (row.take i)) (t, o)).2 = t := if_neg h0
        refine ⟨_, rfl, .inl ⟨rfl, _, SqL.of hxl⟩, _, rfl, _, rfl, _, rfl, iteB (fun ho => ?_) (fun ho => ?_)⟩
        · refine ⟨_, rfl, _, rfl, _, _, rfl, rfl, (by show 2 ≤ sizeLine; decide), fun tp htp => ?_⟩
          have ntl : l ≠ tp := ne_of_none hxl htp
          refine ⟨l, xs, _, rfl, rfl, (by rw [upd_ne ntl]; exact hxl), small1000 hxn, _, some (.int t), some (.bl o), ?_, fins _ _ _ htp, upd_same, fin _ _ htp ?_⟩
          · rw [el1, el2]; rfl
          · rw [if_pos ho, e2]; rfl
        · refine ⟨_, rfl, (by show 2 ≤ sizeLine; decide), fun tp htp => ?_⟩
          have ntl : l ≠ tp := ne_of_none hxl htp
          refine ⟨l, xs, _, rfl, rfl, (by rw [upd_ne ntl]; exact hxl), small1000 hxn, _, some (.int t), some (.bl o), ?_, fins _ _ _ htp, upd_same, fin _ _ htp ?_⟩
          · rw [el1, el2]; rfl
          · rw [if_neg (by rw [show o = false from ho]; decide)]; rfl
    · rintro σ H1 ⟨xs, v1, v2, rfl, hs, hxl, hX⟩
      rw [hyl, List.take_length] at hX
      exact ⟨_, rfl, k l xs H1 hl hs hxl hX⟩
end
/-! ### shown -/
def shD (row : List Mv) : List PyData := (plcs row).map fun q => ppD (pr q.2)
def spShown (K : PySem.W.Frag) : Sp := fun vs H Q _ => ∃ (v u : V) (g b : Int) (row : List Mv) (ps : List Addr), vs = [v, u] ∧ Live ps H ∧ Dp K (Fz ps H) v (knD g b) ∧ 1 ≤ g ∧ g ≤ 6 ∧ 0 ≤ b ∧ b ≤ g ∧ Dp K (Fz ps H) u (rowD row) ∧ Good g b row ∧
  ∀ (p : Addr) (xs : List V) (H' : Hp), H p = none → Same H H' → H' p = some (.lst xs) → DpAll K (Fz (p :: ps) H') xs (shD row) → Q (.ref p) H'
section
variable {P : Program} {w : World} {K : PySem.W.Frag} {mg : Str → Option Value} {base : Heap}
theorem sc_shown : FnScope ["knob", "row", "here", "seen"] ["knob", "row"] (defScope (top 16)) := ⟨rfl, rfl, rfl, by decide +kernel, rfl, by decide +kernel, by decide +kernel⟩
theorem ok_shown {f a_PAIRS p0 p1 p2 p3 : Addr} {fd : FuncData} (F : Fun K "shown" "shown" (top 16) f fd) (g_PAIRS : mg "PAIRS" = some (.ref a_PAIRS)) (pk : PairsK K a_PAIRS p0 p1 p2 p3)
    (c_need_knob : Cal P w K mg base 1 "need_knob" ["knob"] (spNeedKnob K)) (c_need_row : Cal P w K mg base 1 "need_row" ["knob", "row"] (spNeedRow K)) (c_positions : Cal P w K mg base 1 "positions" ["row"] (spPos K)) :
    FnOk P w K mg base CX0 2 f fd ["knob", "row"] (spShown K) := by
  have sc := sc_shown
  refine F.ok sc (fun vs H Q E h => ?_) (fun cdv A outer s H vs Q E hr h => ?_)
  · obtain ⟨v, u, g, b, row, ps, rfl, _⟩ := h
    rfl
  · obtain ⟨v, u, g, b, row, ps, rfl, lv, hkn, g1, g6, b0, b1, hrow, hG, k⟩ := h
    refine ⟨_, (pss_cons (ps_expr (pe_cal c_need_knob (hr.mono (by first | decide | omega)) (pa_cons (pv 0) pa_nil)))
(pss_cons (ps_expr (pe_cal c_need_row (hr.mono (by first | decide | omega)) (pa_cons (pv 0) (pa_cons (pv 1) pa_nil))))
(pss_one (ps_ret (pe_lc (own := [("here", 2), ("seen", 3)]) (g := gTup K 2 (gCons (gName 2) (gCons (gName 3) gNil))) rfl sc.nd (pi_list (pe_cal c_positions (hr.mono (by first | decide | omega)) (pa_cons (pv 1) pa_nil))) (blkOk_by (own := [("here", 2), ("seen", 3)]) (N := ["knob", "row", "here", "seen"]) (sc := defScope (top 16)) (by decide +kernel)) (fun _ _ _ _ _ => (pg_tup rfl (pgs_cons (pg_name (i := 2) sc.nd rfl (Or.inl rfl)) (pgs_cons (pg_name (i := 3) sc.nd rfl (Or.inl rfl)) pgs_nil)))) (fun _ _ _ _ _ => pts_nil) (fun _ _ _ _ _ => (pe_ix (r := rIxT K) ix_tup (pe_glob (v := .ref a_PAIRS) rfl g_PAIRS rfl) (pe_op op_mod (pv 3) pe_int) (fun _ _ => rfl)))))))), ?_⟩
    refine ⟨_, rfl, v, g, b, rfl, dp_fz hkn, g1, g6, b0, b1, ?_⟩
    refine ⟨_, rfl, _, rfl, v, u, g, b, row, rfl, dp_fz hkn, dp_fz hrow, hG, fun H1 s1 => ?_⟩
    refine ⟨_, rfl, u, row, ps, rfl, lv.mono s1, dp_same (fz_mono s1) hrow, Nat.le_trans hG.len (by decide), fun l xs H2 hl s2 hxl hX => ?_⟩
    have hxn : xs.length ≤ 200 := by rw [dpa_length hX, List.length_map, plcs_length]; exact hG.len
    have xl : xs.length = (plcs row).length := by rw [dpa_length hX, List.length_map]
    refine ⟨l, rfl, ⟨xs, SqL.of hxl⟩, fun D hD => lc_it (walk_list (xs := xs)) (fun i H' => ∃ acc, Same H2 H' ∧ H' D = some (.lst acc) ∧ acc.length = i ∧ DpAll K (Fz (D :: ps) H') acc ((shD row).take i))
      ⟨[], same_new hD, upd_same, rfl, .nil⟩ (fun i H' _ ⟨_, e, _⟩ => SqL.of (e _ _ hxl)) ?_ ?_⟩
    · rintro i x H3 H4 hi ⟨acc, s3, hd3, hal, hA⟩ ⟨rfl, hx⟩
      obtain ⟨⟨h0, se⟩, hm, hz⟩ := dpa_map_at hX hx
      obtain ⟨q, rfl, hq⟩ := dp_ii (dp_same s3 (dp_fz hz))
      obtain ⟨p, hp1, hp2⟩ := pk.at se
      refine ⟨q, _, rfl, hq, rfl, _, _, rfl, _, _, rfl, rfl, rfl, ?_⟩
      refine ⟨_, rfl, _, _, rfl, rfl, (by show (0 : Int) < 4; decide), a_PAIRS, _, _, .ref p, rfl, rfl, pk.all _, hp1, acc, hd3, small1000 (by omega), acc ++ [.ref p], same_put hD s3, upd_same, by rw [List.length_append, List.length_singleton, hal], ?_⟩
      have e1 : (shD row)[i]? = some (ppD (pr se)) := by
        unfold shD
        rw [List.getElem?_map, hm]
        rfl
      rw [take_snoc e1]
      exact dpa_put hA (hp2 _)
    · rintro H3 ⟨acc, s3, hd3, hal, hA⟩
      have e2 : (shD row).take xs.length = shD row := List.take_of_length_le (by unfold shD; rw [List.length_map]; omega)
      rw [e2] at hA
      exact k D acc H3 ((s1.trans s2).free hD) ((s1.trans s2).trans s3) hd3 hA
end
/-! ### a counter, in plain -/
structure CS where
  same : Int
  kept : Int
  met : Option Int
  many : Int
  total : Int
  lost : Int
def tells (z : Int) : Int := if z % 4 = 0 then 0 else if z % 4 = 1 then 1 else if z % 4 = 2 then 2 else -1
def seenAs (m : Option Int) (z : Int) : Bool := match m with
  | none => false
  | some m => decide (m % 4 = z % 4)
def manyOf (s : CS) (z : Int) : Int := if seenAs s.met z = true then s.many + 1 else 1
def lookC (s : CS) (z : Int) : CS :=
  if manyOf s z < s.same ∨ s.kept % 4 = z % 4 then { s with met := some z, many := manyOf s z }
  else if (z - s.kept) % 4 = 2 then { s with met := some z, many := manyOf s z, kept := z, lost := s.lost + 1 }
  else { s with met := some z, many := manyOf s z, kept := z, total := s.total + tells (z - s.kept) }
def saysC (s : CS) (z : Int) : Int := if manyOf s z < s.same then 0 else tells (z - s.kept)
def newC (same : Int) : CS := ⟨same, 0, none, 0, 0, 0⟩
/-! ### counters -/
/-- what a counter holds: pairs by one of their places -/
def metD : Option Int → PyData
  | none => .none
  | some m => ppD (pr m)
theorem pr_eq {y z : Int} : pr y = pr z ↔ y % 4 = z % 4 := by
  unfold pr
  rcases mod4 y with h | h | h | h <;> rcases mod4 z with h' | h' | h' | h' <;> rw [h, h'] <;> decide
theorem eqv_pp (p q : Int × Int) : PyData.eqv (ppD p) (ppD q) = decide (p = q) := by
  obtain ⟨a, b⟩ := p
  obtain ⟨c, d⟩ := q
  have e : PyData.eqv (ppD (a, b)) (ppD (c, d)) = ((a == c) && ((b == d) && true)) := by simp only [ppD, PyData.eqv, PyData.eqvAll]
  rw [e]
  by_cases h1 : a = c
  · by_cases h2 : b = d
    · subst h1; subst h2; simp
    · have : ¬ ((a, b) = (c, d)) := fun z => h2 (congrArg Prod.snd z)
      rw [decide_eq_false this, beq_eq_false_iff_ne.mpr h2]; simp
  · have : ¬ ((a, b) = (c, d)) := fun z => h1 (congrArg Prod.fst z)
    rw [decide_eq_false this, beq_eq_false_iff_ne.mpr h1]; simp
theorem shaped_pp (p : Int × Int) : SeqAt.shaped (ppD p) = true := by
  obtain ⟨a, b⟩ := p
  rfl
theorem shaped_met (m : Option Int) : SeqAt.shaped (metD m) = true := by
  cases m with
  | none => rfl
  | some m => exact shaped_pp _
theorem eqv_met (m : Option Int) (z : Int) : PyData.eqv (ppD (pr z)) (metD m) = seenAs m z := by
  cases m with
  | none => rfl
  | some m =>
    show PyData.eqv (ppD (pr z)) (ppD (pr m)) = decide (m % 4 = z % 4)
    rw [eqv_pp]
    by_cases h : m % 4 = z % 4
    · rw [decide_eq_true h, decide_eq_true (pr_eq.mpr h.symm)]
    · rw [decide_eq_false h, decide_eq_false (fun e => h (pr_eq.mp e).symm)]
theorem eqv_pr (y z : Int) : PyData.eqv (ppD (pr z)) (ppD (pr y)) = decide (y % 4 = z % 4) := eqv_met (some y) z
def pairsD : List PyData := [ppD (pr 0), ppD (pr 1), ppD (pr 2), ppD (pr 3)]
theorem PairsK.dp {K : PySem.W.Frag} {aP p0 p1 p2 p3 : Addr} (k : PairsK K aP p0 p1 p2 p3) (H : Hp) : Dp K H (.ref aP) (.tuple pairsD) :=
  .tup (k.all H) (.cons (.tup (k.q0 H) (dpa_ii 0 0)) (.cons (.tup (k.q1 H) (dpa_ii 0 1)) (.cons (.tup (k.q2 H) (dpa_ii 1 1)) (.cons (.tup (k.q3 H) (dpa_ii 1 0)) .nil))))
theorem pairs_index (z : Int) : ∃ j : Nat, (j : Int) = z % 4 ∧ pairsD[j]? = some (ppD (pr z)) ∧ ∀ (m : Nat) (z' : PyData), m < j → pairsD[m]? = some z' → PyData.eqv z' (ppD (pr z)) = false := by
  have hp : ∀ y, pr y = pr (y % 4) := fun y => pr_eq.mpr (by omega)
  have hz := mod4 z
  refine ⟨(z % 4).toNat, by omega, ?_, ?_⟩
  · rw [hp z]
    rcases hz with h | h | h | h <;> rw [h] <;> rfl
  · intro m z' hm hz'
    have hq : pairsD[m]? = some (ppD (pr m)) := by
      have : m = 0 ∨ m = 1 ∨ m = 2 ∨ m = 3 := by omega
      rcases this with rfl | rfl | rfl | rfl <;> rfl
    rw [hq] at hz'
    cases hz'
    rw [eqv_pr]
    exact decide_eq_false (by omega)
/-- the counter at p, p among the hidden places -/
def CtrAt (K : PySem.W.Frag) (C : Addr) (ps : List Addr) (H : Hp) (p : Addr) (s : CS) : Prop :=
  ∃ dx kv mv, H p = some (.ins C dx [("same", .int s.same), ("kept", kv), ("met", mv), ("many", .int s.many), ("total", .int s.total), ("lost", .int s.lost)]) ∧ Dp K (Fz ps H) kv (ppD (pr s.kept)) ∧ Dp K (Fz ps H) mv (metD s.met)
theorem CtrAt.frm {K : PySem.W.Frag} {C : Addr} {ps qs : List Addr} {H H' : Hp} {p : Addr} {s : CS} (h : CtrAt K C ps H p s) (e : Same (Fz ps H) (Fz qs H')) (hp : ∀ o, H p = some o → H' p = some o) : CtrAt K C qs H' p s := by
  obtain ⟨dx, kv, mv, h1, h2, h3⟩ := h
  exact ⟨dx, kv, mv, hp _ h1, dp_same e h2, dp_same e h3⟩
/-- a new counter -/
def NewAt (K : PySem.W.Frag) (C : Addr) (H : Hp) (p : Addr) (s : Int) : Prop :=
  ∃ dx kv, H p = some (.ins C dx [("same", .int s), ("kept", kv), ("met", .non), ("many", .int 0), ("total", .int 0), ("lost", .int 0)]) ∧ ∀ H', Dp K H' kv (ppD (pr 0))
theorem NewAt.ctr {K : PySem.W.Frag} {C : Addr} {ps : List Addr} {H : Hp} {p : Addr} {s : Int} (h : NewAt K C H p s) : CtrAt K C ps H p (newC s) := by
  obtain ⟨dx, kv, h1, h2⟩ := h
  exact ⟨dx, kv, .non, h1, h2 _, .non⟩
theorem NewAt.mono {K : PySem.W.Frag} {C : Addr} {H H' : Hp} {p : Addr} {s : Int} (h : NewAt K C H p s) (e : ∀ o, H p = some o → H' p = some o) : NewAt K C H' p s := by
  obtain ⟨dx, kv, h1, h2⟩ := h
  exact ⟨dx, kv, e _ h1, h2⟩
theorem NewAt.live {K : PySem.W.Frag} {C : Addr} {H : Hp} {p : Addr} {s : Int} (h : NewAt K C H p s) : ∃ o, H p = some o := by
  obtain ⟨dx, kv, h1, h2⟩ := h
  exact ⟨_, h1⟩
/-- the class Counter, its attributes -/
structure CtrK (K : PySem.W.Frag) (C : Addr) : Prop where
  cl : Cls K C
  same : NoAttr K C "same"
  kept : NoAttr K C "kept"
  met : NoAttr K C "met"
  many : NoAttr K C "many"
  total : NoAttr K C "total"
  lost : NoAttr K C "lost"
def spCtr (K : PySem.W.Frag) (C : Addr) : Sp := fun vs H Q _ => ∃ (x dx : Addr) (v : V) (a s : Int), vs = [.ref x, v] ∧ H x = some (.ins C dx []) ∧ Dp K H v (knD a s) ∧ 1 ≤ a ∧ a ≤ 6 ∧ 1 ≤ s ∧ s ≤ 3 ∧
  ∀ H', Frm [x] H H' → NewAt K C H' x s → Q .non H'
def spLook (K : PySem.W.Frag) (C : Addr) : Sp := fun vs H Q _ => ∃ (p : Addr) (v : V) (s : CS) (z : Int) (ps : List Addr), vs = [.ref p, v] ∧ CtrAt K C ps H p s ∧ p ∈ ps ∧ Dp K (Fz ps H) v (ppD (pr z)) ∧
  ∀ H', Frm [p] H H' → CtrAt K C ps H' p (lookC s z) → Q (.int (saysC s z)) H'
def spCount (K : PySem.W.Frag) (C : Addr) : Sp := fun vs H Q _ => ∃ (p : Addr) (s : CS) (ps : List Addr), vs = [.ref p] ∧ CtrAt K C ps H p s ∧ Q (.int s.total) H
def spMissed (K : PySem.W.Frag) (C : Addr) : Sp := fun vs H Q _ => ∃ (p : Addr) (s : CS) (ps : List Addr), vs = [.ref p] ∧ CtrAt K C ps H p s ∧ Q (.int s.lost) H
section
variable {P : Program} {w : World} {K : PySem.W.Frag} {mg : Str → Option Value} {base : Heap}
theorem sc_cinit : FnScope ["self", "reader"] ["self", "reader"] (defScope (inClass (top 19) 0)) := ⟨rfl, rfl, rfl, by decide +kernel, rfl, by decide +kernel, by decide +kernel⟩
theorem ok_cinit {f C a_PAIRS p0 p1 p2 p3 : Addr} {fd : FuncData} (F : Fun K "__init__" "Counter.__init__" (inClass (top 19) 0) f fd) (ck : CtrK K C) (g_PAIRS : mg "PAIRS" = some (.ref a_PAIRS)) (pk : PairsK K a_PAIRS p0 p1 p2 p3)
    (c_need_reader : Cal P w K mg base 1 "need_reader" ["reader"] (spNeedReader K)) : FnOk P w K mg base CX0 2 f fd ["self", "reader"] (spCtr K C) := by
  have sc := sc_cinit
  refine F.ok sc (fun vs H Q E h => ?_) (fun cdv A outer s H vs Q E hr h => ?_)
  · obtain ⟨x, dx, v, a, s, rfl, _⟩ := h
    rfl
  · obtain ⟨x, dx, v, a, sm, rfl, hx, hv, a1, a6, s1, s3, k⟩ := h
    obtain ⟨q, rfl, hT⟩ := dp_ii hv
    refine ⟨_, (pss_cons (ps_expr (pe_cal c_need_reader (hr.mono (by first | decide | omega)) (pa_cons (pv 1) pa_nil)))
(pss_cons (ps_fld (pv 0) (pe_ix (r := rIxT K) ix_tup (pv 1) pe_int (fun _ _ => rfl)) rfl)
(pss_cons (ps_fld (pv 0) (pe_ix (r := rIxT K) ix_tup (pe_glob (v := .ref a_PAIRS) rfl g_PAIRS rfl) pe_int (fun _ _ => rfl)) rfl)
(pss_cons (ps_fld (pv 0) pe_non rfl)
(pss_cons (ps_fld (pv 0) pe_int rfl)
(pss_cons (ps_fld (pv 0) pe_int rfl)
(pss_one (ps_fld (pv 0) pe_int rfl)))))))), ?_⟩
    refine ⟨_, rfl, _, a, sm, rfl, hv, a1, a6, s1, s3, ?_⟩
    refine ⟨_, rfl, q, _, _, _, rfl, rfl, hT, at_of (j := 1) rfl rfl, _, rfl, x, C, dx, _, rfl, hx, ck.cl, ck.same, few 0 rfl, ?_⟩
    refine ⟨a_PAIRS, _, _, .ref p0, rfl, rfl, pk.all _, at_of (j := 0) rfl rfl, _, rfl, x, C, dx, _, rfl, upd_same, ck.cl, ck.kept, few 1 rfl, ?_⟩
    refine ⟨_, rfl, x, C, dx, _, rfl, upd_same, ck.cl, ck.met, few 2 rfl, ?_⟩
    refine ⟨_, rfl, x, C, dx, _, rfl, upd_same, ck.cl, ck.many, few 3 rfl, ?_⟩
    refine ⟨_, rfl, x, C, dx, _, rfl, upd_same, ck.cl, ck.total, few 4 rfl, ?_⟩
    refine ⟨_, rfl, x, C, dx, _, rfl, upd_same, ck.cl, ck.lost, few 5 rfl, ?_⟩
    simp only [upd_upd]
    exact k _ (Frm.set (by simp)) ⟨dx, .ref p0, upd_same, fun _ => .tup (pk.q0 _) (dpa_ii 0 0)⟩
theorem sc_look : FnScope ["self", "pair", "by", "told"] ["self", "pair"] (defScope (inClass (top 19) 1)) := ⟨rfl, rfl, rfl, by decide +kernel, rfl, by decide +kernel, by decide +kernel⟩
theorem ok_look {f C a_PAIRS p0 p1 p2 p3 : Addr} {fd : FuncData} {t1 : Tok} (F : Fun K "look" "Counter.look" (inClass (top 19) 1) f fd) (ck : CtrK K C) (g_PAIRS : mg "PAIRS" = some (.ref a_PAIRS)) (pk : PairsK K a_PAIRS p0 p1 p2 p3) (g_MISSED : mg "MISSED" = some (.int 2 t1)) :
    FnOk P w K mg base CX0 1 f fd ["self", "pair"] (spLook K C) := by
  have sc := sc_look
  refine F.ok sc (fun vs H Q E h => ?_) (fun cdv A outer s H vs Q E hr h => ?_)
  · obtain ⟨x, v, s, z, ps, rfl, _⟩ := h
    rfl
  · obtain ⟨p, v, cs, z, ps, rfl, hc, pps, hv, k⟩ := h
    obtain ⟨dx, kv, mv, hp, hk, hm⟩ := hc
    refine ⟨_, (pss_cons (ps_fld (pv 0) (pe_ifExp (pt_cmpR (r := rEqD K) (op_eqD hr.units) (pv 1) (pe_fldK (K := K) rfl (pv 0)) (nomark _)) (pe_op op_add (pe_fldK (K := K) rfl (pv 0)) pe_int) pe_int) rfl)
(pss_cons (ps_fld (pv 0) (pv 1) rfl)
(pss_cons (ps_if (PW.pt (pw_or (pt_cmpR op_lt (pe_fldK (K := K) rfl (pv 0)) (pe_fldK (K := K) rfl (pv 0)) (nomark _)) (pw_or1 (pt_cmpR (r := rEqD K) (op_eqD hr.units) (pv 1) (pe_fldK (K := K) rfl (pv 0)) (nomark _)))))
(pss_one (ps_ret pe_int))
pss_nil)
(pss_cons (ps_set (i := 2) sc.nd rfl (Or.inl rfl) (pe_op op_mod (pe_op op_sub (pe_bm PySem.F.plainAttrs_tuple PySem.F.slot_tuple_index PySem.F.type_tuple_index (mt_tup_indexD (hu65 hr)) (pe_glob (v := .ref a_PAIRS) rfl g_PAIRS rfl) (pa_cons (pv 1) pa_nil)) (pe_bm PySem.F.plainAttrs_tuple PySem.F.slot_tuple_index PySem.F.type_tuple_index (mt_tup_indexD (hu65 hr)) (pe_glob (v := .ref a_PAIRS) rfl g_PAIRS rfl) (pa_cons (pe_fldK (K := K) rfl (pv 0)) pa_nil))) pe_int))
(pss_cons (ps_fld (pv 0) (pv 1) rfl)
(pss_cons (ps_if (pt_cmpR op_eq (pv 2) pe_int (nomark _))
(pss_cons (ps_fld (pv 0) (pe_op op_add (pe_fldK (K := K) rfl (pv 0)) pe_int) rfl)
(pss_one (ps_ret (pe_glob (v := .int 2) rfl g_MISSED ⟨_, rfl⟩))))
pss_nil)
(pss_cons (ps_set (i := 3) sc.nd rfl (Or.inl rfl) (pe_ifExp (pt_cmpR op_eq (pv 2) pe_int (nomark _)) (pv 2) (pe_un un_neg pe_int)))
(pss_cons (ps_fld (pv 0) (pe_op op_add (pe_fldK (K := K) rfl (pv 0)) (pv 3)) rfl)
(pss_one (ps_ret (pv 3))))))))))), ?_⟩
    have hmany : ∀ {Q : VK}, Q (.int (manyOf cs z)) H → tIf (tTest (tOp (rEqD K) (tVar 1) (tFld K (tVar 0) "met"))) (tOp rAdd (tFld K (tVar 0) "many") (tC (.int 1))) (tC (.int 1)) [some (.ref p), some v, none, none] H Q := by
      intro Q hQ
      refine ⟨_, rfl, _, rfl, p, C, dx, _, _, rfl, hp, ck.cl, ck.met, rfl, _, _, dp_fz hv, dp_fz hm, shaped_pp _, shaped_met _, _, rfl, ?_⟩
      rw [eqv_met]
      unfold manyOf at hQ
      refine iteB (fun e => ?_) (fun e => ?_)
      · rw [if_pos e] at hQ
        exact ⟨_, rfl, p, C, dx, _, _, rfl, hp, ck.cl, ck.many, rfl, _, _, rfl, rfl, hQ⟩
      · rw [if_neg (by rw [e]; decide)] at hQ
        exact hQ
    refine hmany ⟨_, rfl, p, C, dx, _, rfl, hp, ck.cl, ck.many, few 6 rfl, ?_⟩
    refine ⟨_, rfl, _, rfl, p, C, dx, _, rfl, upd_same, ck.cl, ck.met, few 6 rfl, ?_⟩
    rw [upd_upd]
    refine ⟨_, rfl, p, C, dx, _, _, rfl, upd_same, ck.cl, ck.many, rfl, _, rfl, p, C, dx, _, _, rfl, upd_same, ck.cl, ck.same, rfl, _, _, rfl, rfl, _, rfl, ?_⟩
    have fin : ∀ (kv' : V) (kz t l : Int), Dp K (Fz ps H) kv' (ppD (pr kz)) → lookC cs z = ⟨cs.same, kz, some z, manyOf cs z, t, l⟩ →
        Q (.int (saysC cs z)) (upd H p (.ins C dx [("same", .int cs.same), ("kept", kv'), ("met", v), ("many", .int (manyOf cs z)), ("total", .int t), ("lost", .int l)])) := by
      intro kv' kz t l h e
      refine k _ (Frm.set (by simp)) ?_
      rw [e]
      exact ⟨dx, kv', v, upd_same, by rw [fz_set pps]; exact h, by rw [fz_set pps]; exact hv⟩
    have up : ∀ {o : HO} {v' : V} {d : PyData}, Dp K (Fz ps H) v' d → Dp K (upd H p o) v' d := fun {o v' d} h => dp_fz (ps := ps) (by rw [fz_set pps]; exact h)
    have ret0 : (manyOf cs z < cs.same ∨ cs.kept % 4 = z % 4) → Q (.int 0) (upd H p (.ins C dx [("same", .int cs.same), ("kept", kv), ("met", v), ("many", .int (manyOf cs z)), ("total", .int cs.total), ("lost", .int cs.lost)])) := by
      intro c
      have q := fin kv cs.kept cs.total cs.lost hk (if_pos c)
      have e : saysC cs z = 0 := by
        unfold saysC
        by_cases c1 : manyOf cs z < cs.same
        · exact if_pos c1
        · have c2 := c.resolve_left c1
          rw [if_neg c1]
          exact if_pos (by omega)
      rw [e] at q
      exact q
    refine iteD (fun c1 => ret0 (.inl c1)) (fun c1 => ?_)
    refine ⟨_, rfl, _, rfl, p, C, dx, _, _, rfl, upd_same, ck.cl, ck.kept, rfl, _, _, up hv, up hk, shaped_pp _, shaped_pp _, _, rfl, ?_⟩
    rw [eqv_pr]
    refine iteD (fun c2 => ret0 (.inr c2)) (fun c2 => ?_)
    obtain ⟨j1, e1, h1, n1⟩ := pairs_index z
    obtain ⟨j2, e2, h2, n2⟩ := pairs_index cs.kept
    refine ⟨.inr (.inl ⟨rfl, pk.ty⟩), _, rfl, a_PAIRS, _, _, _, j1, _, rfl, rfl, pk.dp _, up hv, rfl, shaped_pp _, h1, (by rw [eqv_pr]; exact decide_eq_true rfl), n1, ?_⟩
    refine ⟨.inr (.inl ⟨rfl, pk.ty⟩), _, rfl, p, C, dx, _, _, rfl, upd_same, ck.cl, ck.kept, rfl, a_PAIRS, _, _, _, j2, _, rfl, rfl, pk.dp _, up hk, rfl, shaped_pp _, h2, (by rw [eqv_pr]; exact decide_eq_true rfl), n2, ?_⟩
    refine ⟨_, _, rfl, rfl, _, _, rfl, rfl, (by show (0 : Int) < 4; decide), ?_⟩
    have e3 : ((j1 : Int) - (j2 : Int)) % 4 = (z - cs.kept) % 4 := by omega
    refine ⟨_, rfl, _, rfl, p, C, dx, _, rfl, upd_same, ck.cl, ck.kept, few 6 rfl, ?_⟩
    rw [upd_upd]
    have nn : ¬ (manyOf cs z < cs.same ∨ cs.kept % 4 = z % 4) := fun h => h.elim c1 c2
    have says : saysC cs z = tells (z - cs.kept) := if_neg c1
    refine ⟨_, rfl, rfl, _, rfl, ?_⟩
    by_cases c3 : ((j1 : Int) - (j2 : Int)) % 4 = 2
    · refine iteDT (vint_eq c3) ?_
      rw [e3] at c3
      refine ⟨_, rfl, p, C, dx, _, _, rfl, upd_same, ck.cl, ck.lost, rfl, _, _, rfl, rfl, _, rfl, p, C, dx, _, rfl, upd_same, ck.cl, ck.lost, few 6 rfl, ?_⟩
      rw [upd_upd]
      have q := fin v z cs.total (cs.lost + 1) hv (by unfold lookC; rw [if_neg nn, if_pos c3])
      rw [says, show tells (z - cs.kept) = 2 by unfold tells; rw [c3]; decide] at q
      exact q
    · refine iteDF (vint_ne c3) ?_
      refine ⟨_, rfl, rfl, _, rfl, ?_⟩
      by_cases c4 : ((j1 : Int) - (j2 : Int)) % 4 = 1
      · have tl : tells (z - cs.kept) = ((j1 : Int) - (j2 : Int)) % 4 := by unfold tells; rw [← e3, c4]; decide
        have q := fin v z (cs.total + tells (z - cs.kept)) cs.lost hv (by unfold lookC; rw [if_neg nn, if_neg (by rw [← e3]; exact c3)])
        rw [says, tl] at q
        refine iteDT (vint_eq c4) ⟨_, rfl, _, rfl, p, C, dx, _, _, rfl, upd_same, ck.cl, ck.total, rfl, _, rfl, _, _, rfl, rfl, _, rfl, p, C, dx, _, rfl, upd_same, ck.cl, ck.total, few 6 rfl, _, rfl, ?_⟩
        rw [upd_upd]
        exact q
      · have c5 : (z - cs.kept) % 4 = 3 := by omega
        have q := fin v z (cs.total + tells (z - cs.kept)) cs.lost hv (by unfold lookC; rw [if_neg nn, if_neg (by rw [← e3]; exact c3)])
        rw [says, show tells (z - cs.kept) = -1 by unfold tells; rw [c5]; decide] at q
        refine iteDF (vint_ne c4) ⟨_, rfl, _, rfl, p, C, dx, _, _, rfl, upd_same, ck.cl, ck.total, rfl, _, rfl, _, _, rfl, rfl, _, rfl, p, C, dx, _, rfl, upd_same, ck.cl, ck.total, few 6 rfl, _, rfl, ?_⟩
        rw [upd_upd]
        exact q
theorem sc_count : FnScope ["self"] ["self"] (defScope (inClass (top 19) 2)) := ⟨rfl, rfl, rfl, by decide +kernel, rfl, by decide +kernel, by decide +kernel⟩
theorem ok_count {f C : Addr} {fd : FuncData} (F : Fun K "count" "Counter.count" (inClass (top 19) 2) f fd) (ck : CtrK K C) : FnOk P w K mg base CX0 1 f fd ["self"] (spCount K C) := by
  have sc := sc_count
  refine F.ok sc (fun vs H Q E h => ?_) (fun cdv A outer s H vs Q E hr h => ?_)
  · obtain ⟨x, s, ps, rfl, _⟩ := h
    rfl
  · obtain ⟨p, cs, ps, rfl, ⟨dx, kv, mv, hp, _, _⟩, k⟩ := h
    exact ⟨_, (pss_one (ps_ret (pe_fldK (K := K) rfl (pv 0)))), _, rfl, p, C, dx, _, _, rfl, hp, ck.cl, ck.total, rfl, k⟩
theorem sc_missed : FnScope ["self"] ["self"] (defScope (inClass (top 19) 3)) := ⟨rfl, rfl, rfl, by decide +kernel, rfl, by decide +kernel, by decide +kernel⟩
theorem ok_missed {f C : Addr} {fd : FuncData} (F : Fun K "missed" "Counter.missed" (inClass (top 19) 3) f fd) (ck : CtrK K C) : FnOk P w K mg base CX0 1 f fd ["self"] (spMissed K C) := by
  have sc := sc_missed
  refine F.ok sc (fun vs H Q E h => ?_) (fun cdv A outer s H vs Q E hr h => ?_)
  · obtain ⟨x, s, ps, rfl, _⟩ := h
    rfl
  · obtain ⟨p, cs, ps, rfl, ⟨dx, kv, mv, hp, _, _⟩, k⟩ := h
    exact ⟨_, (pss_one (ps_ret (pe_fldK (K := K) rfl (pv 0)))), _, rfl, p, C, dx, _, _, rfl, hp, ck.cl, ck.lost, rfl, k⟩
end
/-! ### the last looks, all alike by 4 -/
def LastSame (k : Nat) (l : List Int) : Prop := k ≤ l.length ∧ ∀ x ∈ l.drop (l.length - k), x % 4 = (l.getLast?.getD 0) % 4
instance (k : Nat) (l : List Int) : Decidable (LastSame k l) := by unfold LastSame; infer_instance
/-- a counter that saw these places, in order -/
structure Saw (l : List Int) (s : CS) : Prop where
  met : s.met = l.getLast?
  many : ∀ k : Nat, 1 ≤ k → ((k : Int) ≤ s.many ↔ LastSame k l)
theorem saw_new (n : Int) : Saw [] (newC n) := ⟨rfl, fun k hk => by
  constructor
  · intro h
    have : (k : Int) ≤ 0 := h
    omega
  · intro h
    have := h.1
    simp at this
    omega⟩
theorem lastSame_snoc {l : List Int} {z : Int} {k : Nat} (hk : 1 ≤ k) : LastSame (k + 1) (l ++ [z]) ↔ LastSame k l ∧ seenAs l.getLast? z = true := by
  unfold LastSame
  rw [List.length_append, List.length_singleton, show l.length + 1 - (k + 1) = l.length - k by omega]
  cases e : l.getLast? with
  | none =>
    have : l = [] := List.getLast?_eq_none_iff.mp e
    subst this
    simp [seenAs]
    omega
  | some y =>
    have hy : y ∈ l.drop (l.length - k) ∨ l.length < k := by
      by_cases h : l.length < k
      · exact .inr h
      · refine .inl ?_
        have hne : l ≠ [] := fun z => by rw [z] at e; cases e
        have hpos := List.length_pos_iff.mpr hne
        have h2 : (l.drop (l.length - k)).getLast? = some y := by
          rw [List.getLast?_drop, if_neg (by omega)]
          exact e
        exact List.mem_of_getLast? h2
    rw [List.drop_append_of_le_length (by omega), List.getLast?_append]
    simp only [List.getLast?_singleton, Option.some_or, Option.getD_some, List.mem_append, List.mem_singleton, seenAs, decide_eq_true_eq]
    constructor
    · rintro ⟨h1, h2⟩
      have hl : k ≤ l.length := by omega
      have hyz := h2 y (.inl (hy.resolve_right (by omega)))
      exact ⟨⟨hl, fun x hx => (h2 x (.inl hx)).trans hyz.symm⟩, hyz⟩
    · rintro ⟨⟨h1, h2⟩, h3⟩
      refine ⟨by omega, fun x hx => ?_⟩
      rcases hx with hx | rfl
      · exact (h2 x hx).trans h3
      · rfl
theorem lastSame_one {l : List Int} {z : Int} : LastSame 1 (l ++ [z]) := by
  unfold LastSame
  rw [List.length_append, List.length_singleton, Nat.add_sub_cancel]
  refine ⟨by omega, fun x hx => ?_⟩
  simp at hx
  simp [hx]
theorem Saw.many_snoc {l : List Int} {s : CS} (h : Saw l s) (z : Int) (k : Nat) (hk : 1 ≤ k) : (k : Int) ≤ manyOf s z ↔ LastSame k (l ++ [z]) := by
  unfold manyOf
  rw [h.met]
  match k, hk with
  | 1, _ =>
    refine ⟨fun _ => lastSame_one, fun _ => ?_⟩
    by_cases c : seenAs l.getLast? z = true
    · rw [if_pos c]
      have : 1 ≤ l.length := by
        cases l with
        | nil => simp [seenAs] at c
        | cons _ _ => simp
      have h1 := (h.many 1 (Nat.le_refl _)).mpr (by
        obtain ⟨l', y, e⟩ : ∃ l' y, l = l' ++ [y] := ⟨l.dropLast, l.getLast (by intro z; rw [z] at this; simp at this), (List.dropLast_concat_getLast _).symm⟩
        rw [e]; exact lastSame_one)
      omega
    · rw [if_neg c]; omega
  | k + 2, _ =>
    rw [lastSame_snoc (by omega)]
    by_cases c : seenAs l.getLast? z = true
    · rw [if_pos c, ← h.many (k + 1) (by omega)]
      constructor
      · intro q; exact ⟨by omega, c⟩
      · intro q; have := q.1; omega
    · rw [if_neg c]
      constructor
      · intro q; omega
      · intro q; exact (c q.2).elim
theorem look_met (s : CS) (z : Int) : (lookC s z).met = some z := by unfold lookC; split <;> (try split) <;> rfl
theorem look_many (s : CS) (z : Int) : (lookC s z).many = manyOf s z := by unfold lookC; split <;> (try split) <;> rfl
theorem look_same (s : CS) (z : Int) : (lookC s z).same = s.same := by unfold lookC; split <;> (try split) <;> rfl
theorem Saw.look {l : List Int} {s : CS} (h : Saw l s) (z : Int) : Saw (l ++ [z]) (lookC s z) := by
  refine ⟨by rw [look_met]; simp, fun k hk => ?_⟩
  rw [look_many]
  exact h.many_snoc z k hk
/-- what is told of the last looks -/
def toldOf (same : Nat) (l : List Int) (bel : Int) : Int := if LastSame same l then tells (l.getLast?.getD 0 - bel) else 0
theorem tells_mod {y z : Int} (h : y % 4 = z % 4) : tells y = tells z := by unfold tells; rw [h]
theorem Saw.says {l : List Int} {s : CS} (h : Saw l s) (z : Int) (k : Nat) (hk : 1 ≤ k) (hs : s.same = k) : saysC s z = toldOf k (l ++ [z]) s.kept := by
  unfold saysC toldOf
  have q := h.many_snoc z k hk
  rw [hs]
  by_cases c : LastSame k (l ++ [z])
  · rw [if_neg (by have := q.mpr c; omega), if_pos c]
    simp
  · rw [if_pos (Int.not_le.mp fun w => c (q.mp w)), if_neg c]
theorem look_next (s : CS) (z : Int) : (lookC s z).kept = (if saysC s z ≠ 0 then z else s.kept) ∧ (lookC s z).total = s.total + (if saysC s z ≠ 2 then saysC s z else 0) ∧ (lookC s z).lost = s.lost + (if saysC s z = 2 then 1 else 0) := by
  unfold lookC saysC
  by_cases c1 : manyOf s z < s.same
  · rw [if_pos (Or.inl c1), if_pos c1]; simp
  · rw [if_neg c1]
    by_cases c2 : s.kept % 4 = z % 4
    · have : tells (z - s.kept) = 0 := if_pos (by omega)
      rw [if_pos (Or.inr c2), this]; simp
    · rw [if_neg (by intro h; exact h.elim c1 c2)]
      unfold tells
      rw [if_neg (show ¬ (z - s.kept) % 4 = 0 by omega)]
      by_cases c3 : (z - s.kept) % 4 = 2
      · rw [if_pos c3, if_neg (show ¬ (z - s.kept) % 4 = 1 by omega), if_pos c3]; simp
      · rw [if_neg c3]
        by_cases c4 : (z - s.kept) % 4 = 1
        · rw [if_pos c4]; simp
        · rw [if_neg c4, if_neg c3]; simp
/-! ### which moments are looks; what a run tells -/
def nlk (i a : Nat) : Nat := (i + a - 1) / a
theorem nlk_step {a i : Nat} (h1 : 1 ≤ a) (h6 : a ≤ 6) : (i % a = 0 → nlk (i + 1) a = nlk i a + 1 ∧ nlk i a * a = i) ∧ (i % a ≠ 0 → nlk (i + 1) a = nlk i a) := by
  unfold nlk
  have : a = 1 ∨ a = 2 ∨ a = 3 ∨ a = 4 ∨ a = 5 ∨ a = 6 := by omega
  rcases this with rfl | rfl | rfl | rfl | rfl | rfl <;> omega
theorem nlk_lt {a i j : Nat} (h1 : 1 ≤ a) (h6 : a ≤ 6) : j < nlk i a ↔ j * a < i := by
  unfold nlk
  have : a = 1 ∨ a = 2 ∨ a = 3 ∨ a = 4 ∨ a = 5 ∨ a = 6 := by omega
  rcases this with rfl | rfl | rfl | rfl | rfl | rfl <;> omega
theorem nlk_le {a i : Nat} (h1 : 1 ≤ a) (h6 : a ≤ 6) : nlk i a ≤ i := by
  unfold nlk
  have : a = 1 ∨ a = 2 ∨ a = 3 ∨ a = 4 ∨ a = 5 ∨ a = 6 := by omega
  rcases this with rfl | rfl | rfl | rfl | rfl | rfl <;> omega
def lkf (f : Nat → Int) (j : Nat) : List Int := (List.range j).map f
theorem lkf_succ (f : Nat → Int) (j : Nat) : lkf f (j + 1) = lkf f j ++ [f j] := by
  unfold lkf
  rw [List.range_succ, List.map_append]
  rfl
theorem lkf_length (f : Nat → Int) (j : Nat) : (lkf f j).length = j := by unfold lkf; simp
/-- where the knob is seen at moment i -/
def seenAt (row : List Mv) (i : Nat) : Int := ((plcs row)[i]?.getD (0, 0)).2
def lookAt (row : List Mv) (a : Nat) (j : Nat) : Int := seenAt row (j * a)
def runS (s : CS) (zs : List Int) : CS := zs.foldl lookC s
theorem runS_snoc (s : CS) (zs : List Int) (z : Int) : runS s (zs ++ [z]) = lookC (runS s zs) z := by
  unfold runS
  rw [List.foldl_append]
  rfl
def tolds (s : CS) : List Int → List Int
  | [] => []
  | z :: r => saysC s z :: tolds (lookC s z) r
theorem tolds_snoc (z : Int) : ∀ (zs : List Int) (s : CS), tolds s (zs ++ [z]) = tolds s zs ++ [saysC (runS s zs) z]
  | [], _ => rfl
  | y :: r, s => by
    show saysC s y :: tolds (lookC s y) (r ++ [z]) = _
    rw [tolds_snoc z r]
    rfl
theorem tolds_length : ∀ (zs : List Int) (s : CS), (tolds s zs).length = zs.length
  | [], _ => rfl
  | _ :: r, s => congrArg (· + 1) (tolds_length r _)
/-- all that a run looks at -/
def runL (row : List Mv) (a : Nat) : List Int := lkf (lookAt row a) (nlk row.length a)
theorem runS_same (s : CS) : ∀ zs : List Int, (runS s zs).same = s.same := by
  intro zs
  induction zs generalizing s with
  | nil => rfl
  | cons z r ih => exact (ih (lookC s z)).trans (look_same s z)
theorem saw_run (s : CS) (l : List Int) (h : Saw l s) : ∀ zs : List Int, Saw (l ++ zs) (runS s zs) := by
  intro zs
  induction zs generalizing s l with
  | nil => rw [List.append_nil]; exact h
  | cons z r ih =>
    have := ih (lookC s z) (l ++ [z]) (h.look z)
    rw [List.append_assoc] at this
    exact this
theorem tells_two (z : Int) : tells z = 0 ∨ tells z = 1 ∨ tells z = 2 ∨ tells z = -1 := by unfold tells; split <;> (try split) <;> (try split) <;> simp
/-- the sums of what is told -/
theorem sums_run (s : CS) : ∀ zs : List Int, (runS s zs).total = s.total + (tolds s zs).sum - 2 * ((tolds s zs).count 2 : Nat) ∧ (runS s zs).lost = s.lost + ((tolds s zs).count 2 : Nat) := by
  intro zs
  induction zs generalizing s with
  | nil => constructor <;> simp [runS, tolds]
  | cons z r ih =>
    obtain ⟨h1, h2⟩ := ih (lookC s z)
    obtain ⟨_, e2, e3⟩ := look_next s z
    show (runS (lookC s z) r).total = s.total + (saysC s z :: tolds (lookC s z) r).sum - 2 * ((saysC s z :: tolds (lookC s z) r).count 2 : Nat) ∧ (runS (lookC s z) r).lost = s.lost + ((saysC s z :: tolds (lookC s z) r).count 2 : Nat)
    rw [h1, h2, e2, e3, List.sum_cons, List.count_cons]
    by_cases c : saysC s z = 2
    · rw [if_neg (by simp [c]), if_pos c, c]; simp; omega
    · rw [if_pos c, if_neg c, if_neg (by simp [c])]; omega
/-! ### run -/
def spRun (K : PySem.W.Frag) : Sp := fun vs H Q _ => ∃ (v r u : V) (g b a s : Int) (row : List Mv), vs = [v, r, u] ∧ Dp K H v (knD g b) ∧ 1 ≤ g ∧ g ≤ 6 ∧ 0 ≤ b ∧ b ≤ g ∧ Dp K H r (knD a s) ∧ 1 ≤ a ∧ a ≤ 6 ∧ 1 ≤ s ∧ s ≤ 3 ∧ Dp K H u (rowD row) ∧ Good g b row ∧
  ∀ (p l : Addr) (H' : Hp), H p = none → H l = none → Same H H' → H' p = some (.tup [.ref l, .int (runS (newC s) (runL row a.toNat)).total, .int (runS (newC s) (runL row a.toNat)).lost]) →
    H' l = some (.lst ((tolds (newC s) (runL row a.toNat)).map V.int)) → Q (.ref p) H'
section
variable {P : Program} {w : World} {K : PySem.W.Frag} {mg : Str → Option Value} {base : Heap}
theorem sc_run : FnScope ["knob", "reader", "row", "counter", "told", "at", "here", "seen"] ["knob", "reader", "row"] (defScope (top 20)) := ⟨rfl, rfl, rfl, by decide +kernel, rfl, by decide +kernel, by decide +kernel⟩
set_option maxHeartbeats 1000000 in
theorem ok_run {f C a_PAIRS p0 p1 p2 p3 : Addr} {fd : FuncData} (F : Fun K "run" "run" (top 20) f fd) (ck : CtrK K C) (g_PAIRS : mg "PAIRS" = some (.ref a_PAIRS)) (pk : PairsK K a_PAIRS p0 p1 p2 p3) (n_enumerate : mg "enumerate" = none)
    (c_need_knob : Cal P w K mg base 1 "need_knob" ["knob"] (spNeedKnob K)) (c_need_reader : Cal P w K mg base 1 "need_reader" ["reader"] (spNeedReader K)) (c_need_row : Cal P w K mg base 1 "need_row" ["knob", "row"] (spNeedRow K)) (c_positions : Cal P w K mg base 1 "positions" ["row"] (spPos K))
    (m_Counter : Mkr P w K mg base 2 C "Counter" ["self", "reader"] (spCtr K C)) (m_look : Mtd P w K mg base 1 C "look" ["self", "pair"] (spLook K C)) (m_count : Mtd P w K mg base 1 C "count" ["self"] (spCount K C)) (m_missed : Mtd P w K mg base 1 C "missed" ["self"] (spMissed K C)) :
    FnOk P w K mg base CX0 4 f fd ["knob", "reader", "row"] (spRun K) := by
  have sc := sc_run
  have cl := ck.cl
  refine F.ok sc (fun vs H Q E h => ?_) (fun cdv A outer s H vs Q E hr h => ?_)
  · obtain ⟨v, r, u, g, b, a, s, row, rfl, _⟩ := h
    rfl
  · obtain ⟨v, r, u, g, b, a, sm, row, rfl, hkn, g1, g6, b0, b1, hrd, a1, a6, s1, s3, hrow, hG, k⟩ := h
    obtain ⟨an, rfl⟩ := Int.eq_ofNat_of_zero_le (show 0 ≤ a by omega)
    have han : (an : Int).toNat = an := Int.toNat_natCast an
    rw [han] at k
    have hl200 := hG.len
    refine ⟨_, (pss_cons (ps_expr (pe_cal c_need_knob (hr.mono (by first | decide | omega)) (pa_cons (pv 0) pa_nil)))
(pss_cons (ps_expr (pe_cal c_need_reader (hr.mono (by first | decide | omega)) (pa_cons (pv 1) pa_nil)))
(pss_cons (ps_expr (pe_cal c_need_row (hr.mono (by first | decide | omega)) (pa_cons (pv 0) (pa_cons (pv 2) pa_nil))))
(pss_cons (ps_set (i := 3) sc.nd rfl (Or.inl rfl) (pe_mkr m_Counter (hr.mono (by first | decide | omega)) (pa_cons (pv 1) pa_nil)))
(pss_cons (ps_set (i := 4) sc.nd rfl (Or.inl rfl) (pe_lst pa_nil))
(pss_cons (ps_for PassesOwn.never rfl (pi_enum (by rfl) n_enumerate (pa_cons (pe_cal c_positions (hr.mono (by first | decide | omega)) (pa_cons (pv 2) pa_nil)) pa_nil)) (pg_tup rfl (pgs_cons (pg_name (i := 5) sc.nd rfl (Or.inl rfl)) (pgs_cons (pg_tup rfl (pgs_cons (pg_name (i := 6) sc.nd rfl (Or.inl rfl)) (pgs_cons (pg_name (i := 7) sc.nd rfl (Or.inl rfl)) pgs_nil))) pgs_nil)))
(pss_one (ps_if (pt_cmpR op_eq (pe_op op_mod (pv 5) (pe_ix (r := rIxT K) ix_tup (pv 1) pe_int (fun _ _ => rfl))) pe_int (nomark _))
(pss_one (ps_expr (pe_bm PySem.F.plainAttrs_list PySem.F.slot_list_append PySem.F.type_list_append mt_append (pv 4) (pa_cons (pe_mtd m_look cl (hr.mono (by first | decide | omega)) (pv 3) (pa_cons (pe_ix (r := rIxT K) ix_tup (pe_glob (v := .ref a_PAIRS) rfl g_PAIRS rfl) (pe_op op_mod (pv 7) pe_int) (fun _ _ => rfl)) pa_nil)) pa_nil))))
pss_nil)))
(pss_one (ps_ret (pe_tup (pa_cons (pv 4) (pa_cons (pe_mtd0 m_count cl (hr.mono (by first | decide | omega)) (pv 3)) (pa_cons (pe_mtd0 m_missed cl (hr.mono (by first | decide | omega)) (pv 3)) pa_nil)))))))))))), ?_⟩
    refine ⟨_, rfl, v, g, b, rfl, hkn, g1, g6, b0, b1, ?_⟩
    refine ⟨_, rfl, r, an, sm, rfl, hrd, a1, a6, s1, s3, ?_⟩
    refine ⟨_, rfl, _, rfl, v, u, g, b, row, rfl, hkn, hrow, hG, fun H1 s1' => ?_⟩
    -- the counter
    refine ⟨_, rfl, fun c dx hc hdx nec => ?_⟩
    have sA : Same H1 (upd (upd H1 dx (.own c)) c (.ins C dx [])) := (same_new hdx).trans (same_new (by rw [upd_ne nec.symm]; exact hc))
    refine ⟨c, dx, r, an, sm, rfl, upd_same, dp_same (s1'.trans sA) hrd, a1, a6, s1, s3, fun H2 fr2 hct2 => ⟨rfl, ?_⟩⟩
    have s12 : Same H1 H2 := fun b o e => fr2 b o (by simpa using ne_of_none e hc) (sA b o e)
    refine ⟨Nat.zero_le _, fun t ht => ?_⟩
    have st := same_new ht (o := .lst [])
    obtain ⟨oc, hoc⟩ := hct2.live
    have nct : c ≠ t := ne_of_none hoc ht
    -- the positions
    have hcH : H c = none := s1'.free hc
    have htH : H t = none := (s1'.trans s12).free ht
    refine ⟨_, rfl, u, row, [t, c], rfl, live_cons upd_same (live_cons (st _ _ hoc) live_nil), dp_same (same_fz (by simp [hcH, htH]) ((s1'.trans s12).trans st)) hrow, by omega, fun l xs H3 hl s3' hxl hX => ?_⟩
    have hcl : c ≠ l := ne_of_none (st _ _ hoc) hl
    have htl : t ≠ l := ne_of_none upd_same hl
    have xl : xs.length = row.length := by rw [dpa_length hX, List.length_map, plcs_length]
    obtain ⟨q, rfl, hrT⟩ := dp_ii hrd
    have sH3 : Same H H3 := ((s1'.trans s12).trans st).trans s3'
    have same_of : ∀ {H' : Hp}, Frm [c, t] H3 H' → Same H H' := fun {H'} fr b o e => fr b o (by
      intro hm
      simp only [List.mem_cons, List.not_mem_nil, or_false] at hm
      rcases hm with rfl | rfl
      · rw [hcH] at e; cases e
      · rw [htH] at e; cases e) (sH3 b o e)
    refine ⟨l, xs, rfl, SqL.of hxl, for_it (walk_enum (xs := xs)) (fun i σ H' => ∃ v5 v6 v7, σ = [some v, some (.ref q), some u, some (.ref c), some (.ref t), v5, v6, v7] ∧ Frm [c, t] H3 H' ∧
        H' t = some (.lst ((tolds (newC sm) (lkf (lookAt row an) (nlk i an))).map V.int)) ∧ CtrAt K C [c, t] H' c (runS (newC sm) (lkf (lookAt row an) (nlk i an)))) ?_ ?_ ?_ ?_⟩
    · have e0 : nlk 0 an = 0 := by have := nlk_le (i := 0) (a := an) (by omega) (by omega); omega
      rw [e0]
      exact ⟨none, none, none, rfl, Frm.refl, s3' _ _ upd_same, (hct2.mono ((st.trans s3') _)).ctr⟩
    · rintro i σ H' _ ⟨_, _, _, _, fr, _⟩
      exact SqL.of (fr _ _ (by simp [hcl.symm, htl.symm]) hxl)
    · rintro i x σ H4 H5 hi ⟨v5, v6, v7, rfl, fr4, ht4, hc4⟩ ⟨T, y, z, rfl, hT0, rfl, hy, hz⟩
      cases hy
      have sT := same_new hT0 (o := .tup [.int ((i : Nat) : Int), z])
      obtain ⟨⟨h0, se⟩, hm, hz2⟩ := dpa_map_at hX hz
      have hzz : Dp K H4 z (ppD (h0, se)) := dp_fz (dp_same (Frm.fz (Frm.mono (qs := [l, t, c]) (by intro x hx; simp at hx ⊢; rcases hx with h | h <;> simp [h]) fr4)) hz2)
      obtain ⟨qz, rfl, hq⟩ := dp_ii (dp_same sT hzz)
      have hcT : H4 c ≠ none := by obtain ⟨_, _, _, e, _⟩ := hc4; rw [e]; simp
      have ncT : c ≠ T := fun e => hcT (by rw [e]; exact hT0)
      have hc5 : CtrAt K C [c, t] (upd H4 T (.tup [.int ((i : Nat) : Int), .ref qz])) c (runS (newC sm) (lkf (lookAt row an) (nlk i an))) := hc4.frm (fz_mono sT) (sT _)
      have ht5 := sT _ _ ht4
      have fr5 : Frm [c, t] H3 (upd H4 T (.tup [.int ((i : Nat) : Int), .ref qz])) := fr4.trans (Frm.of_same sT)
      have hT5 : (upd H4 T (.tup [.int ((i : Nat) : Int), .ref qz])) T = some (.tup [.int ((i : Nat) : Int), .ref qz]) := upd_same
      revert hc5 ht5 fr5 hq hT5
      generalize upd H4 T (.tup [.int ((i : Nat) : Int), .ref qz]) = H5
      intro hq hc5 ht5 fr5 hT5
      have hil : i < row.length := by omega
      have e1 : lookAt row an (nlk i an) = se ∨ i % an ≠ 0 := by
        by_cases c : i % an = 0
        · left
          unfold lookAt seenAt
          rw [((nlk_step (by omega) (by omega)).1 c).2, hm]
          rfl
        · exact .inr c
      refine ⟨T, _, rfl, SqT.of hT5, rfl, _, _, rfl, _, _, rfl, qz, _, rfl, hq, rfl, _, _, rfl, _, _, rfl, rfl, rfl, ?_⟩
      refine ⟨_, rfl, _, rfl, q, _, _, _, rfl, rfl, same_seqT (same_of fr5) hrT, at_of (j := 0) rfl rfl, _, _, rfl, rfl, (by show (0 : Int) < (an : Int); omega), rfl, _, rfl, ?_⟩
      by_cases cm : i % an = 0
      · have ez : ((i : Nat) : Int) % (an : Int) = 0 := by have := Int.natCast_emod i an; rw [← this, cm]; rfl
        have hse := e1.resolve_right (fun z => z cm)
        obtain ⟨pp, hp1, hp2⟩ := pk.at se
        obtain ⟨dxc, kvc, mvc, hcc, _⟩ := id hc5
        have hlen : (lkf (lookAt row an) (nlk i an)).length ≤ 200 := by rw [lkf_length]; have := nlk_le (i := i) (a := an) (by omega) (by omega); omega
        refine iteDT (vint_eq ez) ⟨_, rfl, .inl ⟨rfl, _, SqL.of ht5⟩, _, rfl, c, dxc, _, rfl, hcc, rfl, _, rfl, _, _, rfl, rfl, (by show (0 : Int) < 4; decide), a_PAIRS, _, _, .ref pp, rfl, rfl, pk.all _, hp1, ?_⟩
        refine ⟨c, .ref pp, _, se, [c, t], rfl, hc5, by simp, hp2 _, fun H6 fr6 hc6 => ?_⟩
        have ht6 := fr6 _ _ (by simpa using nct.symm) ht5
        refine ⟨t, _, _, rfl, rfl, ht6, small1000 (by rw [List.length_map, tolds_length]; omega), _, _, _, rfl, ?_, ?_, ?_⟩
        · exact (fr5.trans (Frm.mono (by simp) fr6)).trans (Frm.set (by simp))
        · rw [upd_same, ((nlk_step (by omega) (by omega)).1 cm).1, lkf_succ, tolds_snoc, hse, List.map_append]; rfl
        · rw [((nlk_step (by omega) (by omega)).1 cm).1, lkf_succ, runS_snoc, hse]
          exact hc6.frm (by rw [fz_set (by simp)]; exact Same.refl _) fun o ho => by rw [upd_ne nct]; exact ho
      · have ez : ¬ ((i : Nat) : Int) % (an : Int) = 0 := by have := Int.natCast_emod i an; omega
        refine iteDF (vint_ne ez) ⟨_, _, _, rfl, fr5, ?_, ?_⟩
        · rw [(nlk_step (by omega) (by omega)).2 cm]; exact ht5
        · rw [(nlk_step (by omega) (by omega)).2 cm]; exact hc5
    · rintro σ H4 ⟨v5, v6, v7, rfl, fr4, ht4, hc4⟩
      rw [xl] at ht4 hc4
      obtain ⟨dxc, kvc, mvc, hcc, _⟩ := id hc4
      refine ⟨_, rfl, _, rfl, c, dxc, _, rfl, hcc, rfl, c, _, [c, t], rfl, hc4, _, rfl, c, dxc, _, rfl, hcc, rfl, c, _, [c, t], rfl, hc4, (by show 3 ≤ sizeLine; decide), fun p hp => ?_⟩
      have sp := same_new hp (o := .tup [.ref t, .int (runS (newC sm) (lkf (lookAt row an) (nlk row.length an))).total, .int (runS (newC sm) (lkf (lookAt row an) (nlk row.length an))).lost])
      exact k p t _ ((same_of fr4).free hp) htH ((same_of fr4).trans sp) upd_same (sp _ _ ht4)
end
/-! ### errors of the program: made, raised, by what they say -/
section
open PySem PySem.Spec PyProof.Rows L2
/-- what the written part says of the class that the others rest on -/
structure BaseC (K : PySem.W.Frag) (B : Addr) : Prop where
  ga : PySem.W.specialIn K (.ref B) "__getattribute__" = some (some (.builtin "type.__getattribute__"))
  rd : PySem.W.readsIn K B (.type "type") = true
  ini : PySem.W.findCls K (.ref B) (.type "type") "__init__" = some (.val (.builtin "ValueError.__init__"))
/-- Base.__init__(self, ..) -/
theorem pe_binit {X : Cx} {x : Str} {B : Addr} {e : Expr} {es : List Expr} {ta : TA} {p1 p2 pos : Pos} {pl : Sem Bool} (hg : Gl X x) (hm : X.mg x = some (.ref B)) (T : BaseC X.K B) (ha : PA X (e :: es) ta)
    (hdb : (x == ("__debug__" : Str)) = false := by decide)
    (hc : eval (.Call (.Attribute (.Name x p1) "__init__" p2) (e :: es) [] pos) X.env = (eval (.Name x p1) X.env >>= fun ov => standAt p2.atName >>= fun _ => holding [ov] (getMethod ov "__init__" pl) >>= fun q => callWith pos q.1 q.2 (backTo pos (starEach (e :: es) X.env)) (backToKw pos (keywordEach [] X.env))) := by rfl)
    (he : starEach (e :: es) X.env = (false, eval e X.env) :: starEach es X.env := by rfl) (hpl : (backTo pos (starEach es X.env)).any (·.1) = false := by rfl) :
    PE X (.Call (.Attribute (.Name x p1) "__init__" p2) (e :: es) [] pos) (tVeI X.K ta) := by
  refine ⟨fun pins s σ H Q I h => PySem.W.methodCall_KW (pl := pl) (ld_glob I hg hm ?_ hdb) hc⟩
  refine PySem.W.method_cls I.kIn T.ga (PySem.W.cls_value I.kIn T.rd T.ini (by decide +kernel) ?_)
  refine PyProof.Rows.callWith_method1 (thn (ha.run pos pins _ σ H _ (I.tok _) h) fun us s1 z => ?_) he hpl
  obtain ⟨vs, H1, J, rv, a, C, ws, rfl, hl, TC, ea, q⟩ := z
  cases rv with
  | cons ra rt =>
    cases ra
    exact oinit_ok TC J ea (by rw [← Paired.length rt, sizeLine_eq]; omega) fun s2 J2 => ⟨.non, H1, J2, rfl, q⟩
end
def spBadI (C : Addr) (fl : Str) : Sp := fun vs H Q _ => ∃ (a : Addr) (y : V), vs = [.ref a, y] ∧ H a = some (exo a C none) ∧ ∀ dx, H dx = none → dx ≠ a → Q .non (upd (upd H dx (exd dx [(fl, y)])) a (exo a C (some dx)))
section
variable {P : Program} {w : World} {K : PySem.W.Frag} {mg : Str → Option Value} {base : Heap}
theorem sc_bki : FnScope ["self", "why"] ["self", "why"] (defScope (inClass (top 2) 0)) := ⟨rfl, rfl, rfl, by decide +kernel, rfl, by decide +kernel, by decide +kernel⟩
theorem sc_bri : FnScope ["self", "why"] ["self", "why"] (defScope (inClass (top 3) 0)) := ⟨rfl, rfl, rfl, by decide +kernel, rfl, by decide +kernel, by decide +kernel⟩
theorem sc_bwi : FnScope ["self", "at"] ["self", "at"] (defScope (inClass (top 4) 0)) := ⟨rfl, rfl, rfl, by decide +kernel, rfl, by decide +kernel, by decide +kernel⟩
theorem sc_bti : FnScope ["self", "at"] ["self", "at"] (defScope (inClass (top 5) 0)) := ⟨rfl, rfl, rfl, by decide +kernel, rfl, by decide +kernel, by decide +kernel⟩
theorem ok_bki {f B C : Addr} {fd : FuncData} (F : Fun K "__init__" "BadKnob.__init__" (inClass (top 2) 0) f fd) (g_KnobError : mg "KnobError" = some (.ref B)) (tb : BaseC K B) (tc : OexC K C) (hno : PySem.W.findIn K (.ref C) "why" = some none) : FnOk P w K mg base CX0 1 f fd ["self", "why"] (spBadI C "why") := by
  refine F.ok sc_bki (fun vs H Q E h => ?_) (fun cdv A outer s H vs Q E hr h => ?_)
  · obtain ⟨a, y, rfl, _⟩ := h
    rfl
  · obtain ⟨a, y, rfl, ha, k⟩ := h
    refine ⟨_, pss_cons (ps_expr (pe_binit rfl g_KnobError tb (pa_cons (pv 0) (pa_cons (pv 1) pa_nil)))) (pss_one (ps_ost (pv 0) (pv 1))), ?_⟩
    exact ⟨_, rfl, _, rfl, a, C, [y], rfl, (by show 1 ≤ 1000; decide), tc, ha, _, rfl, _, rfl, a, C, rfl, tc, hno, .inl ⟨ha, k⟩⟩
theorem ok_bri {f B C : Addr} {fd : FuncData} (F : Fun K "__init__" "BadReader.__init__" (inClass (top 3) 0) f fd) (g_KnobError : mg "KnobError" = some (.ref B)) (tb : BaseC K B) (tc : OexC K C) (hno : PySem.W.findIn K (.ref C) "why" = some none) : FnOk P w K mg base CX0 1 f fd ["self", "why"] (spBadI C "why") := by
  refine F.ok sc_bri (fun vs H Q E h => ?_) (fun cdv A outer s H vs Q E hr h => ?_)
  · obtain ⟨a, y, rfl, _⟩ := h
    rfl
  · obtain ⟨a, y, rfl, ha, k⟩ := h
    refine ⟨_, pss_cons (ps_expr (pe_binit rfl g_KnobError tb (pa_cons (pv 0) (pa_cons (pv 1) pa_nil)))) (pss_one (ps_ost (pv 0) (pv 1))), ?_⟩
    exact ⟨_, rfl, _, rfl, a, C, [y], rfl, (by show 1 ≤ 1000; decide), tc, ha, _, rfl, _, rfl, a, C, rfl, tc, hno, .inl ⟨ha, k⟩⟩
theorem ok_bwi {f B C : Addr} {fd : FuncData} (F : Fun K "__init__" "BadRow.__init__" (inClass (top 4) 0) f fd) (g_KnobError : mg "KnobError" = some (.ref B)) (tb : BaseC K B) (tc : OexC K C) (hno : PySem.W.findIn K (.ref C) "at" = some none) : FnOk P w K mg base CX0 1 f fd ["self", "at"] (spBadI C "at") := by
  refine F.ok sc_bwi (fun vs H Q E h => ?_) (fun cdv A outer s H vs Q E hr h => ?_)
  · obtain ⟨a, y, rfl, _⟩ := h
    rfl
  · obtain ⟨a, y, rfl, ha, k⟩ := h
    refine ⟨_, pss_cons (ps_expr (pe_binit rfl g_KnobError tb (pa_cons (pv 0) (pa_cons (pv 1) pa_nil)))) (pss_one (ps_ost (pv 0) (pv 1))), ?_⟩
    exact ⟨_, rfl, _, rfl, a, C, [y], rfl, (by show 1 ≤ 1000; decide), tc, ha, _, rfl, _, rfl, a, C, rfl, tc, hno, .inl ⟨ha, k⟩⟩
theorem ok_bti {f B C : Addr} {fd : FuncData} (F : Fun K "__init__" "BadText.__init__" (inClass (top 5) 0) f fd) (g_KnobError : mg "KnobError" = some (.ref B)) (tb : BaseC K B) (tc : OexC K C) (hno : PySem.W.findIn K (.ref C) "at" = some none) : FnOk P w K mg base CX0 1 f fd ["self", "at"] (spBadI C "at") := by
  refine F.ok sc_bti (fun vs H Q E h => ?_) (fun cdv A outer s H vs Q E hr h => ?_)
  · obtain ⟨a, y, rfl, _⟩ := h
    rfl
  · obtain ⟨a, y, rfl, ha, k⟩ := h
    refine ⟨_, pss_cons (ps_expr (pe_binit rfl g_KnobError tb (pa_cons (pv 0) (pa_cons (pv 1) pa_nil)))) (pss_one (ps_ost (pv 0) (pv 1))), ?_⟩
    exact ⟨_, rfl, _, rfl, a, C, [y], rfl, (by show 1 ≤ 1000; decide), tc, ha, _, rfl, _, rfl, a, C, rfl, tc, hno, .inl ⟨ha, k⟩⟩
end
/-! raise C(e), the error's context told to be None -/
section
open PySem PySem.Spec PyProof.Rows L2
theorem pmkN {X : Cx} {x : Str} {C fI : Addr} {k : Nat} {fd : FuncData} {ps : List Str} {sp : Sp} {e : Expr} {es : List Expr} {ta : TA} {p pos : Pos} (T : OexC X.K C) (iC : PySem.W.findIn X.K (.ref C) "__init__" = some (some (.ref fI))) (tI : PySem.W.typeIn X.K (.ref fI) = some (.type "function"))
    (F1 : FnOk X.prog X.w X.K X.mg X.base CX0 k fI fd ps sp) (hr : Room (k + 1) X.A) (hb : Binds X.K fd ps []) (hg : Gl X x) (hm : X.mg x = some (.ref C)) (ha : PA X (e :: es) ta)
    (hdb : (x == ("__debug__" : Str)) = false := by decide) (he : starEach (e :: es) X.env = (false, eval e X.env) :: starEach es X.env := by rfl) (hpl : (backTo pos (starEach es X.env)).any (·.1) = false := by rfl) :
    L2N.PMk X (.Call (.Name x p) (e :: es) [] pos) (tMkO C sp [] ta) := by
  intro pins s σ H Q I h
  obtain ⟨nm, qn, N, bs, bm, sn, sub, ab, col, dd, k0, k1, k2, k3, k5, hC, hbm⟩ := T.cls
  refine wpAny_Call_Name_kw (ld_glob I hg hm (PySem.W.callWith_K (h₀ := X.base) I.ok.mod.kin T.kC (thn (ha.run pos pins s σ H _ I h) fun us s1 z => ?_) he hpl) hdb)
  obtain ⟨vs, H1, J, rv, hz, q⟩ := z
  refine ⟨J.kIn, ?_⟩
  obtain ⟨hp, g, dr, tk, os⟩ := s1
  generalize hA : hp.objs.size + 1 = a
  have hle : hp.objs.size ≤ a := by omega
  have hn : H1 a = none := J.hok.fresh hle
  have hq := q a hn
  rw [List.append_nil] at hq
  have up2 : ∀ b o, hp.get? b = some o → ((hp.push (PySem.W.kdv_tup us)).push (PySem.HandSPX.excO C hp.objs.size)).get? b = some o := fun b o z => Heap.get?_push_of_some _ (Heap.get?_push_of_some _ z)
  have hget : ((hp.push (PySem.W.kdv_tup us)).push (PySem.HandSPX.excO C hp.objs.size)).get? a = some (PySem.HandSPX.excO C hp.objs.size) := by rw [← hA]; heap_get
  have J2 : Inv X pins σ (upd H1 a (exo a C none)) ⟨(hp.push (PySem.W.kdv_tup us)).push (PySem.HandSPX.excO C hp.objs.size), g, dr, tk, os⟩ := J.laid (t' := tk) (o := exo a C none) up2 hle (exo_ok hget)
  have r2 : Vals (V.ref a :: vs) (Value.ref a :: us) := .cons rfl rv
  have hlen : (Value.ref a :: us ++ []).length = ps.length := by rw [List.append_nil, ← r2.length]; exact F1.len _ _ _ _ hq
  have b2 := hb _ (Value.ref a :: us) J2.kIn hlen
  rw [List.append_nil] at b2
  have hsz : us.length ≤ sizeLine := by rw [← Paired.length rv, sizeLine_eq]; omega
  have run := F1.run _ X.stack _ _ ⟨Value.ref a :: us, []⟩ (Value.ref a :: us) _ _ (fun _ _ _ => False) (hr.make C us []) (J2.env0.make C us []) b2 r2 hq
  have at_ : PySem.HandSPX.excO C hp.objs.size = PySem.HandSPX.excO C hp.objs.size := rfl
  show wpAny _ _ (call (.ref C) us) _ _ _
  refine wpAny_call (PySem.HandSPX.call_own F.excBase_ValueError (fun Y => PySem.HandSPX.refsVE_contains Y bm hbm) (J.kIn _ _ hC) (PySem.W.looks_findIn J.kIn iC) (fun self => PySem.W.bind_fn J.kIn self tI) hsz (codeAny_mono (by subst hA; exact run) fun r s' hr' => ?_))
  subst hA
  match r, hr' with
  | .error er, hr' => exact (show False from hr').elim
  | .ok .next, hr' => exact False.elim hr'
  | .ok .brk, hr' => exact False.elim hr'
  | .ok .cont, hr' => exact False.elim hr'
  | .ok (.ret u), hr' =>
    obtain ⟨v, H2, os2, bare2, un2, hok2, rvv, rfl, d, fs, ea, ed, hd1, q2⟩ := hr'
    obtain ⟨h2, g2, d2, t2, os'⟩ := s'
    obtain ⟨t0, Gh, J3, kG, ge, hoe, na⟩ := mk_end0 (d2 := d2) (t2 := t2) J hle up2 un2 hok2 os2 bare2 ea ed hd1
    exact ⟨rvv, _, _, _, ⟨Gh, g2, d2, t2, os'⟩, _, .ref C, some d, rfl, J3, kG, ge, hoe, ⟨rfl, rfl, fun vs hv => by cases hv; rfl⟩, rfl, rfl, na, rfl, bare2, raises_own T.exC T.tyC, q2⟩
end
/-! ### defs that may raise -/
section
open PySem PySem.Spec PyProof.Rows L2
variable {P : Program} {w : World} {K : PySem.W.Frag} {mg : Str → Option Value} {base : Heap}
theorem okN {x qual : Str} {st : Stmt} {f : Addr} {fd : FuncData} {N ps : List Str} {k : Nat} {sp : Sp} (F : Fun K x qual st f fd) (S : FnScope N ps (defScope st)) (len : ∀ vs H Q E, sp vs H Q E → vs.length = ps.length)
    (hb : ∀ (cdv : Value) (A : Around) (outer : List Env) (s : Shared) (H : Hp) (vs : List V) (Q : VK) (E : XK), Room k (A.deeper (envOfC qual (defScope st) s.heap.objs.size f cdv)) → sp vs H Q E →
      ∃ t, PSs (cxOf (L2N.CX P w) P w K mg base N qual (defScope st) f cdv A outer s H E) (defBody st) t ∧ t { nx := fun _ H' => Q .non H', rt := Q } (L2.start N vs) H) : FnOk P w K mg base (L2N.CX P w) (k + 1) f fd ps sp := by
  obtain ⟨oc, od, kV, doc, pm, an, cdv, ct, osl, rfl, lk, hcd⟩ := F.ex
  exact fn_of lk hcd S len fun A outer s H vs Q E hr hsp => hb cdv A outer s H vs Q E hr hsp
end
/-- a def that may raise, called -/
def CalN (P : Program) (w : World) (K : PySem.W.Frag) (mg : Str → Option Value) (base : Heap) (k : Nat) (x : Str) (ps : List Str) (sp : Sp) : Prop :=
  ∃ f fd, FnOk P w K mg base (L2N.CX P w) k f fd ps sp ∧ mg x = some (.ref f) ∧ PySem.W.keepIn K (.ref f) = true ∧ Binds K fd ps []
section
open PySem PySem.Spec PyProof.Rows L2
variable {X : Cx} {k : Nat} {x : Str} {qs : List Str} {sp : Sp} {p pos : Pos} {e : Expr} {es : List Expr} {t : TA} {W : WX}
theorem pe_calN (c : CalN X.prog X.w X.K X.mg X.base k x qs sp) (hr : Room k X.A) (tk : L2N.Takes X W) (ha : PA X (e :: es) t) (hg : Gl X x := by rfl) (hdb : (x == ("__debug__" : Str)) = false := by decide)
    (he : starEach (e :: es) X.env = (false, eval e X.env) :: starEach es X.env := by rfl) (hpl : (backTo pos (starEach es X.env)).any (·.1) = false := by rfl) : PE X (.Call (.Name x p) (e :: es) [] pos) (tCallS sp (fun σ => WE W σ) t) := by
  obtain ⟨f, fd, F, hm, hk, hb⟩ := c
  exact pe_callS F hr hg hm hk hb (fun σ => L2N.passAt tk σ) ha hdb he hpl
end
/-- a class of the program's errors, its field -/
structure ErrK (K : PySem.W.Frag) (mg : Str → Option Value) (C : Addr) (x fl : Str) : Prop where
  g : mg x = some (.ref C)
  T : OexC K C
  no : PySem.W.findIn K (.ref C) fl = some none
/-- .. and its __init__ -/
def ErrI (P : Program) (w : World) (K : PySem.W.Frag) (mg : Str → Option Value) (base : Heap) (C : Addr) (fl : Str) (ps : List Str) : Prop :=
  ∃ fI fd, PySem.W.findIn K (.ref C) "__init__" = some (some (.ref fI)) ∧ PySem.W.typeIn K (.ref fI) = some (.type "function") ∧ FnOk P w K mg base CX0 1 fI fd ps (spBadI C fl) ∧ Binds K fd ps []
section
open PySem PySem.Spec PyProof.Rows L2
theorem del_back {H : Hp} {a dx : Addr} {x y z u : HO} (ha : H a = none) (hd : dx ≠ a) : upd (del (upd (upd (upd H a x) dx y) a z) a) dx u = upd H dx u := by
  funext b
  by_cases h1 : b = dx
  · rw [h1, upd_same, upd_same]
  · rw [upd_ne h1, upd_ne h1]
    by_cases h2 : b = a
    · rw [h2, del_same, ha]
    · rw [del_ne h2, upd_ne h2, upd_ne h1, upd_ne h2]
/-- raise C(e) -/
abbrev tRaise (C : Addr) (fl : Str) (W : WX) (te : TE) : TS := fun _ σ H => tMkO C (spBadI C fl) [] (tCons te tNil) σ H fun cls d H' => W cls d σ H'
theorem ps_raiseN {X : Cx} {W : WX} {C : Addr} {x fl : Str} {ps : List Str} {e : Expr} {te : TE} {p q pos : Pos} (hc : X.calm = true) (tk : L2N.Takes X W) (ek : ErrK X.K X.mg C x fl) (ei : ErrI X.prog X.w X.K X.mg X.base C fl ps) (hr : Room 2 X.A) (he : PA X [e] (tCons te tNil)) (hg : Gl X x := by rfl)
    (hdb : (x == ("__debug__" : Str)) = false := by decide) (hst : starEach [e] X.env = (false, eval e X.env) :: starEach [] X.env := by rfl) (hpl : (backTo q (starEach [] X.env)).any (·.1) = false := by rfl) : PS X (.Raise (some (.Call (.Name x p) [e] [] q)) none pos) (tRaise C fl W te) := by
  obtain ⟨fI, fd, i1, i2, F1, hb⟩ := ei
  exact L2N.ps_raise (pos := pos) hc tk (pmkN (p := p) (pos := q) ek.T i1 i2 F1 hr hb hg ek.g he hdb hst hpl)
/-- what it comes to -/
theorem raise_ok {C : Addr} {fl : Str} {y : V} {H : Hp} {Q : XK} (h : ∀ d, H d = none → Q (.ref C) (some d) (upd H d (.xd [(fl, y)]))) : [y].length ≤ 1000 ∧ ∀ a, H a = none → spBadI C fl (.ref a :: ([y] ++ [])) (upd H a (exo a C none))
    (fun v H2 => v = .non ∧ ∃ (d : Addr) (fs : List (Str × V)), H2 a = some (exo a C (some d)) ∧ H2 d = some (exd d fs) ∧ H d = none ∧ Q (.ref C) (some d) (upd (del H2 a) d (.xd fs))) (fun _ _ _ => False) := by
  refine ⟨by show 1 ≤ 1000; decide, fun a ha => ⟨a, y, rfl, upd_same, fun dx hd ne => ⟨rfl, dx, [(fl, y)], upd_same, ?_, ?_, ?_⟩⟩⟩
  · rw [upd_ne ne, upd_same]
  · rw [upd_ne ne] at hd; exact hd
  · rw [upd_ne ne] at hd
    rw [del_back ha ne]
    exact h dx hd
end
/-! ### the first moment at which a knob can't go so -/
/-- the moments of turns ahead of moment i -/
def tns (row : List Mv) (i : Nat) : List Nat := (List.range i).filter fun k => decide ((row[k]?.getD (0, false)).1 ≠ 0)
def okM (g b : Int) (s : Int × Bool) (m : Mv) : Bool := decide (m.1 = -1 ∨ m.1 = 0 ∨ m.1 = 1) && ((decide (m.1 = 0) || decide (g ≤ s.1)) && (!m.2 || ((s.2 || decide (m.1 ≠ 0)) && decide ((if m.1 = 0 then s.1 else 0) < b))))
theorem okM_iff {g b : Int} {s : Int × Bool} {m : Mv} : okM g b s m = true ↔ OkM g b s m := by
  unfold okM
  simp only [Bool.and_eq_true, Bool.or_eq_true, decide_eq_true_eq, Bool.not_eq_true']
  constructor
  · rintro ⟨h1, h2, h3⟩
    refine ⟨h1, fun c => h2.resolve_left c, fun c => ?_⟩
    rcases h3 with h3 | h3
    · rw [c] at h3; cases h3
    · exact h3
  · rintro ⟨h1, h2, h3⟩
    refine ⟨h1, ?_, ?_⟩
    · by_cases c : m.1 = 0
      · exact .inl c
      · exact .inr (h2 c)
    · cases c : m.2 with
      | false => exact .inl rfl
      | true => exact .inr (h3 c)
def isBad (g b : Int) (row : List Mv) (i : Nat) : Bool := decide (200 ≤ i) || !okM g b (rst g (row.take i)) (row[i]?.getD (0, false))
def badAt (g b : Int) (row : List Mv) : Option Nat := (List.range row.length).find? (isBad g b row)
theorem find_first {p : Nat → Bool} {n i : Nat} (hi : i < n) (h : p i = true) (hl : ∀ j, j < i → p j = false) : (List.range n).find? p = some i := by
  obtain ⟨d, rfl⟩ : ∃ d, n = i + (d + 1) := ⟨n - i - 1, by omega⟩
  rw [List.range_add, List.find?_append]
  have : (List.range i).find? p = none := by
    rw [List.find?_eq_none]
    intro x hx
    rw [hl x (List.mem_range.mp hx)]
    decide
  rw [this, List.range_succ_eq_map, List.map_cons, List.find?_cons]
  show (match p (i + 0) with | true => some (i + 0) | false => _) = _
  rw [Nat.add_zero, h]
theorem bad_some {g b : Int} {row : List Mv} {i : Nat} (hi : i < row.length) (h : isBad g b row i = true) (hl : ∀ j, j < i → isBad g b row j = false) : badAt g b row = some i := find_first hi h hl
theorem bad_none {g b : Int} {row : List Mv} (hl : ∀ j, j < row.length → isBad g b row j = false) : badAt g b row = none := by
  unfold badAt
  rw [List.find?_eq_none]
  intro x hx
  rw [hl x (List.mem_range.mp hx)]
  decide
theorem good_iff {g b : Int} {row : List Mv} : Good g b row ↔ ∀ j, j < row.length → isBad g b row j = false := by
  constructor
  · rintro ⟨h1, h2⟩ j hj
    unfold isBad
    have hm : row[j]? = some row[j] := List.getElem?_eq_getElem hj
    rw [hm, Option.getD_some, decide_eq_false (by omega), okM_iff.mpr (h2 j _ hm)]
    rfl
  · intro h
    refine ⟨?_, fun i m hm => ?_⟩
    · refine Nat.le_of_not_lt fun z => ?_
      have := h 200 z
      unfold isBad at this
      rw [decide_eq_true (Nat.le_refl 200), Bool.true_or] at this
      cases this
    · have hi := (List.getElem?_eq_some_iff.mp hm).1
      have := h i hi
      unfold isBad at this
      rw [Bool.or_eq_false_iff, hm, Option.getD_some] at this
      exact okM_iff.mp (by simpa using this.2)
theorem bad_good {g b : Int} {row : List Mv} (h : Good g b row) : badAt g b row = none := bad_none (good_iff.mp h)
theorem tns_succ {row : List Mv} {i : Nat} {m : Mv} (h : row[i]? = some m) : tns row (i + 1) = tns row i ++ (if m.1 = 0 then [] else [i]) := by
  unfold tns
  rw [List.range_succ, List.filter_append]
  congr 1
  by_cases c : m.1 = 0
  · rw [if_pos c, List.filter_cons_of_neg (by simp [h, c])]; rfl
  · rw [if_neg c, List.filter_cons_of_pos (by simp [h, c])]; rfl
theorem tns_lt {row : List Mv} {i k : Nat} (h : k ∈ tns row i) : k < i := List.mem_range.mp (List.mem_filter.mp h).1
theorem tns_len (row : List Mv) (i : Nat) : (tns row i).length ≤ i := by
  unfold tns
  have := List.length_filter_le (fun k => decide ((row[k]?.getD (0, false)).1 ≠ 0)) (List.range i)
  rw [List.length_range] at this
  exact this
/-- the state of a row by its turns -/
theorem rst_tns {g : Int} (hg : 1 ≤ g) {row : List Mv} : ∀ {i : Nat}, i ≤ row.length → (rst g (row.take i)).2 = !(tns row i).isEmpty ∧ (rst g (row.take i)).1 = match (tns row i).getLast? with
    | none => g
    | some k => min g ((i : Int) - k)
  | 0, _ => by
    rw [List.take_zero]
    exact ⟨rfl, rfl⟩
  | i + 1, h => by
    have hm : row[i]? = some row[i] := List.getElem?_eq_getElem (by omega)
    obtain ⟨h1, h2⟩ := rst_tns hg (row := row) (i := i) (by omega)
    rw [rst_snoc hm, tns_succ hm]
    unfold stp
    by_cases c : row[i].1 = 0
    · rw [show (if row[i].1 = 0 then ([] : List Nat) else [i]) = [] from if_pos c, List.append_nil]
      dsimp only
      rw [if_pos c, h1, h2]
      refine ⟨by simp [c], ?_⟩
      cases e : (tns row i).getLast? with
      | none => dsimp only; omega
      | some k =>
        dsimp only
        have : k < i := tns_lt (List.mem_of_getLast? e)
        have : ((i + 1 : Nat) : Int) = (i : Int) + 1 := by omega
        rw [this, min2, min2, min2]
        (repeat' split) <;> omega
    · rw [show (if row[i].1 = 0 then ([] : List Nat) else [i]) = [i] from if_neg c]
      dsimp only
      rw [if_neg c]
      refine ⟨by simp [c], ?_⟩
      rw [List.getLast?_append, List.getLast?_singleton]
      show min g (0 + 1) = min g (((i + 1 : Nat) : Int) - (i : Nat))
      congr 1
      omega
def optV : Option Nat → V
  | none => .non
  | some i => .int i
/-! ### need_knob, need_row, as they refuse -/
theorem inV_intsX (z : Int) (ns : List Int) : inV (V.int z) (ns.map V.int) = decide (z ∈ ns) := by
  unfold inV
  induction ns with
  | nil => rfl
  | cons y r ih =>
    rw [List.map_cons, List.any_cons, ih]
    show ((y == z) || decide (z ∈ r)) = decide (z ∈ y :: r)
    by_cases h : y = z
    · subst h; simp
    · rw [beq_eq_false_iff_ne.mpr h, Bool.false_or]
      simp only [List.mem_cons, show ¬ z = y from fun e => h e.symm, false_or]
def xd1 (fl : Str) (y : V) : HO := .xd [(fl, y)]
/-- the first thing that no knob has -/
def knobBad (g b : Int) : Option Str := if ¬ (1 ≤ g ∧ g ≤ 6) then some "gap" else if ¬ (0 ≤ b ∧ b ≤ g) then some "bounce" else none
def spNeedKnobX (K : PySem.W.Frag) (Ck : Addr) : Sp := fun vs H Q E => ∃ (v : V) (g b : Int), vs = [v] ∧ Dp K H v (knD g b) ∧ (∀ x, knobBad g b = some x → ∀ d, H d = none → E (.ref Ck) (some d) (upd H d (xd1 "why" (.str x)))) ∧ (knobBad g b = none → Q .non H)
def spNeedRowX (K : PySem.W.Frag) (Cw : Addr) : Sp := fun vs H Q E => ∃ (v u : V) (g b : Int) (row : List Mv), vs = [v, u] ∧ Dp K H v (knD g b) ∧ Dp K H u (rowD row) ∧ row.length ≤ 900 ∧ (∀ i, badAt g b row = some i → ∀ d H', Same H H' → H' d = none → E (.ref Cw) (some d) (upd H' d (xd1 "at" (.int (i : Nat))))) ∧ (badAt g b row = none → ∀ H', Same H H' → Q .non H')
section
variable {P : Program} {w : World} {K : PySem.W.Frag} {mg : Str → Option Value} {base : Heap}
theorem sc_needkx : FnScope ["knob", "gap", "bounce"] ["knob"] (defScope (top 12)) := ⟨rfl, rfl, rfl, by decide +kernel, rfl, by decide +kernel, by decide +kernel⟩
theorem ok_needkx {f Ck : Addr} {fd : FuncData} {t1 : Tok} {ps : List Str} (F : Fun K "need_knob" "need_knob" (top 12) f fd) (g_MOST_GAP : mg "MOST_GAP" = some (.int 6 t1)) (ek_BadKnob : ErrK K mg Ck "BadKnob" "why") (ei_BadKnob : ErrI P w K mg base Ck "why" ps) : FnOk P w K mg base (L2N.CX P w) 3 f fd ["knob"] (spNeedKnobX K Ck) := by
  have sc := sc_needkx
  refine okN F sc (fun vs H Q E h => ?_) (fun cdv A outer s H vs Q E hr h => ?_)
  · obtain ⟨v, g, b, rfl, _⟩ := h
    rfl
  · obtain ⟨v, g, b, rfl, hv, kE, kQ⟩ := h
    obtain ⟨a, rfl, hT⟩ := dp_ii hv
    refine ⟨_, (pss_cons (ps_asg (pv 0) (pg_tup rfl (pgs_cons (pg_name (i := 1) sc.nd rfl (Or.inl rfl)) (pgs_cons (pg_name (i := 2) sc.nd rfl (Or.inl rfl)) pgs_nil))))
(pss_cons (ps_if (pt_not (pt_chain op_le op_le pe_int (pv 1) (pe_glob (v := .int 6) rfl g_MOST_GAP ⟨_, rfl⟩)))
(pss_one (ps_raiseN rfl (L2N.takes_of rfl rfl rfl rfl) ek_BadKnob ei_BadKnob (hr.mono (by first | decide | omega)) (pa_cons pe_str pa_nil)))
pss_nil)
(pss_one (ps_if (pt_not (pt_chain op_le op_le pe_int (pv 2) (pv 1)))
(pss_one (ps_raiseN rfl (L2N.takes_of rfl rfl rfl rfl) ek_BadKnob ei_BadKnob (hr.mono (by first | decide | omega)) (pa_cons pe_str pa_nil)))
pss_nil)))), ?_⟩
    refine ⟨_, rfl, a, _, rfl, hT, rfl, _, _, rfl, _, _, rfl, rfl, ?_⟩
    have gapE : ¬ (1 ≤ g ∧ g ≤ 6) → ∀ d, H d = none → E (.ref Ck) (some d) (upd H d (.xd [("why", .str "gap")])) := fun c d hd => kE "gap" (if_pos c) d hd
    have bouE : 1 ≤ g ∧ g ≤ 6 → ¬ (0 ≤ b ∧ b ≤ g) → ∀ d, H d = none → E (.ref Ck) (some d) (upd H d (.xd [("why", .str "bounce")])) := fun c c2 d hd => kE "bounce" (by unfold knobBad; rw [if_neg (fun z => z c), if_pos c2]) d hd
    refine ⟨_, rfl, _, _, rfl, rfl, _, rfl, ?_⟩
    by_cases c1 : 1 ≤ g
    · refine iteDT c1 ⟨_, _, rfl, rfl, _, rfl, ?_⟩
      by_cases c2 : g ≤ 6
      · rw [decide_eq_true c2]
        refine iteF ⟨_, rfl, _, _, rfl, rfl, _, rfl, ?_⟩
        by_cases c3 : 0 ≤ b
        · refine iteDT c3 ⟨_, rfl, _, _, rfl, rfl, _, rfl, ?_⟩
          by_cases c4 : b ≤ g
          · rw [decide_eq_true c4]
            exact iteF (kQ (by unfold knobBad; rw [if_neg (fun z => z ⟨c1, c2⟩), if_neg (fun z => z ⟨c3, c4⟩)]))
          · rw [decide_eq_false c4]
            exact iteT (raise_ok (bouE ⟨c1, c2⟩ fun z => c4 z.2))
        · exact iteDF c3 ⟨_, rfl, iteT (raise_ok (bouE ⟨c1, c2⟩ fun z => c3 z.1))⟩
      · rw [decide_eq_false c2]
        exact iteT (raise_ok (gapE fun z => c2 z.2))
    · exact iteDF c1 ⟨_, rfl, iteT (raise_ok (gapE fun z => c1 z.1))⟩
theorem sc_needwx : FnScope ["knob", "row", "gap", "bounce", "since", "turned", "at", "turn", "old"] ["knob", "row"] (defScope (top 14)) := ⟨rfl, rfl, rfl, by decide +kernel, rfl, by decide +kernel, by decide +kernel⟩
set_option maxHeartbeats 1000000 in
theorem ok_needwx {f Cw : Addr} {fd : FuncData} {t1 : Tok} {ps : List Str} (F : Fun K "need_row" "need_row" (top 14) f fd) (g_MOST_ROW : mg "MOST_ROW" = some (.int 200 t1)) (n_enumerate : mg "enumerate" = none) (n_min : mg "min" = none) (ek_BadRow : ErrK K mg Cw "BadRow" "at") (ei_BadRow : ErrI P w K mg base Cw "at" ps) : FnOk P w K mg base (L2N.CX P w) 3 f fd ["knob", "row"] (spNeedRowX K Cw) := by
  have sc := sc_needwx
  refine okN F sc (fun vs H Q E h => ?_) (fun cdv A outer s H vs Q E hr h => ?_)
  · obtain ⟨v, u, g, b, row, rfl, _⟩ := h
    rfl
  · obtain ⟨v, u, g, b, row, rfl, hd, hrow, hlen, kE, kQ⟩ := h
    obtain ⟨a, rfl, hT⟩ := dp_ii hd
    obtain ⟨l, xs, rfl, hL, hX⟩ := dp_lst hrow
    have hxl : xs.length = row.length := by rw [dpa_length hX, List.length_map]
    refine ⟨_, (pss_cons (ps_asg (pv 0) (pg_tup rfl (pgs_cons (pg_name (i := 2) sc.nd rfl (Or.inl rfl)) (pgs_cons (pg_name (i := 3) sc.nd rfl (Or.inl rfl)) pgs_nil))))
(pss_cons (ps_set (i := 4) sc.nd rfl (Or.inl rfl) (pv 2))
(pss_cons (ps_set (i := 5) sc.nd rfl (Or.inl rfl) pe_bl)
(pss_one (ps_for PassesOwn.leaving rfl (pi_enum (by rfl) n_enumerate (pa_cons (pv 1) pa_nil)) (pg_tup rfl (pgs_cons (pg_name (i := 6) sc.nd rfl (Or.inl rfl)) (pgs_cons (pg_tup rfl (pgs_cons (pg_name (i := 7) sc.nd rfl (Or.inl rfl)) (pgs_cons (pg_name (i := 8) sc.nd rfl (Or.inl rfl)) pgs_nil))) pgs_nil)))
(pss_cons (ps_if (pt_cut (PW.pt (pw_or (pt_cmpR op_ge (pv 6) (pe_glob (v := .int 200) rfl g_MOST_ROW ⟨_, rfl⟩) (nomark _)) (pw_or (pt_cmpR (r := rIn K true) op_notIn_seq (pv 7) (pe_tup (pa_cons (pe_un un_neg pe_int) (pa_cons pe_int (pa_cons pe_int pa_nil)))) (by rfl)) (pw_or1 (PW.pt (pw_and (pt_cmpR op_ne (pv 7) pe_int (nomark _)) (pw_and1 (pt_cmpR op_lt (pv 4) (pv 2) (nomark _))))))))))
(pss_one (ps_raiseN rfl (L2N.takes_of rfl rfl rfl rfl) ek_BadRow ei_BadRow (hr.mono (by first | decide | omega)) (pa_cons (pv 6) pa_nil)))
pss_nil)
(C8.pss_cut (ps_if (pt_cmpR op_ne (pv 7) pe_int (nomark _))
(pss_cons (ps_set (i := 4) sc.nd rfl (Or.inl rfl) pe_int)
(pss_one (ps_set (i := 5) sc.nd rfl (Or.inl rfl) pe_bl)))
pss_nil)
(pss_cons (ps_if (pt_cut (PW.pt (pw_and (pt_val (pv 8)) (pw_and1 (PW.pt (pw_or (pt_not (pt_val (pv 5))) (pw_or1 (pt_cmpR op_ge (pv 4) (pv 3) (nomark _)))))))))
(pss_one (ps_raiseN rfl (L2N.takes_of rfl rfl rfl rfl) ek_BadRow ei_BadRow (hr.mono (by first | decide | omega)) (pa_cons (pv 6) pa_nil)))
pss_nil)
(pss_one (ps_set (i := 4) sc.nd rfl (Or.inl rfl) (pe_callB (call_min2 rfl) (by rfl) n_min (by decide +kernel) (pa_cons (pv 2) (pa_cons (pe_op op_add (pv 4) pe_int) pa_nil))))))))))))), ?_⟩
    refine ⟨_, rfl, a, _, rfl, hT, rfl, _, _, rfl, _, _, rfl, rfl, ?_⟩
    refine ⟨_, rfl, ?_⟩
    refine ⟨_, rfl, l, xs, rfl, hL, for_it (walk_enum (xs := xs)) (fun i σ H' => (∃ v1 v2 v3, σ = [some (.ref a), some (.ref l), some (.int g), some (.int b), some (.int (rst g (row.take i)).1), some (.bl (rst g (row.take i)).2), v1, v2, v3]) ∧ Same H H' ∧ ∀ j, j < i → isBad g b row j = false)
      ⟨⟨none, none, none, rfl⟩, Same.refl H, fun j h => by omega⟩ (fun i σ H' _ e => e.2.1.seq hL) ?_ ?_⟩
    · rintro i x σ H1 H2 hi ⟨⟨v1, v2, v3, rfl⟩, hs, hno⟩ ⟨T, y, z, rfl, hT0, rfl, hy, hz⟩
      cases hy
      obtain ⟨m, hm, hz2⟩ := dpa_map_at (dpa_same hs hX) hz
      have hz3 := dp_same (same_new hT0 (o := .tup [.int ((i : Nat) : Int), z])) hz2
      obtain ⟨q, rfl, hq⟩ := dp_ib hz3
      have hil : i < row.length := by omega
      refine ⟨T, _, rfl, SqT.of upd_same, rfl, _, _, rfl, _, _, rfl, ?_⟩
      refine ⟨q, _, rfl, hq, rfl, _, _, rfl, _, _, rfl, rfl, rfl, ?_⟩
      have e0 : (rst g (row.take (i + 1))) = stp g (rst g (row.take i)) m := rst_snoc hm
      have hbad : isBad g b row i = (decide (200 ≤ i) || !okM g b (rst g (row.take i)) m) := by unfold isBad; rw [hm, Option.getD_some]
      have raise : isBad g b row i = true → ∀ H', Same H H' → ∀ d, H' d = none → E (.ref Cw) (some d) (upd H' d (.xd [("at", .int ((i : Nat) : Int))])) := fun hb H' sH' d hd => kE i (bad_some hil hb hno) d H' sH' hd
      have sT := hs.trans (same_new hT0 (o := .tup [.int ((i : Nat) : Int), .ref q]))
      revert hbad e0 sT
      generalize rst g (row.take i) = R
      generalize upd H1 T (.tup [.int ((i : Nat) : Int), .ref q]) = H2
      intro e0 hbad sT
      refine ⟨fun x H' => x = (decide (200 ≤ i) || (!decide (m.1 = -1 ∨ m.1 = 0 ∨ m.1 = 1) || (decide (m.1 ≠ 0) && decide (R.1 < g)))) ∧ Same H2 H', ?_, ?_⟩
      · refine ⟨_, rfl, _, _, rfl, rfl, _, rfl, ?_⟩
        by_cases c1 : 200 ≤ i
        · rw [decide_eq_true c1, Bool.true_or]
          exact iteDT (by omega) ⟨rfl, Same.refl _⟩
        rw [decide_eq_false c1, Bool.false_or]
        refine iteDF (by omega) ⟨_, rfl, _, rfl, (by show 3 ≤ sizeLine; decide), fun tp htp => ?_⟩
        have st := same_new htp (o := .tup [.int (-1), .int 0, .int 1])
        refine ⟨tp, _, rfl, .inr (SqT.of upd_same), rfl, rfl, _, rfl, ?_⟩
        have ein : (!(inV (V.int m.1) [V.int (-1), V.int 0, V.int 1])) = !decide (m.1 = -1 ∨ m.1 = 0 ∨ m.1 = 1) := by
          show (!(inV (V.int m.1) ([(-1 : Int), 0, 1].map V.int))) = _
          rw [inV_intsX]
          congr 1
          exact decide_eq_decide.mpr (by simp)
        by_cases c2 : m.1 = -1 ∨ m.1 = 0 ∨ m.1 = 1
        · rw [decide_eq_true c2] at ein ⊢
          refine iteBF ein ⟨_, rfl, rfl, _, rfl, ?_⟩
          by_cases h0 : m.1 = 0
          · exact iteNS (vint_eq h0) ⟨by simp [h0], st⟩
          · refine iteNT (vint_ne h0) ⟨_, rfl, _, rfl, _, _, rfl, rfl, _, rfl, ?_, st⟩
            rw [decide_eq_true h0]; rfl
        · rw [decide_eq_false c2] at ein ⊢
          exact iteBT ein ⟨rfl, st⟩
      rintro x H3 ⟨rfl, s3⟩
      have sH3 := sT.trans s3
      refine iteB (fun e => ?_) (fun e => ?_)
      · refine ⟨_, rfl, raise_ok (raise ?_ _ sH3)⟩
        rw [hbad]
        unfold okM
        rcases (show 200 ≤ i ∨ ¬ (m.1 = -1 ∨ m.1 = 0 ∨ m.1 = 1) ∨ (m.1 ≠ 0 ∧ R.1 < g) by simpa using e) with c | c | c
        · rw [decide_eq_true c, Bool.true_or]
        · rw [decide_eq_false c]; simp
        · rw [decide_eq_false c.1, decide_eq_false (show ¬ g ≤ R.1 by omega)]; simp
      have hok1 : ¬ 200 ≤ i ∧ (m.1 = -1 ∨ m.1 = 0 ∨ m.1 = 1) ∧ (m.1 = 0 ∨ g ≤ R.1) := by
        rw [Bool.or_eq_false_iff, Bool.or_eq_false_iff, decide_eq_false_iff_not, Bool.not_eq_false', decide_eq_true_eq, Bool.and_eq_false_iff, decide_eq_false_iff_not, decide_eq_false_iff_not] at e
        exact ⟨e.1, e.2.1, by omega⟩
      refine ⟨fun σ H' => σ = [some (.ref a), some (.ref l), some (.int g), some (.int b), some (.int (if m.1 = 0 then R.1 else 0)), some (.bl (R.2 || decide (m.1 ≠ 0))), some (.int ((i : Nat) : Int)), some (.int m.1), some (.bl m.2)] ∧ H' = H3, ?_, ?_⟩
      · refine ⟨_, rfl, rfl, _, rfl, ?_⟩
        by_cases h0 : m.1 = 0
        · refine iteNS (vint_eq h0) ⟨?_, rfl⟩
          rw [if_pos h0, decide_eq_false (show ¬ m.1 ≠ 0 from fun z => z h0), Bool.or_false]
          rfl
        · refine iteNT (vint_ne h0) ⟨?_, rfl⟩
          rw [if_neg h0, decide_eq_true (show m.1 ≠ 0 from h0), Bool.or_true]
          rfl
      rintro σ H4 ⟨rfl, rfl⟩
      refine ⟨fun x H' => x = (m.2 && !((R.2 || decide (m.1 ≠ 0)) && decide ((if m.1 = 0 then R.1 else 0) < b))) ∧ H' = H4, ?_, ?_⟩
      · refine ⟨_, rfl, _, rfl, iteB (fun eo => ?_) (fun eo => ?_)⟩
        · rw [eo, Bool.true_and]
          refine ⟨_, rfl, _, rfl, ?_⟩
          cases et : (R.2 || decide (m.1 ≠ 0)) with
          | false => exact iteT ⟨rfl, rfl⟩
          | true =>
            refine iteF ⟨_, rfl, _, rfl, _, _, rfl, rfl, _, rfl, ?_, rfl⟩
            rw [Bool.true_and, ← decide_not]
            exact decide_eq_decide.mpr (by omega)
        · rw [eo, Bool.false_and]; exact ⟨rfl, rfl⟩
      rintro x H5 ⟨rfl, rfl⟩
      refine iteB (fun e2 => ?_) (fun e2 => ?_)
      · refine ⟨_, rfl, raise_ok (raise ?_ _ sH3)⟩
        rw [Bool.and_eq_true] at e2
        rw [hbad]
        unfold okM
        rw [e2.1]
        have : ((R.2 || decide (m.1 ≠ 0)) && decide ((if m.1 = 0 then R.1 else 0) < b)) = false := by rw [Bool.not_eq_true'] at e2; exact e2.2
        rw [this]
        simp
      · refine ⟨_, rfl, _, rfl, _, _, rfl, rfl, _, _, rfl, ⟨some (.int ((i : Nat) : Int)), some (.int m.1), some (.bl m.2), ?_⟩, sH3, fun j hj => ?_⟩
        · rw [e0]
          unfold stp
          dsimp only
          rw [min2]
          rfl
        · by_cases hji : j < i
          · exact hno j hji
          · have : j = i := by omega
            subst this
            rw [hbad]
            unfold okM
            rw [decide_eq_false hok1.1, decide_eq_true hok1.2.1, Bool.false_or, Bool.true_and]
            have q1 : (decide (m.1 = 0) || decide (g ≤ R.1)) = true := by simpa using hok1.2.2
            rw [q1, Bool.true_and]
            cases hm2 : m.2 with
            | false => rfl
            | true =>
              rw [hm2, Bool.true_and, Bool.not_eq_false'] at e2
              rw [e2]
              rfl
    · rintro σ H1 ⟨⟨v1, v2, v3, rfl⟩, hs, hno⟩
      exact kQ (bad_none fun j hj => hno j (by omega)) H1 hs
end
theorem inV_ints (z : Int) (ns : List Int) : inV (V.int z) (ns.map V.int) = decide (z ∈ ns) := inV_intsX z ns
/-! ### _law_bad -/
def spBad (K : PySem.W.Frag) : Sp := fun vs H Q _ => ∃ (v u : V) (g b : Int) (row : List Mv), vs = [v, u] ∧ Dp K H v (knD g b) ∧ 1 ≤ g ∧ 0 ≤ b ∧ b ≤ g ∧ Dp K H u (rowD row) ∧ row.length ≤ 900 ∧ ∀ H', Same H H' → Q (optV (badAt g b row)) H'
theorem dp_intsN {K : PySem.W.Frag} {H : Hp} {a : Addr} {ts : List Nat} (h : SqL K H a (ts.map fun k => V.int (k : Nat))) : Dp K H (.ref a) (.list (ts.map fun k => PyData.int (k : Nat))) := by
  refine .lst h ?_
  clear h
  induction ts with
  | nil => exact .nil
  | cons t r ih => exact .cons (.int _) ih
theorem shaped_intsN {ts : List Nat} (h : ts.length ≤ 1000) : SeqAt.shaped (.list (ts.map fun k => PyData.int (k : Nat))) = true := by
  refine shaped_nest (n := 1) ⟨by rw [List.length_map]; omega, fun d hd => ?_⟩ (by decide)
  obtain ⟨m, _, rfl⟩ := List.mem_map.mp hd
  trivial
section
variable {P : Program} {w : World} {K : PySem.W.Frag} {mg : Str → Option Value} {base : Heap}
theorem sc_bad : FnScope ["_law_knob_here", "_law_row_here", "_law_at", "_law_turns", "_law_turn", "_law_old", "_law_k"] ["_law_knob_here", "_law_row_here"] (defScope (top 32)) := ⟨rfl, rfl, rfl, by decide +kernel, rfl, by decide +kernel, by decide +kernel⟩
set_option maxHeartbeats 2000000 in
theorem ok_bad {f : Addr} {fd : FuncData} (F : Fun K "_law_bad" "_law_bad" (top 32) f fd) (n_len : mg "len" = none) (n_range : mg "range" = none) : FnOk P w K mg base CX0 1 f fd ["_law_knob_here", "_law_row_here"] (spBad K) := by
  have sc := sc_bad
  refine F.ok sc (fun vs H Q E h => ?_) (fun cdv A outer s H vs Q E hr h => ?_)
  · obtain ⟨v, u, g, b, row, rfl, _⟩ := h
    rfl
  · obtain ⟨v, u, g, b, row, rfl, hd, g1, b0, b1, hrow, hlen, k⟩ := h
    obtain ⟨a, rfl, hT⟩ := dp_ii hd
    obtain ⟨l, xs, rfl, hL, hX⟩ := dp_lst hrow
    have hxl : xs.length = row.length := by rw [dpa_length hX, List.length_map]
    refine ⟨_, (pss_cons (ps_for PassesOwn.never rfl (pi_range1 rfl n_range (pa_cons (pe_callB (r := rLenQ K) call_lenQ (by rfl) n_len PySem.boot_len (pa_cons (pv 1) pa_nil)) pa_nil)) (pg_name (i := 2) sc.nd rfl (Or.inl rfl))
(pss_cons (ps_setLc (i := 3) (own := [("_law_k", 6)]) (g := gName 6) rfl sc.nd rfl rfl (sw_true rfl rfl rfl (by decide +kernel)) (pi_range1 rfl n_range (pa_cons (pv 2) pa_nil)) (blkOk_by (own := [("_law_k", 6)]) (N := ["_law_knob_here", "_law_row_here", "_law_at", "_law_turns", "_law_turn", "_law_old", "_law_k"]) (sc := defScope (top 32)) (by decide +kernel)) (fun _ _ _ _ _ => (pg_name (i := 6) sc.nd rfl (Or.inl rfl))) (fun _ _ _ _ _ => (pts_one (pt_cmpR op_ne (pe_ix (r := rIxT K) ix_tup (pe_ix (r := rIxL K) ix_list (pv 1) (pv 6) (fun _ _ => rfl)) pe_int (fun _ _ => rfl)) pe_int (nomark _)))) (fun _ _ _ _ _ => (pv 6)))
(pss_cons (ps_asg (pe_ix (r := rIxL K) ix_list (pv 1) (pv 2) (fun _ _ => rfl)) (pg_tup rfl (pgs_cons (pg_name (i := 4) sc.nd rfl (Or.inl rfl)) (pgs_cons (pg_name (i := 5) sc.nd rfl (Or.inl rfl)) pgs_nil))))
(pss_cons (ps_if (PW.pt (pw_or (pt_cmpR op_gt (pv 2) pe_int (nomark _)) (pw_or1 (pt_cmpR (r := rIn K true) op_notIn_seq (pv 4) (pe_lst (pa_cons (pe_un un_neg pe_int) (pa_cons pe_int (pa_cons pe_int pa_nil)))) (by rfl)))))
(pss_one (ps_ret (pv 2)))
pss_nil)
(pss_cons (ps_if (pt_cut (PW.pt (pw_and (pt_cmpR op_ne (pv 4) pe_int (nomark _)) (pw_and (pt_cmpR (r := rNeD K) (op_neD hr.units) (pv 3) (pe_lst pa_nil) (nomark _)) (pw_and1 (pt_cmpR op_lt (pe_op op_sub (pv 2) (pe_ix (r := rIxL K) ix_list (pv 3) (pe_un un_neg pe_int) (fun _ _ => rfl))) (pe_ix (r := rIxT K) ix_tup (pv 0) pe_int (fun _ _ => rfl)) (nomark _)))))))
(pss_one (ps_ret (pv 2)))
pss_nil)
(C8.pss_cut (ps_if (pt_cmpR op_ne (pv 4) pe_int (nomark _))
(pss_one (ps_expr (pe_bm PySem.F.plainAttrs_list PySem.F.slot_list_append PySem.F.type_list_append mt_append (pv 3) (pa_cons (pv 2) pa_nil))))
pss_nil)
(pss_one (ps_if (pt_cut (PW.pt (pw_and (pt_val (pv 5)) (pw_and1 (PW.pt (pw_or (pt_cmpR (r := rEqD K) (op_eqD hr.units) (pv 3) (pe_lst pa_nil) (nomark _)) (pw_or1 (pt_cmpR op_ge (pe_op op_sub (pv 2) (pe_ix (r := rIxL K) ix_list (pv 3) (pe_un un_neg pe_int) (fun _ _ => rfl))) (pe_ix (r := rIxT K) ix_tup (pv 0) pe_int (fun _ _ => rfl)) (nomark _)))))))))
(pss_one (ps_ret (pv 2)))
pss_nil))))))))
(pss_one (ps_ret pe_non))), ?_⟩
    refine ⟨_, rfl, l, xs, rfl, .inl hL, _, rfl, by omega, by omega, for_range (lo := 0) (n := ((xs.length : Nat) : Int).toNat) (fun i σ H' => (∃ v2 v3 v4 v5 v6, σ = [some (.ref a), some (.ref l), v2, v3, v4, v5, v6]) ∧ Same H H' ∧ ∀ j, j < i → isBad g b row j = false) ?_ ?_ ?_⟩
    · exact ⟨⟨_, _, _, _, _, rfl⟩, Same.refl H, fun j hj => by omega⟩
    · rintro i σ H1 hi ⟨⟨v2, v3, v4, v5, v6, rfl⟩, s1, hno⟩
      have hil : i < row.length := by omega
      have hm : row[i]? = some row[i] := List.getElem?_eq_getElem hil
      -- the turns ahead
      refine ⟨_, rfl, ((i : Nat) : Int), (by rw [Int.zero_add]), by omega, by omega, fun D hD => lc_range (lo := 0) (n := ((i : Nat) : Int).toNat) (fun j H' => H' = upd H1 D (.lst ((tns row j).map fun k => V.int (k : Nat)))) rfl ?_ ?_⟩
      · rintro j H2 hj rfl
        have hj2 : j < row.length := by omega
        have hmj : row[j]? = some row[j] := List.getElem?_eq_getElem hj2
        have sD := same_new hD (o := .lst ((tns row j).map fun k => V.int (k : Nat)))
        obtain ⟨z, hz1, hz2⟩ := dpa_at (dpa_same (s1.trans sD) hX) (show (row.map mvD)[j]? = some (mvD row[j]) by rw [List.getElem?_map, hmj]; rfl)
        obtain ⟨q, rfl, hq⟩ := dp_ib hz2
        refine ⟨rfl, _, rfl, _, rfl, l, _, _, _, rfl, rfl, (s1.trans sD).seq hL, at_of (j := j) (by rw [Int.zero_add]) hz1, q, _, _, _, rfl, rfl, hq, at_of (j := 0) rfl rfl, rfl, _, rfl, ?_⟩
        rw [tns_succ hmj]
        by_cases c : row[j].1 = 0
        · refine iteNS (vint_eq c) ?_
          rw [if_pos c, List.append_nil]
        · refine iteNT (vint_ne c) ⟨_, rfl, _, upd_same, ?_, ?_⟩
          · rw [List.length_map]
            have := tns_len row j
            exact small1000 (by omega)
          · rw [upd_upd, if_neg c, List.map_append, Int.zero_add]; rfl
      · rintro H2 rfl
        rw [Int.toNat_natCast]
        have sD := s1.trans (same_new hD (o := .lst ((tns row i).map fun k => V.int (k : Nat))))
        have hDD : (upd H1 D (.lst ((tns row i).map fun k => V.int (k : Nat)))) D = some (.lst ((tns row i).map fun k => V.int (k : Nat))) := upd_same
        have Dfree : H D = none := s1.free hD
        revert sD hDD
        generalize upd H1 D (.lst ((tns row i).map fun k => V.int (k : Nat))) = H2
        intro sD hDD
        obtain ⟨z, hz1, hz2⟩ := dpa_at (dpa_same sD hX) (show (row.map mvD)[i]? = some (mvD row[i]) by rw [List.getElem?_map, hm]; rfl)
        obtain ⟨q, rfl, hq⟩ := dp_ib hz2
        refine ⟨_, rfl, _, rfl, l, _, _, _, rfl, rfl, sD.seq hL, at_of (j := i) (by rw [Int.zero_add]) hz1, q, _, rfl, hq, rfl, _, _, rfl, _, _, rfl, rfl, ?_⟩
        rw [Int.zero_add]
        obtain ⟨r2, r1⟩ := rst_tns g1 (row := row) (i := i) (Nat.le_of_lt hil)
        have hbad : isBad g b row i = (decide (200 ≤ i) || !okM g b (rst g (row.take i)) row[i]) := by unfold isBad; rw [hm, Option.getD_some]
        have ret : isBad g b row i = true → ∀ H', Same H H' → Q (.int ((i : Nat) : Int)) H' := fun hb H' sH' => by
          have := k H' sH'
          rw [bad_some hil hb hno] at this
          exact this
        have tnl := tns_len row i
        have tlt : ∀ t ∈ tns row i, t < i := fun t ht => tns_lt ht
        revert hbad r2 r1
        generalize rst g (row.take i) = R
        generalize row[i] = m at hq hm
        generalize htE : tns row i = ts at hDD tnl tlt
        intro r2 r1 hbad
        -- too late, or no turn
        refine ⟨_, rfl, _, _, rfl, rfl, _, rfl, ?_⟩
        by_cases c1 : 200 ≤ i
        · refine iteDT (by omega) ?_
          exact ⟨_, rfl, ret (by rw [hbad, decide_eq_true c1, Bool.true_or]) _ sD⟩
        refine iteDF (by omega) ⟨_, rfl, _, rfl, (by show 3 ≤ sizeLine; decide), fun tp htp => ?_⟩
        have sT := same_new htp (o := .lst [.int (-1), .int 0, .int 1])
        have sH3 := sD.trans sT
        have hDD3 := sT _ _ hDD
        refine ⟨tp, _, rfl, .inl (SqL.of upd_same), rfl, rfl, _, rfl, ?_⟩
        revert sH3 hDD3
        generalize upd H2 tp (.lst [.int (-1), .int 0, .int 1]) = H3
        intro sH3 hDD3
        by_cases c2 : m.1 = -1 ∨ m.1 = 0 ∨ m.1 = 1
        · refine iteBF ?_ ?_
          · show (!(inV (V.int m.1) [V.int (-1), V.int 0, V.int 1])) = false
            rcases c2 with h | h | h <;> rw [h] <;> decide
          -- too soon
          refine ⟨fun x H' => x = (decide (m.1 ≠ 0) && decide (R.1 < g)) ∧ Same H3 H', ?_, ?_⟩
          · refine ⟨_, rfl, rfl, _, rfl, ?_⟩
            by_cases h0 : m.1 = 0
            · exact iteNS (vint_eq h0) ⟨by simp [h0], Same.refl _⟩
            refine iteNT (vint_ne h0) ⟨_, rfl, Nat.zero_le _, fun e he => ?_⟩
            have se := same_new he (o := .lst [])
            have hDe := se _ _ hDD3
            refine ⟨_, _, dp_intsN (SqL.of hDe), dp_nilL (SqL.of upd_same), shaped_intsN (by omega), rfl, _, rfl, ?_⟩
            rw [eqv_nil]
            cases eT : ts.getLast? with
            | none =>
              have e0 : ts = [] := by simpa using eT
              rw [e0]
              refine iteF ⟨?_, se⟩
              rw [r1, eT]
              simp
            | some t =>
              obtain ⟨t0, e0⟩ := List.getLast?_eq_some_iff.mp eT
              have hne : (ts.map fun k => PyData.int (k : Nat)).isEmpty = false := by rw [e0]; simp
              rw [hne]
              refine iteT ⟨_, rfl, _, rfl, _, rfl, D, _, _, .int (t : Nat), rfl, rfl, SqL.of hDe, (by rw [e0, List.map_append]; exact atI_last _ _), _, _, rfl, rfl, _, rfl, a, _, _, _, rfl, rfl, same_seqT (sH3.trans se) hT, at_of (j := 0) rfl rfl, _, _, rfl, rfl, _, rfl, ?_, se⟩
              have htl := tlt t (by rw [e0]; simp)
              rw [decide_eq_true h0, Bool.true_and, r1, eT]
              refine decide_eq_decide.mpr ?_
              dsimp only
              rw [min2]
              split <;> omega
          rintro x H4 ⟨rfl, s4⟩
          have hDD4 := s4 _ _ hDD3
          have sH4 := sH3.trans s4
          refine iteB (fun e => ?_) (fun e => ?_)
          · rw [Bool.and_eq_true, decide_eq_true_eq, decide_eq_true_eq] at e
            refine ⟨_, rfl, ret ?_ _ sH4⟩
            rw [hbad]
            unfold okM
            rw [decide_eq_false e.1, decide_eq_false (show ¬ g ≤ R.1 by omega)]
            simp
          have hsoon : m.1 = 0 ∨ g ≤ R.1 := by
            rw [Bool.and_eq_false_iff, decide_eq_false_iff_not, decide_eq_false_iff_not] at e
            omega
          -- the turn itself
          refine ⟨fun σ H' => σ = [some (.ref a), some (.ref l), some (.int ((i : Nat) : Int)), some (.ref D), some (.int m.1), some (.bl m.2), v6] ∧ Same H H' ∧ H' D = some (.lst ((tns row (i + 1)).map fun k => V.int (k : Nat))), ?_, ?_⟩
          · refine ⟨_, rfl, rfl, _, rfl, ?_⟩
            rw [tns_succ hm, htE]
            by_cases h0 : m.1 = 0
            · refine iteNS (vint_eq h0) ⟨rfl, sH4, ?_⟩
              rw [if_pos h0, List.append_nil]; exact hDD4
            · refine iteNT (vint_ne h0) ⟨_, rfl, .inl ⟨rfl, _, SqL.of hDD4⟩, _, rfl, D, _, _, rfl, rfl, hDD4, ?_, rfl, same_put Dfree sH4, ?_⟩
              · rw [List.length_map]; exact small1000 (by omega)
              · rw [if_neg h0, upd_same, List.map_append]; rfl
          rintro σ H5 ⟨rfl, sH5, hDD5⟩
          have tnl5 := tns_len row (i + 1)
          have hT5 : (tns row (i + 1)).getLast? = if m.1 = 0 then ts.getLast? else some i := by
            rw [tns_succ hm, htE]
            split
            · rw [List.append_nil]
            · rw [List.getLast?_append]; rfl
          refine ⟨fun x H' => x = (m.2 && !((R.2 || decide (m.1 ≠ 0)) && decide ((if m.1 = 0 then R.1 else 0) < b))) ∧ Same H5 H', ?_, ?_⟩
          · refine ⟨_, rfl, _, rfl, iteB (fun eo => ?_) (fun eo => ?_)⟩
            · rw [eo, Bool.true_and]
              refine ⟨_, rfl, Nat.zero_le _, fun e he => ?_⟩
              have se := same_new he (o := .lst [])
              have hDe := se _ _ hDD5
              refine ⟨_, _, dp_intsN (SqL.of hDe), dp_nilL (SqL.of upd_same), shaped_intsN (by omega), rfl, _, rfl, ?_⟩
              rw [eqv_nil]
              cases eT : (tns row (i + 1)).getLast? with
              | none =>
                have e0 : tns row (i + 1) = [] := by simpa using eT
                rw [e0]
                refine iteT ⟨?_, se⟩
                rw [hT5] at eT
                split at eT
                · rename_i h0
                  have e1 : ts = [] := by simpa using eT
                  rw [r2, e1]
                  simp [h0]
                · cases eT
              | some t =>
                obtain ⟨t0, e0⟩ := List.getLast?_eq_some_iff.mp eT
                have hne : ((tns row (i + 1)).map fun k => PyData.int (k : Nat)).isEmpty = false := by rw [e0]; simp
                rw [hne]
                refine iteF ⟨_, rfl, _, rfl, _, rfl, D, _, _, .int (t : Nat), rfl, rfl, SqL.of hDe, (by rw [e0, List.map_append]; exact atI_last _ _), _, _, rfl, rfl, _, rfl, a, _, _, _, rfl, rfl, same_seqT (sH5.trans se) hT, at_of (j := 1) rfl rfl, _, _, rfl, rfl, _, rfl, ?_, se⟩
                rw [hT5] at eT
                split at eT
                · rename_i h0
                  have htl := tlt t (List.mem_of_getLast? eT)
                  have : ts.isEmpty = false := by
                    cases ts with
                    | nil => cases eT
                    | cons _ _ => rfl
                  rw [r2, this, r1, eT, if_pos h0]
                  dsimp only
                  rw [Bool.not_false, Bool.true_or, Bool.true_and, ← decide_not]
                  refine decide_eq_decide.mpr ?_
                  rw [min2]
                  split <;> omega
                · rename_i h0
                  cases eT
                  rw [if_neg h0, decide_eq_true h0, Bool.or_true, Bool.true_and, ← decide_not]
                  refine decide_eq_decide.mpr ?_
                  omega
            · rw [eo, Bool.false_and]; exact ⟨rfl, Same.refl _⟩
          rintro x H6 ⟨rfl, s6⟩
          have sH6 := sH5.trans s6
          refine iteB (fun e => ?_) (fun e => ?_)
          · rw [Bool.and_eq_true] at e
            refine ⟨_, rfl, ret ?_ _ sH6⟩
            rw [hbad]
            unfold okM
            rw [e.1]
            have : ((R.2 || decide (m.1 ≠ 0)) && decide ((if m.1 = 0 then R.1 else 0) < b)) = false := by rw [Bool.not_eq_true'] at e; exact e.2
            rw [this]
            simp
          · refine ⟨⟨_, _, _, _, _, rfl⟩, sH6, fun j hj => ?_⟩
            by_cases hji : j < i
            · exact hno j hji
            · have : j = i := by omega
              subst this
              rw [hbad]
              unfold okM
              rw [decide_eq_false c1, decide_eq_true c2, Bool.false_or, Bool.true_and]
              have q1 : (decide (m.1 = 0) || decide (g ≤ R.1)) = true := by simpa using hsoon
              rw [q1, Bool.true_and]
              cases hm2 : m.2 with
              | false => rfl
              | true =>
                rw [hm2, Bool.true_and] at e
                have : ((R.2 || decide (m.1 ≠ 0)) && decide ((if m.1 = 0 then R.1 else 0) < b)) = true := by rw [Bool.not_eq_false'] at e; exact e
                rw [this]
                rfl
        · refine iteBT ?_ ?_
          · show (!(inV (V.int m.1) ([(-1 : Int), 0, 1].map V.int))) = true
            rw [inV_ints, decide_eq_false (by simpa using c2)]; rfl
          · exact ⟨_, rfl, ret (by rw [hbad]; unfold okM; rw [decide_eq_false c2]; simp) _ sH3⟩
    · rintro σ H1 ⟨⟨v2, v3, v4, v5, v6, rfl⟩, s1, hno⟩
      have := k H1 s1
      rw [bad_none (fun j hj => hno j (by omega))] at this
      exact this
end
/-! ### a list gone through, and a list made, while an error is handled -/
namespace HotL
open PySem PySem.Spec PyProof.Rows L2 HotX L2H
theorem hot_apart {A : Around} {x1 it l : Addr} {i : Nat} {h : Heap} (hot : HotAt A x1 h) (st : h.IsListIter it l i) : x1 ≠ it := fun z => by
  obtain ⟨_, o, vs, h1, d1, c1⟩ := hot
  obtain ⟨o2, h2, _, d2⟩ := st
  rw [z, h2] at h1
  cases h1
  rw [d2] at d1
  cases d1
  cases c1
theorem list_end {P : Program} {w : World} {A : Around} {E : Value → Shared → Prop} {s : Shared} {it l x1 : Addr} {i : Nat} {items : Array Value} {Q : Option Value → Shared → Prop}
    (hot : HotAt A x1 s.heap) (st : s.heap.IsListIter it l i) (hl : s.heap.IsList l items) (out : items[i]? = none) (fin : ∀ h', (∀ b o, b ≠ it → s.heap.get? b = some o → h'.get? b = some o) → Q none { s with heap := h' }) :
    wpAny (model P w) A (pyNext (.ref it)) Q E s := by
  have ap := hot_apart hot st
  obtain ⟨oi, gi, ci, di⟩ := id st
  obtain ⟨ol, gl, _, nl, dl⟩ := hl
  obtain ⟨hh, o1, v1, g1, d1, c1⟩ := hot
  unfold pyNext
  refine wpAny_bind (wpAny_attempt (wpAny_callSpecial?_slot (name := Str.ofString "__next__") st.typeIs slot_listiter_next (wpAny_call_entry slot_listiter_next st.typeIs entry_listiter_next ?_ (args_listiter_next _))))
  show wpAny _ _ (field (.ref it) 0 >>= _) _ _ s
  refine wpAny_bind (wpAny_field gi di (x := .ref l) rfl ?_)
  show wpAny _ _ (if (Value.ref l == Value.none) = true then _ else _) _ _ s
  rw [if_neg (show ¬ ((Value.ref l == Value.none) = true) from Bool.false_ne_true)]
  show wpAny _ _ (field (.ref it) 1 >>= _) _ _ s
  refine wpAny_bind (wpAny_field gi di (x := .int i 0) rfl ?_)
  show wpAny _ _ (seqItems? (.ref l) >>= _) _ _ s
  refine wpAny_bind (wpAny_seqItems gl dl ?_)
  simp only [Int.toNat_natCast, out]
  refine wpAny_bind (wpAny_rule (wpAny_bind (wpAny_setField gi di (by simp) ?_)))
  show wpAny _ _ (newExc (.type "StopIteration") [] >>= _) _ _ _
  refine wpAny_bind ?_
  simp only [newExc, newTuple]
  refine wpAny_bind (wpAny_newObj_type ?_ (by size_fits))
  refine wpAny_bind (m := firstArgMember _ _) (wpAny_of_eq (a := Value.none) (by first | rfl | (simp only [firstArgMember]; rfl)) ?_)
  refine wpAny_newObj_type ?_ (by size_fits)
  have g2 := (Heap.get?_update_other s.heap (Obj.mapFields (·.setIfInBounds 0 Value.none)) (Ne.symm ap)).trans g1
  have keep2 : ∀ b o, b ≠ it → s.heap.get? b = some o → (s.heap.update it (Obj.mapFields (·.setIfInBounds 0 Value.none))).get? b = some o := fun b o nb e => (Heap.get?_update_other _ _ (Ne.symm nb)).trans e
  refine raiseNew_hot ⟨hh, o1, v1, Heap.get?_push_of_some _ (Heap.get?_push_of_some _ g2), d1, c1⟩ (Nat.ne_of_lt (Heap.lt_size (Heap.get?_push_of_some _ g2))) (Heap.get?_push_size _ rfl) rfl (by first | (simp; done) | (simp; omega) | (simp only [Array.size_append]; simp; omega)) ?_
  refine wpAny_bind (wpAny_isInstance (T := "StopIteration") (b := true) ⟨_, Heap.get?_update_self _ (Heap.get?_push_size _ rfl) rfl, rfl⟩ isSubtype_stop ?_)
  refine wpAny_pure (fin _ fun b o nb e => ?_)
  have e2 := keep2 b o nb e
  rw [Heap.get?_update_other _ _ (Nat.ne_of_gt (Heap.lt_size (Heap.get?_push_of_some _ e2)))]
  exact Heap.get?_push_of_some _ (Heap.get?_push_of_some _ e2)
theorem turnL {P : Program} {w : World} {K : PySem.W.Frag} {tg : Expr} (a it : Addr) : TurnH P w K tg (Itl K a) [it] it (fun i h => h.IsListIter it a i) where
  mem := (turn_list (P := P) (w := w) (K := K) (tg := tg) a it).mem
  obj := (turn_list (P := P) (w := w) (K := K) (tg := tg) a it).obj
  keep := (turn_list (P := P) (w := w) (K := K) (tg := tg) a it).keep
  item := fun X hP hw hK _ i pins s σ H E I hf st hg => by
    subst hP hw hK
    obtain ⟨xs, x, hq, hx⟩ := hg
    obtain ⟨its, rv, pl, _⟩ := I.list hq
    obtain ⟨u, hu, ru⟩ := rv.get hx
    have ff := hf it (by simp)
    refine wpAny_pyNext_list_item st pl.isList (x := u) (by simpa using hu) fun h' st' sb => ?_
    have J : Inv X pins σ H { s with heap := h' } := I.turned (t' := s.toks) (fun b o nb e => (sb.2 b nb).trans e) ff.1 ff.2.1 ff.2.2.2.1 ff.2.2.2.2.1 ff.2.2.2.2.2
    obtain ⟨o, e, c, d⟩ := id st'
    refine ⟨u, rfl, go_of (s := { s with heap := h' }) e c d (by decide) ⟨x, H, J, ru, ⟨rfl, fun ys hy => ?_⟩, st', fun b hb => (hf b hb).1⟩⟩
    rw [I.list_inj hy hq]
    exact hx
  done := fun X hP hw hK hc i pins s σ H E I hf st hg => by
    subst hP hw hK
    obtain ⟨xs, hq, hx⟩ := hg
    obtain ⟨its, rv, pl, _⟩ := I.list hq
    have ff := hf it (by simp)
    have hl := rv.length
    obtain ⟨x1, hot⟩ := hc.at I
    exact list_end hot st pl.isList (by simp; omega) fun h' kk => ⟨rfl, I.turned (t' := s.toks) kk ff.1 ff.2.1 ff.2.2.2.1 ff.2.2.2.2.1 ff.2.2.2.2.2⟩
  self := (turn_list (P := P) (w := w) (K := K) (tg := tg) a it).self
theorem pi_listH {X : Cx} {tg l : Expr} {tl : TE} (hl : PE X l tl) : PIH X tg l (iList X.K tl) := by
  constructor
  intro pins s σ H R I h
  refine thn (hl.run pins s σ H _ I h) fun v s1 hv => ?_
  obtain ⟨x, H1, J, r, a, e, ⟨xs, hq⟩, q⟩ := hv
  subst e
  cases r
  obtain ⟨its, rv, pl, _⟩ := J.list hq
  refine wpAny_pyIter_list pl.isList ⟨s1.heap.objs.size, [s1.heap.objs.size], _, _, H1, rfl, J.kept (t' := s1.toks) fun b o e => Heap.get?_push_of_some _ e, turnL a _, ⟨_, Heap.get?_push_size _ rfl, rfl, rfl⟩, fun b hb => ?_, q⟩
  have e : b = s1.heap.objs.size := by simpa using hb
  rw [e]
  exact J.fpOk (Nat.le_refl _) (J.hok.fresh (Nat.le_refl _))
/-- a block's context that keeps the pins -/
abbrev blkP (X : Cx) (s : Shared) (H : Hp) (scope : Scope) (cenv : Env) (fp : List Addr) : Cx := { X.blk s H scope cenv fp with pn := X.pn }
theorem ok_pn {X : Cx} {pn : List (Addr × Obj)} (k : X.Ok) : ({ X with pn := pn } : Cx).Ok :=
  ⟨k.mod, k.kind, k.glob, k.blt, k.above, k.inj, k.has, k.cab, k.hd, k.frames, k.stk, k.exf, k.bs, k.bsz, k.noex, k.exfs, k.funs, k.frf⟩
theorem startP {X : Cx} {pins : List (Addr × Obj)} {σ : L2.St} {H : Hp} {s : Shared} {scope : Scope} {own : List (Str × Nat)} {fp : List Addr} (I : Inv X pins σ H s) (ok : BlkOk X.N X.env.scope scope own) (nd : X.N.Nodup) (hfp : ∀ b ∈ fp, FpOk X pins H b ∧ b < s.heap.objs.size) :
    Inv (blkP X s H scope (compEnvC scope (cellsFrom (s.heap.objs.size + 1) scope.names (cloFrom X.env.cells scope.names [])) s.heap.objs.size X.env) fp) [] (wipe σ (own.map (·.2))) H { s with heap := pushCells (s.heap.push { cls := .type "dict", data := .dict #[] }) scope.names } := by
  have B := block_start I ok nd hfp
  refine ⟨ok_pn B.ok, B.os, B.bare, B.base, B.loc, B.cell, B.free, B.freeC, fun p hp => ?_, B.hok, B.len⟩
  have hp : p ∈ X.pn := by simpa using hp
  obtain ⟨a1, a2, a3, a4, a5⟩ := I.pin p (List.mem_append_left _ hp)
  refine ⟨pushCells_keeps _ _ _ _ (Heap.get?_push_of_some _ a1), a2, ?_, fun hm => ?_, a5⟩
  · show p.1 ≠ s.heap.objs.size
    exact Nat.ne_of_lt (Heap.lt_size a1)
  · rcases List.mem_cons.mp (I.stkSub p.1 hm) with z | z
    · exact a3 z
    · exact a4 z
/-- [e for x in l] in an except suite -/
theorem pe_lcH {X : Cx} {elt tg iter : Expr} {ifs : List Expr} {scope : Scope} {own : List (Str × Nat)} {pos : Pos} {wi : TI} {g : TG} {tt : TT} {te : TE} (hc : HotC X) (nd : X.N.Nodup) (hi : PIH X tg iter wi) (ok : BlkOk X.N X.env.scope scope own)
    (hg : ∀ (s : Shared) (H : Hp) (C : Addr) (cl : List (Str × Addr)) (fp : List Addr), PG (blkP X s H scope (compEnvC scope cl C X.env) fp) tg g)
    (ht : ∀ (s : Shared) (H : Hp) (C : Addr) (cl : List (Str × Addr)) (fp : List Addr), PTs (blkP X s H scope (compEnvC scope cl C X.env) fp) ifs tt)
    (he : ∀ (s : Shared) (H : Hp) (C : Addr) (cl : List (Str × Addr)) (fp : List Addr), PE (blkP X s H scope (compEnvC scope cl C X.env) fp) elt te)
    (hs : ∀ x, foldedSetIterable iter X.env x = pure x := by intro _; rfl) : PE X (.ListComp elt [⟨tg, iter, ifs, 0⟩] scope pos) (tLc wi g tt te (own.map (·.2))) := by
  constructor
  intro pins s σ H Q I h
  rw [eval_ListComp]
  have fr : ∀ y ∈ scope.names, y.2 = .free → ∃ c, X.env.cells.lookup y.1 = some c := fun y hy e => (ok.free y hy e).elim (fun k => I.ok.has _ (.inl k)) fun k => I.ok.has _ (.inr k)
  refine wpAny_comprehension_free rfl hs (closure_ok fr) ok.kind (fun y hy e => by rw [ok.uniq y hy, e]) (thn (hi.run pins s σ H _ I h) fun _ s1 hx => thn hx fun _ s2 h2 => ?_)
  obtain ⟨it, fp, tn, J, H2, e, I2, T, st2, f2, q⟩ := h2
  subst e
  refine wpAny_newObj_type (newEnv_comp ?_) (by show 0 ≤ sizeLine; decide)
  generalize hD : s2.heap.objs.size = D
  obtain ⟨W, ⟨m0, w0⟩, turn⟩ := q D (I2.hok.fresh (Nat.le_of_eq hD))
  generalize hs3 : ({ s2 with heap := s2.heap.push { cls := .type "list", data := .seq ([] : List Value).toArray } } : Shared) = s3
  have h3 : s3.heap = s2.heap.push { cls := .type "list", data := .seq ([] : List Value).toArray } := by rw [← hs3]
  have I3 : Inv X pins σ (upd H2 D (.lst [])) s3 := by
    rw [← hs3]
    refine I2.laid (t' := s2.toks) (fun b o e => Heap.get?_push_of_some _ e) (Nat.le_of_eq hD) ⟨Nat.zero_le _, [], 0, .nil, ?_⟩
    rw [← hD]
    exact Heap.get?_push_size _ rfl
  have f3 : ∀ b ∈ fp, FpOk X pins (upd H2 D (.lst [])) b ∧ b < s3.heap.objs.size := fun b hb => by
    obtain ⟨o, eo, _⟩ := T.obj _ _ st2 b hb
    have lt := Heap.lt_size eo
    have nb : b ≠ D := by rw [← hD]; exact Nat.ne_of_lt lt
    exact ⟨⟨by rw [upd_ne nb]; exact (f2 b hb).1, (f2 b hb).2⟩, by rw [h3, Heap.size_push]; exact Nat.lt_succ_of_lt lt⟩
  have st3 : tn 0 s3.heap := T.keep _ _ _ st2 fun b _ o e => by rw [h3]; exact Heap.get?_push_of_some _ e
  have I4 := startP I3 ok nd f3
  have pg := hg s3 (upd H2 D (.lst [])) s3.heap.objs.size (cellsFrom (s3.heap.objs.size + 1) scope.names (cloFrom X.env.cells scope.names [])) fp
  have pt := ht s3 (upd H2 D (.lst [])) s3.heap.objs.size (cellsFrom (s3.heap.objs.size + 1) scope.names (cloFrom X.env.cells scope.names [])) fp
  have pe := he s3 (upd H2 D (.lst [])) s3.heap.objs.size (cellsFrom (s3.heap.objs.size + 1) scope.names (cloFrom X.env.cells scope.names [])) fp
  show codeAny _ _ (.compStart (.ListComp elt [⟨tg, iter, ifs, 0⟩] scope pos) 0 (.ref it) (.ref D) (compEnvC scope (cellsFrom (s3.heap.objs.size + 1) scope.names (cloFrom X.env.cells scope.names [])) s3.heap.objs.size X.env)) _ { s3 with heap := pushCells (s3.heap.push { cls := .type "dict", data := .dict #[] }) scope.names }
  generalize hce : compEnvC scope (cellsFrom (s3.heap.objs.size + 1) scope.names (cloFrom X.env.cells scope.names [])) s3.heap.objs.size X.env = ce at I4 pg pt pe ⊢
  have cL : ce.locals = s3.heap.objs.size := by subst hce; rfl
  generalize hs4 : ({ s3 with heap := pushCells (s3.heap.push { cls := .type "dict", data := .dict #[] }) scope.names } : Shared) = s4 at I4 ⊢
  have st4 : tn 0 s4.heap := T.keep _ _ _ st3 fun b _ o e => by rw [← hs4]; exact pushCells_keeps _ _ _ _ (Heap.get?_push_of_some _ e)
  have hB : HotC (blkP X s3 (upd H2 D (.lst [])) scope ce fp) := hc
  have stat : ∀ {σ' : L2.St} {H' : Hp} {s' : Shared}, Inv (blkP X s3 (upd H2 D (.lst [])) scope ce fp) [] σ' H' s' → (∀ b ∈ fp, H' b = none) → ∀ b ∈ fp, FpOk (blkP X s3 (upd H2 D (.lst [])) scope ce fp) [] H' b := fun I' hn b hb =>
    ⟨hn b hb, (I'.ok.exf b hb).1, I'.ok.exfs b hb, .inl hb, (I'.ok.exf b hb).2, fun p hp => (f3 b hb).1.2.2.2.2.2 p (List.mem_append_left _ (by simpa using hp))⟩
  have loop : codeAny (model X.prog X.w) X.A (.compLoop (.ListComp elt [⟨tg, iter, ifs, 0⟩] scope pos) 0 (.ref it) (.ref D) ce) (compPost (model X.prog X.w) X.A X.xe none (EP X pins σ Q) (.ref D) s3.heap.objs.size) s4 := by
    refine compLoop_any (fun n s' => ∃ i H', Inv (blkP X s3 (upd H2 D (.lst [])) scope ce fp) [] (wipe σ (own.map (·.2))) H' s' ∧ tn i s'.heap ∧ (∀ b ∈ fp, H' b = none) ∧ W i n H') ?_ m0 ⟨0, _, I4, st4, fun b hb => (f3 b hb).1.1, w0⟩
    rintro n s5 ⟨i, H5, I5, st5, n5, w5⟩
    rcases turn i n H5 w5 with ⟨stop, qq⟩ | ⟨go, Nx, hNx, step⟩
    · refine thnF (T.done (blkP X s3 (upd H2 D (.lst [])) scope ce fp) rfl rfl rfl hB i [] s5 _ H5 (fun _ _ => False) I5 (stat I5 n5) st5 stop) fun r s6 ⟨hr, I6⟩ => ?_
      subst hr
      have I7 : Inv X pins σ H5 s6 := I3.call' (ch := fp) I6.os I6.base I6.hok I6.bare fun b hb => ⟨(f3 b hb).1.2.2.2.1, (f3 b hb).1.2.1, (f3 b hb).1.2.2.2.2.1, (f3 b hb).1.2.2.2.2.2⟩
      have nC : H5 s3.heap.objs.size = none := by
        have z : H5 ce.locals = none := I6.free
        rw [cL] at z
        exact z
      obtain ⟨m, hn, _⟩ := I6.loc
      have hn : s6.heap.Ns ce.locals m := hn
      rw [cL] at hn
      refine ⟨m, hn, fun h'' sb => ?_⟩
      have ff := I3.fpOk (H' := H5) (Nat.le_refl _) nC
      exact ⟨.ref D, H5, I7.turned (t' := s6.toks) (fun b o nb e => (sb.2 b nb).trans e) ff.1 ff.2.1 ff.2.2.2.1 ff.2.2.2.2.1 ff.2.2.2.2.2, rfl, qq⟩
    · refine thnF (T.item (blkP X s3 (upd H2 D (.lst [])) scope ce fp) rfl rfl rfl hB i [] s5 _ H5 (fun _ _ => False) I5 (stat I5 n5) st5 go) fun r s6 ⟨u, hr, h6⟩ => ?_
      subst hr
      refine thnF h6 fun _ s7 ⟨x, H7, I7, r7, y7, st7, n7⟩ => ?_
      refine thnF (pg.run _ s7 _ H7 x u _ (I7.pinned (stat I7 n7) (T.obj _ _ st7)) r7 (step x H7 y7)) fun _ s8 ⟨σ8, H8, I8, hw8, q8⟩ => ?_
      refine thnF (pt.run _ s8 σ8 H8 _ I8 q8) fun b s9 ⟨H9, I9, q9⟩ => ?_
      have again : ∀ {s' : Shared} {H' : Hp}, Inv (blkP X s3 (upd H2 D (.lst [])) scope ce fp) ([] ++ pinsAt fp s7.heap) σ8 H' s' → Nx H' →
          ∃ m, m < n ∧ ∃ i H', Inv (blkP X s3 (upd H2 D (.lst [])) scope ce fp) [] (wipe σ (own.map (·.2))) H' s' ∧ tn i s'.heap ∧ (∀ b ∈ fp, H' b = none) ∧ W i m H' := fun {s' H'} I' nx => by
        obtain ⟨m', hm, w'⟩ := hNx H' nx
        have pin' : ∀ b ∈ fp, ∀ o, s7.heap.get? b = some o → s'.heap.get? b = some o ∧ H' b = none := fun b hb o e =>
          ⟨(I'.pin (b, o) (List.mem_append_right _ (List.mem_append_right _ (mem_pinsAt hb e)))).1, (I'.pin (b, o) (List.mem_append_right _ (List.mem_append_right _ (mem_pinsAt hb e)))).2.1⟩
        refine ⟨m', hm, i + 1, H', (I'.unpinned (pins := [])).weak (by rw [← hw8, wipe_length]) (fun j v e => ?_), T.keep _ _ _ st7 fun b hb o e => (pin' b hb o e).1, fun b hb => ?_, w'⟩
        · rw [← hw8] at e
          exact (wipe_some e).1
        · obtain ⟨o, e, _⟩ := T.obj _ _ st7 b hb
          exact (pin' b hb o e).2
      cases b with
      | false =>
        simp only [Bool.false_eq_true, if_false] at q9 ⊢
        exact again I9 q9
      | true =>
        simp only [if_true] at q9 ⊢
        refine thnF (pe.run _ s9 σ8 H9 _ I9 q9) fun z s10 ⟨yv, H10, I10, r10, acc, hD10, hz10, nx⟩ => ?_
        exact app_ok (X := blkP X s3 (upd H2 D (.lst [])) scope ce fp) I10 hD10 hz10 r10 fun s11 I11 => again I11 nx
  exact codeAny_compStart_list loop (T.self X.A 0 _ _ _ st4 loop)
end HotL
/-! ### what is refused -/
section
open PySem PySem.Spec PyProof.Rows L2 L2H
variable {P : Program} {w : World} {K : PySem.W.Frag} {mg : Str → Option Value} {base : Heap}
theorem okH {CX : CXT} {x qual : Str} {st : Stmt} {f : Addr} {fd : FuncData} {N ps : List Str} {k : Nat} {sp : Sp} (F : Fun K x qual st f fd) (S : FnScope N ps (defScope st)) (len : ∀ vs H Q E, sp vs H Q E → vs.length = ps.length)
    (hb : ∀ (cdv : Value) (A : Around) (outer : List Env) (s : Shared) (H : Hp) (vs : List V) (Q : VK) (E : XK) (p : Addr × Obj), Hot1 A p → RoomH k (A.deeper (envOfC qual (defScope st) s.heap.objs.size f cdv)) → sp vs H Q E →
      ∃ t, PSs (cxH CX P w K mg base N qual (defScope st) f cdv A outer s H E p) (defBody st) t ∧ t { nx := fun _ H' => Q .non H', rt := Q } (L2.start N vs) H) : FnH P w K mg base CX (k + 1) f fd ps sp := by
  obtain ⟨oc, od, kV, doc, pm, an, cdv, ct, osl, rfl, lk, hcd⟩ := F.ex
  exact fn_ofH lk hcd S len fun A outer s H vs Q E p hp hr hsp => hb cdv A outer s H vs Q E p hp hr hsp
/-- _law_alike of one number or one text, while an error is handled -/
def spAlikeH : Sp := fun vs H Q _ => ∃ v : V, vs = [v, v] ∧ ((∃ n, v = .int n) ∨ ∃ z, v = .str z) ∧ Q (.bl true) H
theorem sc_alikeh : FnScope ["_law_found", "_law_due", "_law_k"] ["_law_found", "_law_due"] (defScope (top 27)) := ⟨rfl, rfl, rfl, by decide +kernel, rfl, by decide +kernel, by decide +kernel⟩
theorem ok_alikeh {f : Addr} {fd : FuncData} (F : Fun K "_law_alike" "_law_alike" (top 27) f fd) (n_isinstance : mg "isinstance" = none) (n_bool : mg "bool" = none) (n_int : mg "int" = none) (n_str : mg "str" = none) : FnH P w K mg base CX0 1 f fd ["_law_found", "_law_due"] spAlikeH := by
  have sc := sc_alikeh
  refine okH F sc (fun vs H Q E h => ?_) (fun cdv A outer s H vs Q E p hp hr h => ?_)
  · obtain ⟨v, rfl, _⟩ := h
    rfl
  · obtain ⟨v, rfl, hv, k⟩ := h
    refine ⟨_, (pss_cons (ps_if (pt_cmpR op_isN (pv 1) pe_non (nomark _))
(pss_one (ps_ret (pe_cmpR op_isN (pv 0) pe_non (nomark _))))
pss_nil)
(pss_cons (ps_if (pt_val (pe_callB (r := rIsi K) call_isi (by rfl) n_isinstance (by decide +kernel) (pa_cons (pv 1) (pa_cons (pe_bltn (v := .ty "bool") (by rfl) n_bool (by decide +kernel) rfl) pa_nil))))
(pss_one (ps_ret (pe_and (pe_callB (r := rIsi K) call_isi (by rfl) n_isinstance (by decide +kernel) (pa_cons (pv 0) (pa_cons (pe_bltn (v := .ty "bool") (by rfl) n_bool (by decide +kernel) rfl) pa_nil))) (pe_one (pe_cmpR op_eq (pv 0) (pv 1) (nomark _))))))
pss_nil)
(pss_cons (ps_if (pt_val (pe_callB (r := rIsi K) call_isi (by rfl) n_isinstance (by decide +kernel) (pa_cons (pv 1) (pa_cons (pe_bltn (v := .ty "int") (by rfl) n_int (by decide +kernel) rfl) pa_nil))))
(pss_one (ps_ret (pe_and (pe_callB (r := rIsi K) call_isi (by rfl) n_isinstance (by decide +kernel) (pa_cons (pv 0) (pa_cons (pe_bltn (v := .ty "int") (by rfl) n_int (by decide +kernel) rfl) pa_nil))) (pe_and (pe_not (pe_callB (r := rIsi K) call_isi (by rfl) n_isinstance (by decide +kernel) (pa_cons (pv 0) (pa_cons (pe_bltn (v := .ty "bool") (by rfl) n_bool (by decide +kernel) rfl) pa_nil)))) (pe_one (pe_cmpR op_eq (pv 0) (pv 1) (nomark _)))))))
pss_nil)
(pss_cons (ps_if (pt_val (pe_callB (r := rIsi K) call_isi (by rfl) n_isinstance (by decide +kernel) (pa_cons (pv 1) (pa_cons (pe_bltn (v := .ty "str") (by rfl) n_str (by decide +kernel) rfl) pa_nil))))
(pss_one (ps_ret (pe_and (pe_callB (r := rIsi K) call_isi (by rfl) n_isinstance (by decide +kernel) (pa_cons (pv 0) (pa_cons (pe_bltn (v := .ty "str") (by rfl) n_str (by decide +kernel) rfl) pa_nil))) (pe_one (pe_cmpR op_eq (pv 0) (pv 1) (nomark _))))))
pss_nil)
pss_never)))), ?_⟩
    refine ⟨_, rfl, rfl, _, rfl, ?_⟩
    rcases hv with ⟨n, rfl⟩ | ⟨z, rfl⟩
    · refine iteDF (by simp) (t_isi (t := "int") (b := false) rfl (.base (.int n)) (by decide +kernel) (iteF ?_))
      refine t_isi (t := "int") (b := true) rfl (.base (.int n)) (by decide +kernel) (iteT ?_)
      refine e_isi (t := "int") (b := true) rfl (.base (.int n)) (by decide +kernel) ⟨_, rfl, iteT ?_⟩
      refine e_isi (t := "int") (b := false) rfl (.base (.int n)) (by decide +kernel) ⟨_, rfl, _, rfl, iteT ⟨_, rfl, _, rfl, rfl, ?_⟩⟩
      rw [decide_eq_true rfl]; exact k
    · refine iteDF (by simp) (t_isi (t := "str") (b := false) rfl (.base (.str z)) (by decide +kernel) (iteF ?_))
      refine t_isi (t := "str") (b := false) rfl (.base (.str z)) (by decide +kernel) (iteF ?_)
      refine t_isi (t := "str") (b := true) rfl (.base (.str z)) (by decide +kernel) (iteT ?_)
      refine e_isi (t := "str") (b := true) rfl (.base (.str z)) (by decide +kernel) ⟨_, rfl, iteT ⟨_, rfl, _, rfl, rfl, ?_⟩⟩
      rw [decide_eq_true rfl]; exact k
/-- what isinstance asks of an error's class -/
structure ExcK (K : PySem.W.Frag) (D : Addr) : Prop where
  cl : (PySem.W.clsIn K D).isSome = true
  hg : PySem.W.findIn K (.ref D) "__getattribute__" = some (some (.builtin "BaseException.__getattribute__"))
  hk : PySem.W.findIn K (.ref D) "__getattr__" = some none
  hs : PySem.W.subIn K (.ref D) (.type "BaseException") = some true
  ha : PySem.W.findIn K (.ref D) "__class__" = some (some (.builtin "object.__class__"))
  hn : PySem.W.specialIn K (.builtin "object.__class__") "__get__" = some (some (.builtin "getset_descriptor.__get__"))
  ht : PySem.W.takesIn K (.builtin "object.__class__") = some true
  hm : PySem.W.mroIn K D (.type "object") = some true
/-- isinstance(e, c) in the suite, e an error of the program -/
def rIsX (K : PySem.W.Frag) (a : Addr) (cls : Value) (d : Option Addr) : List V → Hp → VK → Prop := fun xs H Q => ∃ (c : V) (cv : Value) (b : Bool) (D dd : Addr) (fs : List (Str × V)),
  xs = [.ref a, c] ∧ (∀ u, RelV c u → u = cv) ∧ cls = .ref D ∧ d = some dd ∧ ExcK K D ∧ H dd = some (.xd fs) ∧ PySem.W.kitOne K (.ref D) cv = some b ∧ Q (.bl b) H
theorem e_isx {a C dd : Addr} {fs : List (Str × V)} {c : V} {cv : Value} {b : Bool} {i : Nat} {σ : L2.St} {H : Hp} {Q : VK} (h : σ[i]? = some (some (.ref a))) (T : ExcK K C) (hx : H dd = some (.xd fs)) (hc : ∀ u, RelV c u → u = cv) (hk : PySem.W.kitOne K (.ref C) cv = some b) (q : Q (.bl b) H) :
    tCB (rIsX K a (.ref C) (some dd)) (tCons (tVar i) (tCons (tC c) tNil)) σ H Q := ⟨_, h, _, _, _, C, dd, _, rfl, hc, rfl, rfl, T, hx, hk, q⟩
theorem t_isx {a C dd : Addr} {fs : List (Str × V)} {c : V} {cv : Value} {b : Bool} {i : Nat} {σ : L2.St} {H : Hp} {Q : Bool → Hp → Prop} (h : σ[i]? = some (some (.ref a))) (T : ExcK K C) (hx : H dd = some (.xd fs)) (hc : ∀ u, RelV c u → u = cv) (hk : PySem.W.kitOne K (.ref C) cv = some b) (q : Q b H) :
    tB (tCB (rIsX K a (.ref C) (some dd)) (tCons (tVar i) (tCons (tC c) tNil))) σ H Q := e_isx h T hx hc hk ⟨_, rfl, q⟩
theorem call_isX {X : Cx} {a : Addr} {oe : Obj} {cls : Value} {d : Option Addr} {pn : List (Addr × Obj)} (hz : L2N.Zn cls d oe) (hf : ∃ vs, oe.data = .fields vs) : CallR (X.suite a ((a, oe) :: pn)) (.builtin "isinstance") (rIsX X.K a cls d) := by
  intro pins s σ H xs us Q I r h
  obtain ⟨c, cv, b, D, dd, fs, rfl, hcv, ec, ed, T, hx, e, q⟩ := h
  cases r with
  | cons ra rr =>
    cases rr with
    | cons rc rn =>
      cases rn
      cases ra
      have e1 := hcv _ rc
      subst e1
      obtain ⟨hget, _⟩ := I.pin (a, oe) (List.mem_append_left _ List.mem_cons_self)
      obtain ⟨vs, hv⟩ := hf
      have ok : ObjOk X.prog X.w H s.heap dd (.xd fs) := I.hok dd _ hx
      obtain ⟨mA, hns, _⟩ := ok
      obtain ⟨od, ho, _⟩ := lookIn_ns hns
      have J : PySem.W.InstAt s.heap a oe D (some od) := ⟨hget, hz.1.trans ec, by unfold PySem.W.notCls; rw [hv] <;> rfl, by rw [hz.2.1, ed]; exact ho⟩
      exact PySem.W.kia_one (PySem.W.kitx_exc T.cl T.hg T.hk T.hs T.ha T.hn T.ht T.hm) I.kIn J e (fun z => nomatch z) fun tk => ⟨.bl b, H, I.kept (t' := tk) fun _ _ z => z, rfl, q⟩
theorem hot_suite {X : Cx} {a : Addr} {oe : Obj} {cls : Value} {d : Option Addr} {pn : List (Addr × Obj)} (hz : L2N.Zn cls d oe) (hf : ∃ vs, oe.data = .fields vs) : HotC (X.suite a ((a, oe) :: pn)) := by
  obtain ⟨vs, hv⟩ := hf
  exact ⟨(a, oe), ⟨rfl, vs, hv, hz.2.2 vs hv⟩, List.mem_cons_self⟩
theorem units_mark {k : Nat} {A : Around} {v : Option Value} (hr : Room k A) : (A.mark v).units + 64 < cLine := hr.units
theorem room_mark {k : Nat} {A : Around} {v : Option Value} (hr : Room k A) : RoomH k (A.mark v) := ⟨hr.dp, hr.un⟩
/-- what a call of f without arguments does, from any state behind (s, H) -/
def Act (P : Program) (w : World) (K : PySem.W.Frag) (mg : Str → Option Value) (base : Heap) (k : Nat) (outer : List Env) (s : Shared) (H : Hp) (f : Addr) (tl : XK → Hp → VK → Prop) : Prop :=
  ∀ (A : Around) (o2 : List Env) (s2 : Shared) (H2 : Hp) (Q : VK) (E : XK), Room k A → Env0 P w K mg base A o2 s2 H2 → Un (frs outer) [] H H2 s.heap s2.heap → tl E H2 Q →
    PySem.W.FnAt f s2.heap ∧ codeAny (model P w) A (.call (.ref f) ⟨[], []⟩) (CR (L2N.CX P w) o2 P w H2 s2 Q E) s2
def tAct (i : Nat) (f : Addr) (W : WX) (tl : XK → Hp → VK → Prop) : TE := fun σ H Q => σ[i]? = some (some (.ref f)) ∧ ∃ E : XK, (∀ cls d H', E cls d H' → W cls d σ H') ∧ tl E H Q
theorem pe_actN {X : Cx} {k i : Nat} {f : Addr} {a : Str} {W : WX} {tl : XK → Hp → VK → Prop} {p q : Pos} (act : Act X.prog X.w X.K X.mg X.base k X.outer X.s_0 X.H_0 f tl) (hr : Room k X.A) (tk : L2N.Takes X W) (hex : X.ex = []) (hN : X.N[i]? = some a) (hv : Vis X.env.scope a)
    (hd : (a == ("__debug__" : Str)) = false := by decide) (hcd : (a == ("__classdict__" : Str)) = false := by decide) : PE X (.Call (.Name a p) [] [] q) (tAct i f W tl) := by
  constructor
  intro pins s σ H Q I h
  obtain ⟨h1, E, hW, ht⟩ := h
  refine wpAny_Call_Name_kw (thn ((pe_var (pos := p) (i := i) hN hv hd hcd).run pins s σ H (fun v H1 => v = .ref f ∧ H1 = H) I ⟨.ref f, h1, rfl, rfl⟩) fun u s1 hu => ?_)
  obtain ⟨v, H1, I1, r1, ev, eH⟩ := hu
  subst ev
  rw [eH] at I1
  obtain rfl : u = Value.ref f := r1
  have un : Un (frs X.outer) [] X.H_0 H X.s_0.heap s1.heap := by
    have := I1.base
    rw [hex] at this
    exact this
  obtain ⟨fn, rc⟩ := act X.A X.stack s1 H Q E hr I1.env0 un ht
  refine PySem.W.callWith_F0 fn (wpAny_call (codeAny_mono rc fun r s' hq => ?_))
  cases r with
  | error e => exact L2N.passAt (W := W) tk σ pins H s1 e s' I1 (by obtain ⟨a, B, H', cls, d, e1, e2, e3, e4, e5, e6, e7, e8⟩ := hq; exact ⟨a, B, H', cls, d, e1, e2, e3, e4, e5, e6, e7, hW _ _ _ e8⟩)
  | ok fl =>
    cases fl with
    | ret u => exact I1.after hq
    | next => exact False.elim hq
    | brk => exact False.elim hq
    | cont => exact False.elim hq
/-- the class C of the errors that a word names -/
structure ErrW (K : PySem.W.Frag) (CE Ck Cr Cw Ct : Addr) (z : Str) (C : Addr) (fl : Str) : Prop where
  ex : PySem.W.exmOne K (.ref C) (.ref CE) = some true
  xc : ExcK K C
  xf : XfC K C
  n1 : PySem.W.findIn K (.ref C) "why" = some none
  n2 : PySem.W.findIn K (.ref C) "at" = some none
  k0 : PySem.W.kitOne K (.ref C) (.ref Ck) = some (decide (z = "knob"))
  k1 : PySem.W.kitOne K (.ref C) (.ref Cr) = some (decide (z = "reader"))
  k2 : PySem.W.kitOne K (.ref C) (.ref Cw) = some (decide (z = "row"))
  k3 : PySem.W.kitOne K (.ref C) (.ref Ct) = some (decide (z = "text"))
  kv : PySem.W.kitOne K (.ref C) (.type "ValueError") = some true
  fld : fl = if z = "knob" ∨ z = "reader" then "why" else "at"
def tRef (C : Addr) (fl : Str) (v : V) (tl : XK → Hp → VK → Prop) (H : Hp) (Q : VK) : Prop :=
  tl (fun cls d H' => cls = .ref C ∧ ∃ dd, d = some dd ∧ H' dd = some (.xd [(fl, v)]) ∧ ∀ H'', Same H' H'' → Q (.bl true) H'') H (fun _ H' => Q (.bl false) H')
/-- what _law_refused promises -/
def RefOk (P : Program) (w : World) (K : PySem.W.Frag) (mg : Str → Option Value) (base : Heap) (CE Ck Cr Cw Ct : Addr) (k : Nat) (g : Addr) (fd : FuncData) (ps : List Str) : Prop :=
  ∀ (A : Around) (outer : List Env) (s : Shared) (H : Hp) (args : Args) (us : List Value) (f C : Addr) (z fl : Str) (v : V) (Q : VK) (tl : XK → Hp → VK → Prop), Room (k + 1) A → Env0 P w K mg base A outer s H → BindsTo s fd args (ps.zip us) → Vals [.ref f, .str z, v] us →
    ((∃ n, v = .int n) ∨ ∃ y, v = .str y) → ErrW K CE Ck Cr Cw Ct z C fl → Act P w K mg base k outer s H f tl → tRef C fl v tl H Q → codeAny (model P w) A (.call (.ref g) args) (CR CX0 outer P w H s Q E0) s
theorem takesN0 {X : Cx} : L2N.Takes X (fun _ _ _ _ => False) := fun _ _ x => by
  obtain ⟨_, _, _, _, _, _, _, _, _, _, _, _, _, _, _, _, z⟩ := x
  exact z.elim
theorem sc_refd : FnScope ["_law_work", "_law_word", "_law_value", "e", "_law_kinds", "_law_words", "_law_one"] ["_law_work", "_law_word", "_law_value"] (defScope (top 28)) := ⟨rfl, rfl, rfl, by decide +kernel, rfl, by decide +kernel, by decide +kernel⟩
set_option maxHeartbeats 4000000 in
theorem ok_refd {f CE Ck Cr Cw Ct : Addr} {fd : FuncData} {k : Nat} (F : Fun K "_law_refused" "_law_refused" (top 28) f fd) (n_isinstance : mg "isinstance" = none) (n_ValueError : mg "ValueError" = none) (ge : mg "KnobError" = some (.ref CE)) (gk : mg "BadKnob" = some (.ref Ck)) (gr : mg "BadReader" = some (.ref Cr))
    (gw : mg "BadRow" = some (.ref Cw)) (gt : mg "BadText" = some (.ref Ct)) {fa : Addr} {fda : FuncData} (al : FnH P w K mg base CX0 1 fa fda ["_law_found", "_law_due"] spAlikeH) (ga : mg "_law_alike" = some (.ref fa)) (ka : PySem.W.keepIn K (.ref fa) = true) (ba : Binds K fda ["_law_found", "_law_due"] []) :
    RefOk P w K mg base CE Ck Cr Cw Ct (k + 2) f fd ["_law_work", "_law_word", "_law_value"] := by
  intro A outer s H args us fw C z fl v Q tl hr e0 hb rv hv ew hact ht
  have sc := sc_refd
  obtain ⟨oc, od, kV, doc, pm, an, cdv, ct, osl, rfl, lk, hcd⟩ := F.ex
  refine LamX.run_ofS (k := k + 2) lk hcd sc hr e0 hb rv rfl fun hr => ?_
  have nm_KnobError : Names (cxOf CX0 P w K mg base ["_law_work", "_law_word", "_law_value", "e", "_law_kinds", "_law_words", "_law_one"] "_law_refused" (defScope (top 28)) f cdv A outer s H E0).nox "KnobError" (.ref CE) := ⟨rfl, by decide, .inl ge⟩
  refine ⟨_, PSs.nox (pss_cons (L2N.ps_try_as (i := 3) rfl rfl sc.nd rfl rfl nm_KnobError takesN0 (fun W pn xe tk _ => (pss_one (ps_expr (pe_actN (i := 0) hact (hr.mono (by first | decide | omega)) tk rfl rfl (Or.inl rfl)))))
(fun a oe cls d pn hz hf => (pss_cons (ps_set (i := 4) sc.nd rfl (Or.inl rfl) (pe_lst (pa_cons (pe_callB (r := rIsX K a cls d) (call_isX hz hf) (by rfl) n_isinstance (by decide +kernel) (pa_cons (pv 3) (pa_cons (pe_glob (v := .ref Ck) rfl gk rfl) pa_nil))) (pa_cons (pe_callB (r := rIsX K a cls d) (call_isX hz hf) (by rfl) n_isinstance (by decide +kernel) (pa_cons (pv 3) (pa_cons (pe_glob (v := .ref Cr) rfl gr rfl) pa_nil))) (pa_cons (pe_callB (r := rIsX K a cls d) (call_isX hz hf) (by rfl) n_isinstance (by decide +kernel) (pa_cons (pv 3) (pa_cons (pe_glob (v := .ref Cw) rfl gw rfl) pa_nil))) (pa_cons (pe_callB (r := rIsX K a cls d) (call_isX hz hf) (by rfl) n_isinstance (by decide +kernel) (pa_cons (pv 3) (pa_cons (pe_glob (v := .ref Ct) rfl gt rfl) pa_nil))) pa_nil))))))
(pss_cons (ps_set (i := 5) sc.nd rfl (Or.inl rfl) (pe_lst (pa_cons pe_str (pa_cons pe_str (pa_cons pe_str (pa_cons pe_str pa_nil))))))
(pss_cons (ps_if (PW.pt (pw_or (pt_not (pt_val (pe_callB (r := rIsX K a cls d) (call_isX hz hf) (by rfl) n_isinstance (by decide +kernel) (pa_cons (pv 3) (pa_cons (pe_bltn (v := .ty "ValueError") (by rfl) n_ValueError (by decide +kernel) rfl) pa_nil))))) (pw_or1 (pt_cmpR (r := rNeD K) (op_neD (units_mark hr)) (pv 4) (HotL.pe_lcH (wi := iList K (tVar 5)) (X := ((cxOf CX0 P w K mg base ["_law_work", "_law_word", "_law_value", "e", "_law_kinds", "_law_words", "_law_one"] "_law_refused" (defScope (top 28)) f cdv A outer s H E0).nox).suite a ((a, oe) :: pn)) (own := [("_law_one", 6)]) (g := gName 6) (hot_suite hz hf) sc.nd (HotL.pi_listH (X := ((cxOf CX0 P w K mg base ["_law_work", "_law_word", "_law_value", "e", "_law_kinds", "_law_words", "_law_one"] "_law_refused" (defScope (top 28)) f cdv A outer s H E0).nox).suite a ((a, oe) :: pn)) (pv 5)) (blkOk_by (own := [("_law_one", 6)]) (N := ["_law_work", "_law_word", "_law_value", "e", "_law_kinds", "_law_words", "_law_one"]) (sc := defScope (top 28)) (by decide +kernel)) (fun _ _ _ _ _ => (pg_name (i := 6) sc.nd rfl (Or.inl rfl))) (fun _ _ _ _ _ => pts_nil) (fun _ _ _ _ _ => (pe_cmpR op_eq (pv 1) (pv 6) (nomark _)))) (nomark _)))))
(pss_one (ps_ret pe_bl))
pss_nil)
(pss_one (ps_ret (pe_callH (E := fun _ => E0) al (RoomH.mono (room_mark hr) (by omega)) (hot_suite hz hf) (by rfl) ga ka ba (fun _ _ _ _ _ _ _ h => h.elim) (pa_cons (pe_ifExp (pt_cmpR (r := rIn K false) op_in_seq (pv 1) (pe_tup (pa_cons pe_str (pa_cons pe_str pa_nil))) (by rfl)) (pe_xf (C := C) ew.xf ew.n1 hz.zc hf (pv 3)) (pe_xf (C := C) ew.xf ew.n2 hz.zc hf (pv 3))) (pa_cons (pv 2) pa_nil))))))))))
(pss_one (ps_ret pe_bl))), ?_⟩
  refine ⟨rfl, _, fun cls d H1 hE => ?_, ht⟩
  obtain ⟨rfl, dd, rfl, hdd, kk⟩ := hE
  refine ⟨true, ew.ex, fun _ a ha => ?_, fun z => nomatch z⟩
  have rc : ∀ {D : Addr} (u : Value), RelV (.ref D) u → u = .ref D := fun u h => h
  refine e_isx rfl ew.xc hdd rc ew.k0 (e_isx rfl ew.xc hdd rc ew.k1 (e_isx rfl ew.xc hdd rc ew.k2 (e_isx rfl ew.xc hdd rc ew.k3 ⟨by show 4 ≤ sizeLine; rw [sizeLine_eq]; omega, fun p1 hp1 => ?_⟩)))
  have nd1 : dd ≠ p1 := fun z => by rw [z, hp1] at hdd; cases hdd
  have sm1 := same_new hp1 (o := .lst [.bl (decide (z = "knob")), .bl (decide (z = "reader")), .bl (decide (z = "row")), .bl (decide (z = "text"))])
  refine ⟨by show 4 ≤ sizeLine; rw [sizeLine_eq]; omega, fun p2 hp2 => ?_⟩
  have sm2 := sm1.trans (same_new hp2 (o := .lst [.str "knob", .str "reader", .str "row", .str "text"]))
  have hK : upd (upd H1 p1 (.lst [.bl (decide (z = "knob")), .bl (decide (z = "reader")), .bl (decide (z = "row")), .bl (decide (z = "text"))])) p2 (.lst [.str "knob", .str "reader", .str "row", .str "text"]) p1 = some (.lst [.bl (decide (z = "knob")), .bl (decide (z = "reader")), .bl (decide (z = "row")), .bl (decide (z = "text"))]) := by
    rw [upd_ne (fun e => by rw [← e, upd_same] at hp2; cases hp2), upd_same]
  have hW := upd_same (H := upd H1 p1 (.lst [.bl (decide (z = "knob")), .bl (decide (z = "reader")), .bl (decide (z = "row")), .bl (decide (z = "text"))])) (a := p2) (o := .lst [.str "knob", .str "reader", .str "row", .str "text"])
  generalize upd (upd H1 p1 (.lst [.bl (decide (z = "knob")), .bl (decide (z = "reader")), .bl (decide (z = "row")), .bl (decide (z = "text"))])) p2 (.lst [.str "knob", .str "reader", .str "row", .str "text"]) = H3 at sm2 hK hW ⊢
  have hd3 := sm2 _ _ hdd
  refine t_isx (cv := .type "ValueError") rfl ew.xc hd3 (fun u h => h) ew.kv (iteF ⟨_, rfl, _, rfl, p2, rfl, ⟨_, SqL.of hW⟩, fun D hD => ?_⟩)
  refine lc_list (xs := [.str "knob", .str "reader", .str "row", .str "text"]) (fun i H' => Same H3 H' ∧ H' D = some (.lst (([.str "knob", .str "reader", .str "row", .str "text"] : List V).take i |>.map fun y => V.bl (decide (V.str z = y))))) ⟨same_new hD, upd_same⟩ (fun i H' _ h => SqL.of (h.1 _ _ hW)) ?_ ?_
  · rintro i x H' hx ⟨s1, hD1⟩
    have hi : i < 4 := by
      by_cases hi : i < 4
      · exact hi
      · rw [List.getElem?_eq_none (by simpa using hi)] at hx
        cases hx
    obtain ⟨y, rfl⟩ : ∃ y, x = .str y := by
      have hm := List.mem_of_getElem? hx
      simp only [List.mem_cons, List.not_mem_nil, or_false] at hm
      rcases hm with e | e | e | e <;> exact ⟨_, e⟩
    refine ⟨rfl, _, rfl, _, rfl, rfl, _, hD1, ?_, (fun b o e => ?_), ?_⟩
    · rw [sizeLine_eq]
      simp
      omega
    · rw [upd_ne (ne_of_none e hD)]
      exact s1 b o e
    · rw [upd_same, List.take_add_one, hx]
      simp
  · rintro H4 ⟨s4, hD4⟩
    have eD : (([.str "knob", .str "reader", .str "row", .str "text"] : List V).take 4 |>.map fun y => V.bl (decide (V.str z = y))) = [.bl (decide (z = "knob")), .bl (decide (z = "reader")), .bl (decide (z = "row")), .bl (decide (z = "text"))] := by simp
    have hD5 : H4 D = some (.lst [.bl (decide (z = "knob")), .bl (decide (z = "reader")), .bl (decide (z = "row")), .bl (decide (z = "text"))]) := by rw [← eD]; exact hD4
    refine ⟨.list [.bool (decide (z = "knob")), .bool (decide (z = "reader")), .bool (decide (z = "row")), .bool (decide (z = "text"))], .list [.bool (decide (z = "knob")), .bool (decide (z = "reader")), .bool (decide (z = "row")), .bool (decide (z = "text"))],
      .lst (SqL.of (s4 _ _ hK)) (.cons (.bl _) (.cons (.bl _) (.cons (.bl _) (.cons (.bl _) .nil)))), .lst (SqL.of hD5) (.cons (.bl _) (.cons (.bl _) (.cons (.bl _) (.cons (.bl _) .nil)))), by rfl, by rfl, false, ?_, ?_⟩
    · generalize decide (z = "knob") = b0, decide (z = "reader") = b1, decide (z = "row") = b2, decide (z = "text") = b3
      revert b0 b1 b2 b3
      decide
    · refine iteF ⟨_, rfl, by show 2 ≤ sizeLine; rw [sizeLine_eq]; omega, fun p3 hp3 => ?_⟩
      refine ⟨p3, _, rfl, .inr (SqT.of upd_same), rfl, rfl, _, rfl, ?_⟩
      have s5 := s4.trans (same_new hp3 (o := .tup [.str "knob", .str "reader"]))
      have d5 := s5 _ _ hd3
      have fin : ∀ H'', Same H1 H'' → Q (.bl true) H'' := kk
      by_cases hz : z = "knob" ∨ z = "reader"
      · have e1 : inV (.str z) [.str "knob", .str "reader"] = true := by
          rcases hz with e | e <;> (subst e; decide)
        have ef : fl = "why" := by rw [ew.fld, if_pos hz]
        show if inV (.str z) [.str "knob", .str "reader"] = true then _ else _
        rw [if_pos e1]
        exact ⟨_, rfl, rfl, rfl, dd, _, v, rfl, d5, by rw [ef]; rfl, _, rfl, v, rfl, hv, fin _ (sm2.trans s5)⟩
      · have e1 : ¬ inV (.str z) [.str "knob", .str "reader"] = true := by
          intro h
          have h : (eqV (.str "knob") (.str z) || (eqV (.str "reader") (.str z) || false)) = true := h
          simp [eqV] at h
          rcases h with h | h
          · exact hz (.inl h.symm)
          · exact hz (.inr h.symm)
        have ef : fl = "at" := by rw [ew.fld, if_neg hz]
        show if inV (.str z) [.str "knob", .str "reader"] = true then _ else _
        rw [if_neg e1]
        exact ⟨_, rfl, rfl, rfl, dd, _, v, rfl, d5, by rw [ef]; rfl, _, rfl, v, rfl, hv, fin _ (sm2.trans s5)⟩
end
/-! ### lambdas as values -/
section
open PySem PySem.Spec PyProof.Rows L2 LamX
/-- the function object of a lambda -/
def FunO (f : Addr) (o : Obj) : HO := .ext fun h => h.get? f = some o
theorem funO_ok {P : Program} {w : World} {H : Hp} {h : Heap} {f : Addr} {o : Obj} (e : h.get? f = some o) : ObjOk P w H h f (FunO f o) := ⟨e, ⟨o, e⟩, fun _ _ e1 k => k o e1⟩
/-- f is the lambda (params, body, scope) made in the context X, c its code object -/
def LamAt (X : Cx) (params : Arguments) (body : Expr) (scope : Scope) (f c : Addr) (H : Hp) : Prop :=
  H c = some (CodeO c (X.env.qual ++ "<lambda>")) ∧ ∃ pm ctv : Value, H f = some (FunO f (PySem.W.kla_obj "<lambda>" (X.env.qual ++ "<lambda>") params body scope (cloFrom X.env.cells scope.names []) pm c ctv))
theorem LamAt.ext {X : Cx} {params : Arguments} {body : Expr} {scope : Scope} {f c : Addr} {H H' : Hp} (l : LamAt X params body scope f c H) (s : Same H H') : LamAt X params body scope f c H' := by
  obtain ⟨h1, pm, ctv, h2⟩ := l
  exact ⟨s _ _ h1, pm, ctv, s _ _ h2⟩
def tLamV (X : Cx) (T : List (Addr × Str)) (params : Arguments) (body : Expr) (scope : Scope) : TE := fun _ H Q => Tabs T H ∧ ∀ (f c : Addr) (H1 : Hp), ExtN H H1 → Tabs T H1 → LamAt X params body scope f c H1 → Q (.ref f) H1
theorem funO_ne {f : Addr} {o : Obj} (ps : Array Value) : FunO f o ≠ .tbl ps := fun z => by
  unfold FunO at z
  cases z
/-- lambda: body -/
theorem pe_lam {X : Cx} {T : List (Addr × Str)} {c P : Addr} {params : Arguments} {body : Expr} {scope : Scope} {pos : Pos} (TB : TabB X.base X.mg c P) (hcode : X.env.code = .ref c) (hm : (P, X.env.qual ++ "<lambda>") ∈ T) (hu : ∀ p ∈ T, p.1 = P → p.2 = X.env.qual ++ "<lambda>")
    (L : LamS X.env.scope scope) (hdef : defaultsOf params X.env = ([], [])) : PE X (.Lambda params body scope pos) (tLamV X T params body scope) := by
  constructor
  intro pins s σ H Q I h
  obtain ⟨hT, h⟩ := h
  obtain ⟨ps, hP, ht, ha⟩ := hT _ hm
  have bP : s.heap.BuiltinsAt X.mg P := TB.bm.keeps I.bk
  have gP : s.heap.get? P = some { cls := .none, data := .fields ps } := I.hok P _ hP
  refine PySem.W.kla_eval hdef ?_
  cases hc : codeAmong pos ps.toList with
  | none =>
    refine PySem.W.kla_makeFunction (mg := X.mg) (c := c) (P := P) (ps := ps) (closure_ok (L.has I.ok)) I.ok.glob (I.mod.glob.keeps I.bk) hcode (TB.code.keeps I.bk) gP ht hc TB.gP bP fun c' ctv h' tk hx hge hlt hrec htb => ?_
    obtain ⟨c2, oc, vs, t, e2, hoc, hd, hv⟩ := hrec
    cases e2
    have nC : H c' = none := I.hok.fresh hge
    have J := inv_table (t' := tk) (more := #[rawInt pos.line, rawInt pos.col, .ref c']) (h' := h') I hP hx htb hge ⟨oc, vs, t, hoc, hd, hv⟩
    have nF : upd (upd H P (.tbl (ps ++ #[rawInt pos.line, rawInt pos.col, .ref c']))) c' (CodeO c' (X.env.qual ++ "<lambda>")) h'.objs.size = none := J.hok.fresh (Nat.le_refl _)
    have J2 := J.laid (a := h'.objs.size) (t' := tk) (o := FunO h'.objs.size (PySem.W.kla_obj "<lambda>" (X.env.qual ++ "<lambda>") params body scope (cloFrom X.env.cells scope.names []) ((X.mg "__name__").getD .none) c' ctv))
      (h' := h'.push (PySem.W.kla_obj "<lambda>" (X.env.qual ++ "<lambda>") params body scope (cloFrom X.env.cells scope.names []) ((X.mg "__name__").getD .none) c' ctv)) (fun b o e => Heap.get?_push_of_some _ e) (Nat.le_refl _) (funO_ok (Heap.get?_push_size _ rfl))
    have x1 : ExtN H (upd (upd H P (.tbl (ps ++ #[rawInt pos.line, rawInt pos.col, .ref c']))) c' (CodeO c' (X.env.qual ++ "<lambda>"))) := fun b o e n => by
      rw [upd_ne (ne_of_none e nC), upd_ne (fun z => n ps (Option.some.inj (e.symm.trans (by rw [z]; exact hP))))]
      exact e
    have T1 : Tabs T (upd (upd H P (.tbl (ps ++ #[rawInt pos.line, rawInt pos.col, .ref c']))) c' (CodeO c' (X.env.qual ++ "<lambda>"))) := fun p hp => by
      by_cases hb : p.1 = P
      · rw [hu p hp hb, hb]
        have eL : (ps ++ #[rawInt pos.line, rawInt pos.col, .ref c']).toList = ps.toList ++ [rawInt pos.line, rawInt pos.col, .ref c'] := by simp
        refine ⟨_, by rw [upd_ne (ne_of_none hP nC), upd_same], by rw [eL]; exact PySem.TriplesOk_snoc _ _ _ _ ht, fun p' cv hcv => ?_⟩
        rw [eL] at hcv
        rcases among_app _ ht hcv with z | z
        · obtain ⟨c0, e1, e2⟩ := ha p' cv z
          exact ⟨c0, e1, x1 _ _ e2 codeO_ne⟩
        · exact ⟨c', z, upd_same⟩
      · obtain ⟨ps', a1, a2, a3⟩ := hT p hp
        refine ⟨ps', by rw [upd_ne (ne_of_none a1 nC), upd_ne hb]; exact a1, a2, fun p' cv hcv => ?_⟩
        obtain ⟨c0, e1, e2⟩ := a3 p' cv hcv
        exact ⟨c0, e1, x1 _ _ e2 codeO_ne⟩
    have x2 := same_new nF (o := FunO h'.objs.size (PySem.W.kla_obj "<lambda>" (X.env.qual ++ "<lambda>") params body scope (cloFrom X.env.cells scope.names []) ((X.mg "__name__").getD .none) c' ctv))
    exact ⟨.ref h'.objs.size, _, J2, rfl, h _ c' _ (x1.trans (ExtN.of x2)) (T1.ext x2) ⟨x2 _ _ upd_same, _, _, upd_same⟩⟩
  | some cv =>
    obtain ⟨c', e, hco⟩ := ha pos cv hc
    subst e
    refine PySem.W.kla_makeFunctionHit (mg := X.mg) (c := c) (P := P) (ps := ps) (closure_ok (L.has I.ok)) I.ok.glob (I.mod.glob.keeps I.bk) hcode (TB.code.keeps I.bk) gP ht hc bP fun ctv h' tk hx hsz => ?_
    have J : Inv X pins σ H { s with heap := h', toks := tk } := I.kept hx
    have nF : H h'.objs.size = none := J.hok.fresh (Nat.le_refl _)
    have J2 := J.laid (a := h'.objs.size) (t' := tk) (o := FunO h'.objs.size (PySem.W.kla_obj "<lambda>" (X.env.qual ++ "<lambda>") params body scope (cloFrom X.env.cells scope.names []) ((X.mg "__name__").getD .none) c' ctv))
      (h' := h'.push (PySem.W.kla_obj "<lambda>" (X.env.qual ++ "<lambda>") params body scope (cloFrom X.env.cells scope.names []) ((X.mg "__name__").getD .none) c' ctv)) (fun b o e => Heap.get?_push_of_some _ e) (Nat.le_refl _) (funO_ok (Heap.get?_push_size _ rfl))
    have x2 := same_new nF (o := FunO h'.objs.size (PySem.W.kla_obj "<lambda>" (X.env.qual ++ "<lambda>") params body scope (cloFrom X.env.cells scope.names []) ((X.mg "__name__").getD .none) c' ctv))
    exact ⟨.ref h'.objs.size, _, J2, rfl, h _ c' _ (ExtN.of x2) (hT.ext x2) ⟨x2 _ _ hco, _, _, upd_same⟩⟩
/-- the context of a lambda's body -/
def lamN (X : Cx) (A : Around) (outer : List Env) (s : Shared) (H : Hp) (E : XK) (scope : Scope) (f c : Addr) : Cx :=
  { lamCx X A outer s H E scope f c with xe := fun e s' => wpAny (model X.prog X.w) (A.deeper (lamEnv X scope s.heap.objs.size f c)) (leaving (lamEnv X scope s.heap.objs.size f c) e) (fun _ s'' => L2N.CX X.prog X.w outer H s E e s'') (fun e' s'' => L2N.CX X.prog X.w outer H s E e' s'') s' }
theorem inv_lamN {X : Cx} {A : Around} {outer : List Env} {s s1 : Shared} {H H1 : Hp} {E : XK} {scope : Scope} {f c : Addr} {pins : List (Addr × Obj)} {σ : L2.St} (I : Inv (lamCx X A outer s H E scope f c) pins σ H1 s1) : Inv (lamN X A outer s H E scope f c) pins σ H1 s1 := by
  obtain ⟨k, h1, h2, h3, h4, h5, h6, h7, h8, h9, h10⟩ := I
  exact ⟨⟨k.mod, k.kind, k.glob, k.blt, k.above, k.inj, k.has, k.cab, k.hd, k.frames, k.stk, k.exf, k.bs, k.bsz, k.noex, k.exfs, k.funs, k.frf⟩, h1, h2, h3, h4, h5, h6, h7, h8, h9, h10⟩
/-- the lambda called, while the def that made it stands -/
theorem lam_act {X : Cx} {pins : List (Addr × Obj)} {σ : L2.St} {H : Hp} {s : Shared} {params : Arguments} {body : Expr} {scope : Scope} {f c : Addr} {k : Nat} {t : XK → TE} (I : Inv X pins σ H s) (L : LamS X.env.scope scope)
    (hbind : ∀ (q : Str) (cl : List (Str × Addr)) (pm cv ctv : Value), bindArgs (PySem.W.kla_fn "<lambda>" q params body scope cl pm cv ctv) ⟨[], []⟩ = pure [])
    (hbody : ∀ (A : Around) (outer : List Env) (s : Shared) (H : Hp) (E : XK) (f c : Addr), Room k (A.deeper (lamEnv X scope s.heap.objs.size f c)) → PE (lamN X A outer s H E scope f c) body (t E)) :
    Act X.prog X.w X.K X.mg X.base (k + 1) X.stack s H f (fun E H2 Q => LamAt X params body scope f c H2 ∧ t E σ H2 Q) := by
  intro A o2 s2 H2 Q E hr e0 un ht
  obtain ⟨⟨hc, pm, ctv, hf⟩, ht⟩ := ht
  have okf : ObjOk X.prog X.w H2 s2.heap f (FunO f _) := e0.hok f _ hf
  have gf := okf.1
  have okc : ObjOk X.prog X.w H2 s2.heap c (CodeO c _) := e0.hok c _ hc
  obtain ⟨oc, vs, tq, hoc, hdc, hvc⟩ := okc.1
  have lim : s2.heap.NoLimit := e0.mod.nolimit.keeps fun b o e => (e0.bs b o e).1
  refine ⟨⟨_, _, _, _, gf⟩, ?_⟩
  refine PySem.W.kla_callFunE hr.depth gf rfl L.co L.gen rfl ⟨c, oc, vs, tq, rfl, hoc, hdc, hvc⟩ ?_
  have eb := hbind (X.env.qual ++ "<lambda>") (cloFrom X.env.cells scope.names []) pm (.ref c) ctv
  rw [show bindArgs _ ⟨[], []⟩ = pure [] from eb]
  refine wpAny_pure (wpAny_newFunctionEnv (fun y hy => (L.own y hy).2) (fun y hy => absurd hy (by simp)) (fun h₁ hns hsb => ⟨lim.fresh _ hsb, ?_⟩) L.kind)
  show codeAny _ _ (.expr body (lamEnv X scope s2.heap.objs.size f c)) _ _
  have kp : ∀ b o, s2.heap.get? b = some o → h₁.get? b = some o := fun b o e => hsb.extBut b o (Nat.ne_of_lt (Heap.lt_size e)) (Heap.get?_push_of_some _ e)
  have J := inv_lamN (lam_start2 (E := E) (f := f) (c' := c) (tk := s2.toks + ([] : List (Str × Value)).length) I L e0 hr.hd un hns kp)
  refine PySem.W.kla_codeExpr (wpAny_mono ((hbody _ _ s2 H2 E f c (hr.deeper _)).run [] _ _ H2 Q J ht) (fun v s' hq => ?_) fun e s' hq => hq)
  obtain ⟨w', H', J', rv, q⟩ := hq
  exact ⟨w', H', J'.os, J'.bare, J'.base, J'.hok, rv, q⟩
/-- _law_refused(e1, e2, e3) -/
def tRefC (X : Cx) (CE Ck Cr Cw Ct : Addr) (k : Nat) (ta : TA) : TE := fun σ H Q => ta σ H fun vs H1 => ∃ (f C : Addr) (z fl : Str) (v : V) (tl : XK → Hp → VK → Prop), vs = [.ref f, .str z, v] ∧ ((∃ n, v = .int n) ∨ ∃ y, v = .str y) ∧ ErrW X.K CE Ck Cr Cw Ct z C fl ∧
  (∀ (pins : List (Addr × Obj)) (s : Shared), Inv X pins σ H1 s → Act X.prog X.w X.K X.mg X.base k X.stack s H1 f tl) ∧ tRef C fl v tl H1 Q
theorem pe_refd {X : Cx} {CE Ck Cr Cw Ct g : Addr} {fd : FuncData} {k : Nat} {ps : List Str} {x : Str} {e : Expr} {es : List Expr} {ta : TA} {p pos : Pos} (R : RefOk X.prog X.w X.K X.mg X.base CE Ck Cr Cw Ct k g fd ps) (hr : Room (k + 1) X.A) (hm : X.mg x = some (.ref g)) (hk : PySem.W.keepIn X.K (.ref g) = true) (hb : Binds X.K fd ps []) (h3 : ps.length = 3)
    (ha : PA X (e :: es) ta) (hg : Gl X x := by rfl) (hdb : (x == ("__debug__" : Str)) = false := by decide) (he : starEach (e :: es) X.env = (false, eval e X.env) :: starEach es X.env := by rfl) (hpl : (backTo pos (starEach es X.env)).any (·.1) = false := by rfl) :
    PE X (.Call (.Name x p) (e :: es) [] pos) (tRefC X CE Ck Cr Cw Ct k ta) := by
  constructor
  intro pins s σ H Q I h
  refine wpAny_Call_Name_kw (ld_glob I hg hm ?_ hdb)
  refine PySem.W.callWith_K (h₀ := X.base) I.ok.mod.kin hk (thn (ha.run pos pins s σ H _ I h) fun us s1 hu => ?_) he hpl
  obtain ⟨vs, H1, I1, r, f, C, z, fl, v, tl, rfl, hv, ew, act, q⟩ := hu
  refine ⟨I1.kIn, ?_⟩
  have b := hb s1 us I1.kIn (by rw [List.append_nil, ← r.length, h3]; rfl)
  rw [List.append_nil] at b
  refine wpAny_call (codeAny_mono (R X.A X.stack s1 H1 ⟨us, []⟩ us f C z fl v Q tl hr I1.env0 b r hv ew (act pins s1 I1) q) fun r s' hq => ?_)
  cases r with
  | error e => exact (show False from hq).elim
  | ok fl =>
    cases fl with
    | ret u => exact I1.after hq
    | next => exact False.elim hq
    | brk => exact False.elim hq
    | cont => exact False.elim hq
end
/-! ### lambdas with a default -/
section
open PySem PySem.Spec PyProof.Rows L2 LamX
/-- captured names, globals, and own names that the maker has not -/
structure LamD (N : List Str) (sc scope : Scope) : Prop where
  kind : scope.kind = .function
  co : scope.isCoroutine = false
  gen : scope.isGenerator = false
  own : ∀ y ∈ scope.names, (y.2 = .local → y.1 ∉ N) ∧ y.2 ≠ .cell
  fre : ∀ y ∈ scope.names, y.2 = .free → sc.names.lookup y.1 = some .cell ∨ sc.names.lookup y.1 = some .free
def lamDB (N : List Str) (sc scope : Scope) : Bool :=
  decide (scope.kind = .function) && !scope.isCoroutine && !scope.isGenerator && scope.names.all fun y => (!decide (y.2 = .local) || !decide (y.1 ∈ N)) && !decide (y.2 = .cell) && (!decide (y.2 = .free) || decide (sc.names.lookup y.1 = some .cell) || decide (sc.names.lookup y.1 = some .free))
theorem lamD_by {N : List Str} {sc scope : Scope} (h : lamDB N sc scope = true) : LamD N sc scope := by
  unfold lamDB at h
  simp only [Bool.and_eq_true, List.all_eq_true, Bool.or_eq_true, Bool.not_eq_true', decide_eq_true_eq, decide_eq_false_iff_not] at h
  obtain ⟨⟨⟨a1, a2⟩, a3⟩, a4⟩ := h
  refine ⟨a1, a2, a3, fun y hy => ⟨fun e => ?_, (a4 y hy).1.2⟩, fun y hy e => ?_⟩
  · rcases (a4 y hy).1.1 with z | z
    · exact absurd e z
    · exact z
  · rcases (a4 y hy).2 with (z | z) | z
    · exact absurd e z
    · exact .inl z
    · exact .inr z
theorem LamD.has {X : Cx} {scope : Scope} (L : LamD X.N X.env.scope scope) (ok : X.Ok) : ∀ y ∈ scope.names, y.2 = .free → ∃ c, X.env.cells.lookup y.1 = some c := fun y hy e => (L.fre y hy e).elim (fun k => ok.has _ (.inl k)) (fun k => ok.has _ (.inr k))
theorem lam_startD {X : Cx} {pins : List (Addr × Obj)} {σ : L2.St} {H H2 : Hp} {s s2 : Shared} {A : Around} {outer : List Env} {E : XK} {scope : Scope} {f c : Addr} {h1 : Heap} {tk : Nat} {m : Str → Option Value} (I : Inv X pins σ H s) (L : LamD X.N X.env.scope scope)
    (e0 : Env0 X.prog X.w X.K X.mg X.base A outer s2 H2) (hd : A.handled = none) (un : Un (frs X.stack) [] H H2 s.heap s2.heap) (hns : h1.Ns s2.heap.objs.size m) (kp : ∀ b o, s2.heap.get? b = some o → h1.get? b = some o) :
    Inv (lamCx X A outer s2 H2 E scope f c) [] σ H2 { s2 with heap := h1, toks := tk } := by
  have hfr := L.has I.ok
  have toX : ∀ {y : Str} {a : Addr}, (cloFrom X.env.cells scope.names []).lookup y = some a → X.env.cells.lookup y = some a := fun {y a} e => by
    rcases cloFrom_mem (PySem.mem_of_lookup e) with hm | ⟨w1, w2⟩
    · cases hm
    · obtain ⟨a1, ha⟩ := hfr _ w1 rfl
      have ha : X.env.cells.lookup y = some a1 := ha
      have ea : a = a1 := by
        rw [w2, ha] <;> rfl
      rw [ea]
      exact ha
  have ofS : ∀ {y : Str}, scope.names.lookup y = some .free → ∃ a, (cloFrom X.env.cells scope.names []).lookup y = some a := fun {y} hl =>
    mem_lookup (cloFrom_has (cells := X.env.cells) (acc := []) (show (y, NameKind.free) ∈ scope.names from PySem.mem_of_lookup hl))
  have cel : ∀ {a : Addr} {v : Option Value}, H a = none → s.heap.IsCell a v → h1.IsCell a v := fun {a v} n ⟨o, ho, hdt⟩ => by
    obtain ⟨sl, q⟩ := un.any ho n (by simp)
    exact ⟨_, kp _ _ q, hdt⟩
  have no0 : ∀ b : Addr, b ∉ (lamCx X A outer s2 H2 E scope f c).ex := fun b z => by cases (show b ∈ ([] : List Addr) from z)
  refine ⟨⟨e0.mod, L.kind, rfl, rfl, Nat.le_refl _, fun y z a e1 e2 => I.ok.inj y z a (toX e1) (toX e2), fun y hy => ?_, fun y a z _ => ?_, fun _ => hd, Around.frames_deeper e0.frames, .inr ⟨rfl, rfl⟩, fun b z => absurd z (no0 b), e0.bs, e0.bsz, fun b _ _ => no0 b,
      fun b z => absurd z (no0 b), e0.funs, e0.frf⟩, rfl, e0.bare, Un.kept kp, ⟨_, hns, fun i y v e1 e2 e3 => ?_⟩, fun y a e => ?_, e0.hok.fresh (Nat.le_refl _), fun y a e => ?_, fun q hq => (absurd (show q ∈ ([] : List (Addr × Obj)) from hq) (by simp)), e0.hok.kept kp, I.len⟩
  · rcases (show scope.names.lookup y = some .cell ∨ scope.names.lookup y = some .free from hy) with hy | hy
    · exact absurd rfl (L.own _ (PySem.mem_of_lookup hy)).2
    · exact ofS hy
  · cases (show false = true from z)
  · rcases (show Vis scope y from e3) with k | k | k
    · exact absurd (List.mem_of_getElem? (show X.N[i]? = some y from e1)) ((L.own _ (PySem.mem_of_lookup k)).1 rfl)
    · exact absurd rfl (L.own _ (PySem.mem_of_lookup k)).2
    · obtain ⟨m0, hn, hl⟩ := I.loc
      have vis : Vis X.env.scope y := (L.fre _ (PySem.mem_of_lookup k) rfl).elim (fun k => .inr (.inl k)) (fun k => .inr (.inr k))
      obtain ⟨w', r, q⟩ := hl i y v e1 e2 vis
      obtain ⟨a2, h2⟩ := ofS k
      refine ⟨w', r, .inr ⟨.inr k, a2, h2, ?_⟩⟩
      have a1 := toX h2
      rcases q with ⟨k', _⟩ | ⟨_, a3, e', z⟩
      · have k' : X.env.scope.names.lookup y = some .local := k'
        rcases L.fre _ (PySem.mem_of_lookup k) rfl with k2 | k2 <;> rw [show X.env.scope.names.lookup y = _ from k2] at k' <;> cases k'
      · rw [a1] at e'
        cases e'
        exact cel (I.freeC y _ a1) z
  · obtain ⟨w', z⟩ := I.cell y a (toX e)
    exact ⟨w', cel (I.freeC y a (toX e)) z⟩
  · obtain ⟨v, o, ho, hdt⟩ := I.cell y a (toX e)
    exact un.free a o ho (I.freeC y a (toX e)) (by simp)
def lamO (X : Cx) (params : Arguments) (body : Expr) (scope : Scope) (T0 : Addr) (doc pm : Value) (c : Addr) (ctv : Value) : Obj := PySem.W.kdv_obj "<lambda>" (X.env.qual ++ "<lambda>") params (.expr body) scope (cloFrom X.env.cells scope.names []) (.ref T0) doc pm c ctv
/-- f is the lambda of one default, made in the context X, c its code object -/
def LamAtD (X : Cx) (params : Arguments) (body : Expr) (scope : Scope) (f c : Addr) (H : Hp) : Prop :=
  H c = some (CodeO c (X.env.qual ++ "<lambda>")) ∧ ∃ (pm ctv doc u : Value) (T0 : Addr), H T0 = some (FunO T0 (PySem.W.kdv_tup [u])) ∧ H f = some (FunO f (lamO X params body scope T0 doc pm c ctv))
theorem LamAtD.ext {X : Cx} {params : Arguments} {body : Expr} {scope : Scope} {f c : Addr} {H H' : Hp} (l : LamAtD X params body scope f c H) (s : Same H H') : LamAtD X params body scope f c H' := by
  obtain ⟨h1, pm, ctv, doc, u, T0, h2, h3⟩ := l
  exact ⟨s _ _ h1, pm, ctv, doc, u, T0, s _ _ h2, s _ _ h3⟩
theorem LamAtD.extN {X : Cx} {params : Arguments} {body : Expr} {scope : Scope} {f c : Addr} {H H' : Hp} (l : LamAtD X params body scope f c H) (s : ExtN H H') : LamAtD X params body scope f c H' := by
  obtain ⟨h1, pm, ctv, doc, u, T0, h2, h3⟩ := l
  exact ⟨s _ _ h1 codeO_ne, pm, ctv, doc, u, T0, s _ _ h2 funO_ne, s _ _ h3 funO_ne⟩
theorem LamAt.extN {X : Cx} {params : Arguments} {body : Expr} {scope : Scope} {f c : Addr} {H H' : Hp} (l : LamAt X params body scope f c H) (s : ExtN H H') : LamAt X params body scope f c H' := by
  obtain ⟨h1, pm, ctv, h2⟩ := l
  exact ⟨s _ _ h1 codeO_ne, pm, ctv, s _ _ h2 funO_ne⟩
def tLamDV (X : Cx) (T : List (Addr × Str)) (params : Arguments) (body : Expr) (scope : Scope) : TE := fun _ H Q => Tabs T H ∧ ∀ (f c : Addr) (H1 : Hp), ExtN H H1 → Tabs T H1 → LamAtD X params body scope f c H1 → Q (.ref f) H1
/-- lambda x=e: body -/
theorem pe_lamD {X : Cx} {T : List (Addr × Str)} {c P : Addr} {params : Arguments} {body e : Expr} {scope : Scope} {pos : Pos} {v : V} (TB : TabB X.base X.mg c P) (hcode : X.env.code = .ref c) (hm : (P, X.env.qual ++ "<lambda>") ∈ T) (hu : ∀ p ∈ T, p.1 = P → p.2 = X.env.qual ++ "<lambda>")
    (L : LamD X.N X.env.scope scope) (hde : params.defaults = [e]) (hkd : params.kw_defaults = []) (he : PE X e (tC v)) : PE X (.Lambda params body scope pos) (tLamDV X T params body scope) := by
  constructor
  intro pins s0 σ H0 Q I0 h
  obtain ⟨hT0, h⟩ := h
  refine PySem.W.kdv_lam (by rw [hde]; rfl) hkd ?_
  rw [hde]
  refine PySem.W.kdv_all1 (thn (he.run pins s0 σ H0 (fun x H1 => H1 = H0) I0 rfl) fun u s1 hu1 => PySem.W.kdv_all0 ?_)
  obtain ⟨x, H1, I1, r1, eH⟩ := hu1
  subst eH
  rw [makeFunction_eq]
  simp only [List.isEmpty_cons, Bool.false_eq_true, if_false, List.zip_nil_right, List.filterMap_nil, List.isEmpty_nil, if_true, pure_bind]
  refine wpAny_bind (wpAny_newTextTuple ?_)
  have nT : H1 s1.heap.objs.size = none := I1.hok.fresh (Nat.le_refl _)
  have I := I1.laid (a := s1.heap.objs.size) (t' := s1.toks) (o := FunO s1.heap.objs.size (PySem.W.kdv_tup [u])) (h' := s1.heap.push (PySem.W.kdv_tup [u])) (fun b o e => Heap.get?_push_of_some _ e) (Nat.le_refl _) (funO_ok (Heap.get?_push_size _ rfl))
  have x0 := same_new nT (o := FunO s1.heap.objs.size (PySem.W.kdv_tup [u]))
  have tT : (upd H1 s1.heap.objs.size (FunO s1.heap.objs.size (PySem.W.kdv_tup [u]))) s1.heap.objs.size = some (FunO s1.heap.objs.size (PySem.W.kdv_tup [u])) := upd_same
  have hT := hT0.ext x0
  revert tT hT x0 I
  generalize upd H1 s1.heap.objs.size (FunO s1.heap.objs.size (PySem.W.kdv_tup [u])) = H
  intro I x0 tT hT
  obtain ⟨ps, hP, ht, ha⟩ := hT _ hm
  have bP := TB.bm.keeps I.bk
  have gP := I.hok P _ hP
  cases hc : codeAmong pos ps.toList with
  | none =>
    refine PySem.W.kdv_makeTail (mg := X.mg) (c := c) (P := P) (ps := ps) (closure_ok (L.has I.ok)) I.ok.glob (I.mod.glob.keeps I.bk) hcode (TB.code.keeps I.bk) gP ht hc TB.gP bP fun c' ctv doc h' tk hx hge hlt hrec htb => ?_
    obtain ⟨c2, oc, vs, t, e2, hoc, hd, hv⟩ := hrec
    cases e2
    have nC : H c' = none := I.hok.fresh hge
    have J := inv_table (t' := tk) (more := #[rawInt pos.line, rawInt pos.col, .ref c']) (h' := h') I hP hx htb hge ⟨oc, vs, t, hoc, hd, hv⟩
    have nF : upd (upd H P (.tbl (ps ++ #[rawInt pos.line, rawInt pos.col, .ref c']))) c' (CodeO c' (X.env.qual ++ "<lambda>")) h'.objs.size = none := J.hok.fresh (Nat.le_refl _)
    have J2 := J.laid (a := h'.objs.size) (t' := tk) (o := FunO h'.objs.size (lamO X params body scope s1.heap.objs.size doc ((X.mg "__name__").getD .none) c' ctv)) (h' := h'.push (lamO X params body scope s1.heap.objs.size doc ((X.mg "__name__").getD .none) c' ctv)) (fun b o e => Heap.get?_push_of_some _ e) (Nat.le_refl _) (funO_ok (Heap.get?_push_size _ rfl))
    have x1 : ExtN H (upd (upd H P (.tbl (ps ++ #[rawInt pos.line, rawInt pos.col, .ref c']))) c' (CodeO c' (X.env.qual ++ "<lambda>"))) := fun b o e n => by
      rw [upd_ne (ne_of_none e nC), upd_ne (fun z => n ps (Option.some.inj (e.symm.trans (by rw [z]; exact hP))))]
      exact e
    have T1 : Tabs T (upd (upd H P (.tbl (ps ++ #[rawInt pos.line, rawInt pos.col, .ref c']))) c' (CodeO c' (X.env.qual ++ "<lambda>"))) := fun p hp => by
      by_cases hb : p.1 = P
      · rw [hu p hp hb, hb]
        have eL : (ps ++ #[rawInt pos.line, rawInt pos.col, .ref c']).toList = ps.toList ++ [rawInt pos.line, rawInt pos.col, .ref c'] := by simp
        refine ⟨_, by rw [upd_ne (ne_of_none hP nC), upd_same], by rw [eL]; exact PySem.TriplesOk_snoc _ _ _ _ ht, fun p' cv hcv => ?_⟩
        rw [eL] at hcv
        rcases among_app _ ht hcv with z | z
        · obtain ⟨c0, w1, w2⟩ := ha p' cv z
          exact ⟨c0, w1, x1 _ _ w2 codeO_ne⟩
        · exact ⟨c', z, upd_same⟩
      · obtain ⟨qs, w1, w2, w3⟩ := hT p hp
        refine ⟨qs, by rw [upd_ne (ne_of_none w1 nC), upd_ne hb]; exact w1, w2, fun p' cv hcv => ?_⟩
        obtain ⟨c0, v1, v2⟩ := w3 p' cv hcv
        exact ⟨c0, v1, x1 _ _ v2 codeO_ne⟩
    have x2 := same_new nF (o := FunO h'.objs.size (lamO X params body scope s1.heap.objs.size doc ((X.mg "__name__").getD .none) c' ctv))
    exact ⟨.ref h'.objs.size, _, J2, rfl, h _ c' _ (((ExtN.of x0).trans x1).trans (ExtN.of x2)) (T1.ext x2) ⟨x2 _ _ upd_same, _, _, _, _, _, x2 _ _ (x1 _ _ tT funO_ne), upd_same⟩⟩
  | some cv =>
    obtain ⟨c', e, hco⟩ := ha pos cv hc
    subst e
    refine PySem.W.kdv_makeTailHit (mg := X.mg) (c := c) (P := P) (ps := ps) (closure_ok (L.has I.ok)) I.ok.glob (I.mod.glob.keeps I.bk) hcode (TB.code.keeps I.bk) gP ht hc bP fun ctv doc h' tk hx hsz => ?_
    have J := I.kept (t' := tk) hx
    have nF : H h'.objs.size = none := J.hok.fresh (Nat.le_refl _)
    have J2 := J.laid (a := h'.objs.size) (t' := tk) (o := FunO h'.objs.size (lamO X params body scope s1.heap.objs.size doc ((X.mg "__name__").getD .none) c' ctv)) (h' := h'.push (lamO X params body scope s1.heap.objs.size doc ((X.mg "__name__").getD .none) c' ctv)) (fun b o e => Heap.get?_push_of_some _ e) (Nat.le_refl _) (funO_ok (Heap.get?_push_size _ rfl))
    have x2 := same_new nF (o := FunO h'.objs.size (lamO X params body scope s1.heap.objs.size doc ((X.mg "__name__").getD .none) c' ctv))
    exact ⟨.ref h'.objs.size, _, J2, rfl, h _ c' _ ((ExtN.of x0).trans (ExtN.of x2)) (hT.ext x2) ⟨x2 _ _ hco, _, _, _, _, _, x2 _ _ tT, upd_same⟩⟩
/-- the lambda called, while the def that made it stands -/
theorem lam_actD {X : Cx} {pins : List (Addr × Obj)} {σ : L2.St} {H : Hp} {s : Shared} {params : Arguments} {body : Expr} {scope : Scope} {f c : Addr} {k : Nat} {y : Str} {t : XK → TE} (I : Inv X pins σ H s) (L : LamD X.N X.env.scope scope) (hy : scope.names.lookup y = some .local)
    (hbind : ∀ (q : Str) (cl : List (Str × Addr)) (dV doc pm cv ctv : Value), ∃ kk, bindArgs (PySem.W.kdv_fn "<lambda>" q params (.expr body) scope cl dV doc pm cv ctv) ⟨[], []⟩ = seqItems? dV >>= kk ∧ ∀ u, kk (some #[u]) = pure [(y, u)])
    (hbody : ∀ (A : Around) (outer : List Env) (s : Shared) (H : Hp) (E : XK) (f c : Addr), Room k (A.deeper (lamEnv X scope s.heap.objs.size f c)) → PE (lamN X A outer s H E scope f c) body (t E)) :
    Act X.prog X.w X.K X.mg X.base (k + 1) X.stack s H f (fun E H2 Q => LamAtD X params body scope f c H2 ∧ t E σ H2 Q) := by
  intro A o2 s2 H2 Q E hr e0 un ht
  obtain ⟨⟨hc, pm, ctv, doc, u, T0, hT, hf⟩, ht⟩ := ht
  have okf : ObjOk X.prog X.w H2 s2.heap f (FunO f _) := e0.hok f _ hf
  have gf := okf.1
  have okt : ObjOk X.prog X.w H2 s2.heap T0 (FunO T0 _) := e0.hok T0 _ hT
  have gt := okt.1
  have okc : ObjOk X.prog X.w H2 s2.heap c (CodeO c _) := e0.hok c _ hc
  obtain ⟨oc, vs, tq, hoc, hdc, hvc⟩ := okc.1
  have lim : s2.heap.NoLimit := e0.mod.nolimit.keeps fun b o e => (e0.bs b o e).1
  refine ⟨⟨_, _, _, _, gf⟩, ?_⟩
  obtain ⟨kk, b1, b2⟩ := hbind (X.env.qual ++ "<lambda>") (cloFrom X.env.cells scope.names []) (.ref T0) doc pm (.ref c) ctv
  have hB : BindsTo s2 (PySem.W.kdv_fn "<lambda>" (X.env.qual ++ "<lambda>") params (.expr body) scope (cloFrom X.env.cells scope.names []) (.ref T0) doc pm (.ref c) ctv) ⟨[], []⟩ [(y, u)] := BindsTo.of_defaults rfl gt rfl b1 (b2 u)
  refine PySem.W.kla_callFunE hr.depth gf rfl L.co L.gen rfl ⟨c, oc, vs, tq, rfl, hoc, hdc, hvc⟩ (hB _ _ _ _ ?_)
  refine wpAny_newFunctionEnv (fun z hz => (L.own z hz).2) (fun z hz => by rw [List.mem_singleton.mp hz]; exact hy) (fun h₁ hns hsb => ⟨lim.fresh _ hsb, ?_⟩) L.kind
  show codeAny _ _ (.expr body (lamEnv X scope s2.heap.objs.size f c)) _ _
  have kp : ∀ b o, s2.heap.get? b = some o → h₁.get? b = some o := fun b o e => hsb.extBut b o (Nat.ne_of_lt (Heap.lt_size e)) (Heap.get?_push_of_some _ e)
  have J := inv_lamN (lam_startD (E := E) (f := f) (c := c) (tk := s2.toks + ([(y, u)] : List (Str × Value)).length) I L e0 hr.hd un hns kp)
  refine PySem.W.kla_codeExpr (wpAny_mono ((hbody _ _ s2 H2 E f c (hr.deeper _)).run [] _ _ H2 Q J ht) (fun v s' hq => ?_) fun e s' hq => hq)
  obtain ⟨w', H', J', rv, q⟩ := hq
  exact ⟨w', H', J'.os, J'.bare, J'.base, J'.hok, rv, q⟩
/-- x(), x a lambda that the def itself has made: it raises nothing -/
def tActL (X : Cx) (k i : Nat) : TE := fun σ H Q => ∃ (f : Addr) (tl : XK → Hp → VK → Prop), σ[i]? = some (some (.ref f)) ∧ (∀ (pins : List (Addr × Obj)) (s : Shared), Inv X pins σ H s → Act X.prog X.w X.K X.mg X.base k X.stack s H f tl) ∧ tl (fun _ _ _ => False) H Q
theorem pe_actL {X : Cx} {k i : Nat} {a : Str} {p q : Pos} (hr : Room k X.A) (hN : X.N[i]? = some a) (hv : Vis X.env.scope a) (hd : (a == ("__debug__" : Str)) = false := by decide) (hcd : (a == ("__classdict__" : Str)) = false := by decide) : PE X (.Call (.Name a p) [] [] q) (tActL X k i) := by
  constructor
  intro pins s σ H Q I h
  obtain ⟨f, tl, h1, act, ht⟩ := h
  refine wpAny_Call_Name_kw (thn ((pe_var (pos := p) (i := i) hN hv hd hcd).run pins s σ H (fun v H1 => v = .ref f ∧ H1 = H) I ⟨.ref f, h1, rfl, rfl⟩) fun u s1 hu => ?_)
  obtain ⟨v, H1, I1, r1, ev, eH⟩ := hu
  subst ev
  rw [eH] at I1
  obtain rfl : u = Value.ref f := r1
  obtain ⟨fn, rc⟩ := act pins s1 I1 X.A X.stack s1 H Q _ hr I1.env0 Un.refl ht
  refine PySem.W.callWith_F0 fn (wpAny_call (codeAny_mono rc fun r s' hq => ?_))
  cases r with
  | error e =>
    obtain ⟨_, _, _, _, _, _, _, _, _, _, _, _, z⟩ := hq
    exact z.elim
  | ok fl =>
    cases fl with
    | ret u => exact I1.after hq
    | next => exact False.elim hq
    | brk => exact False.elim hq
    | cont => exact False.elim hq
end
theorem good_ofb {g b : Int} {row : List Mv} (h : badAt g b row = none) : Good g b row := by
  refine good_iff.mpr fun j hj => ?_
  have := List.find?_eq_none.mp h j (List.mem_range.mpr hj)
  simpa using this
def spShownX (K : PySem.W.Frag) (Cw : Addr) : Sp := fun vs H Q E => ∃ (v u : V) (g b : Int) (row : List Mv), vs = [v, u] ∧ Dp K H v (knD g b) ∧ 1 ≤ g ∧ g ≤ 6 ∧ 0 ≤ b ∧ b ≤ g ∧ Dp K H u (rowD row) ∧ row.length ≤ 900 ∧ (∀ i, badAt g b row = some i → ∀ d H', Same H H' → H' d = none → E (.ref Cw) (some d) (upd H' d (xd1 "at" (.int (i : Nat))))) ∧ (badAt g b row = none → ∀ x H', Same H H' → Q x H')
section
variable {P : Program} {w : World} {K : PySem.W.Frag} {mg : Str → Option Value} {base : Heap}
theorem sc_shownx : FnScope ["knob", "row", "here", "seen"] ["knob", "row"] (defScope (top 16)) := ⟨rfl, rfl, rfl, by decide +kernel, rfl, by decide +kernel, by decide +kernel⟩
theorem ok_shownx {f Cw a_PAIRS p0 p1 p2 p3 : Addr} {fd : FuncData} (F : Fun K "shown" "shown" (top 16) f fd) (g_PAIRS : mg "PAIRS" = some (.ref a_PAIRS)) (pk : PairsK K a_PAIRS p0 p1 p2 p3)
    (c_need_knob : Cal P w K mg base 1 "need_knob" ["knob"] (spNeedKnob K)) (c_need_row : CalN P w K mg base 3 "need_row" ["knob", "row"] (spNeedRowX K Cw)) (c_positions : Cal P w K mg base 1 "positions" ["row"] (spPos K)) :
    FnOk P w K mg base (L2N.CX P w) 5 f fd ["knob", "row"] (spShownX K Cw) := by
  have sc := sc_shownx
  refine okN F sc (fun vs H Q E h => ?_) (fun cdv A outer s H vs Q E hr h => ?_)
  · obtain ⟨v, u, g, b, row, rfl, _⟩ := h
    rfl
  · obtain ⟨v, u, g, b, row, rfl, hkn0, g1, g6, b0, b1, hrow0, hl9, kE, kG⟩ := h
    have lv : Live [] H := live_nil
    have hkn : Dp K (Fz [] H) v (knD g b) := by rw [fz_nil]; exact hkn0
    have hrow : Dp K (Fz [] H) u (rowD row) := by rw [fz_nil]; exact hrow0
    refine ⟨_, (pss_cons (ps_expr (pe_cal c_need_knob (hr.mono (by first | decide | omega)) (pa_cons (pv 0) pa_nil)))
(pss_cons (ps_expr (pe_calN c_need_row (hr.mono (by first | decide | omega)) (L2N.takes_of rfl rfl rfl rfl) (pa_cons (pv 0) (pa_cons (pv 1) pa_nil))))
(pss_one (ps_ret (pe_lc (own := [("here", 2), ("seen", 3)]) (g := gTup K 2 (gCons (gName 2) (gCons (gName 3) gNil))) rfl sc.nd (pi_list (pe_cal c_positions (hr.mono (by first | decide | omega)) (pa_cons (pv 1) pa_nil))) (blkOk_by (own := [("here", 2), ("seen", 3)]) (N := ["knob", "row", "here", "seen"]) (sc := defScope (top 16)) (by decide +kernel)) (fun _ _ _ _ _ => (pg_tup rfl (pgs_cons (pg_name (i := 2) sc.nd rfl (Or.inl rfl)) (pgs_cons (pg_name (i := 3) sc.nd rfl (Or.inl rfl)) pgs_nil)))) (fun _ _ _ _ _ => pts_nil) (fun _ _ _ _ _ => (pe_ix (r := rIxT K) ix_tup (pe_glob (v := .ref a_PAIRS) rfl g_PAIRS rfl) (pe_op op_mod (pv 3) pe_int) (fun _ _ => rfl)))))))), ?_⟩
    refine ⟨_, rfl, v, g, b, rfl, dp_fz hkn, g1, g6, b0, b1, ?_⟩
    refine ⟨_, rfl, _, rfl, v, u, g, b, row, rfl, dp_fz hkn, dp_fz hrow, hl9, kE, fun hb H1 s1 => ?_⟩
    have hG := good_ofb hb
    refine ⟨_, rfl, u, row, [], rfl, lv.mono s1, dp_same (fz_mono s1) hrow, Nat.le_trans hG.len (by decide), fun l xs H2 hl s2 hxl hX => ?_⟩
    have hxn : xs.length ≤ 200 := by rw [dpa_length hX, List.length_map, plcs_length]; exact hG.len
    have xl : xs.length = (plcs row).length := by rw [dpa_length hX, List.length_map]
    refine ⟨l, rfl, ⟨xs, SqL.of hxl⟩, fun D hD => lc_it (walk_list (xs := xs)) (fun i H' => ∃ acc, Same H2 H' ∧ H' D = some (.lst acc) ∧ acc.length = i ∧ DpAll K (Fz [D] H') acc ((shD row).take i))
      ⟨[], same_new hD, upd_same, rfl, .nil⟩ (fun i H' _ ⟨_, e, _⟩ => SqL.of (e _ _ hxl)) ?_ ?_⟩
    · rintro i x H3 H4 hi ⟨acc, s3, hd3, hal, hA⟩ ⟨rfl, hx⟩
      obtain ⟨⟨h0, se⟩, hm, hz⟩ := dpa_map_at hX hx
      obtain ⟨q, rfl, hq⟩ := dp_ii (dp_same s3 (dp_fz hz))
      obtain ⟨p, hp1, hp2⟩ := pk.at se
      refine ⟨q, _, rfl, hq, rfl, _, _, rfl, _, _, rfl, rfl, rfl, ?_⟩
      refine ⟨_, rfl, _, _, rfl, rfl, (by show (0 : Int) < 4; decide), a_PAIRS, _, _, .ref p, rfl, rfl, pk.all _, hp1, acc, hd3, small1000 (by omega), acc ++ [.ref p], same_put hD s3, upd_same, by rw [List.length_append, List.length_singleton, hal], ?_⟩
      have e1 : (shD row)[i]? = some (ppD (pr se)) := by
        unfold shD
        rw [List.getElem?_map, hm]
        rfl
      rw [take_snoc e1]
      exact dpa_put hA (hp2 _)
    · rintro H3 ⟨acc, s3, hd3, hal, hA⟩
      have e2 : (shD row).take xs.length = shD row := List.take_of_length_le (by unfold shD; rw [List.length_map]; omega)
      rw [e2] at hA
      exact kG hb (.ref D) H3 ((s1.trans s2).trans s3)
end
def spRunX (K : PySem.W.Frag) (Cw : Addr) : Sp := fun vs H Q E => ∃ (v r u : V) (g b a s : Int) (row : List Mv), vs = [v, r, u] ∧ Dp K H v (knD g b) ∧ 1 ≤ g ∧ g ≤ 6 ∧ 0 ≤ b ∧ b ≤ g ∧ Dp K H r (knD a s) ∧ 1 ≤ a ∧ a ≤ 6 ∧ 1 ≤ s ∧ s ≤ 3 ∧ Dp K H u (rowD row) ∧ row.length ≤ 900 ∧ (∀ i, badAt g b row = some i → ∀ d H', Same H H' → H' d = none → E (.ref Cw) (some d) (upd H' d (xd1 "at" (.int (i : Nat))))) ∧ (badAt g b row = none → ∀ x H', Same H H' → Q x H')
section
variable {P : Program} {w : World} {K : PySem.W.Frag} {mg : Str → Option Value} {base : Heap}
theorem sc_runx : FnScope ["knob", "reader", "row", "counter", "told", "at", "here", "seen"] ["knob", "reader", "row"] (defScope (top 20)) := ⟨rfl, rfl, rfl, by decide +kernel, rfl, by decide +kernel, by decide +kernel⟩
set_option maxHeartbeats 1000000 in
theorem ok_runx {f C Cw a_PAIRS p0 p1 p2 p3 : Addr} {fd : FuncData} (F : Fun K "run" "run" (top 20) f fd) (ck : CtrK K C) (g_PAIRS : mg "PAIRS" = some (.ref a_PAIRS)) (pk : PairsK K a_PAIRS p0 p1 p2 p3) (n_enumerate : mg "enumerate" = none)
    (c_need_knob : Cal P w K mg base 1 "need_knob" ["knob"] (spNeedKnob K)) (c_need_reader : Cal P w K mg base 1 "need_reader" ["reader"] (spNeedReader K)) (c_need_row : CalN P w K mg base 3 "need_row" ["knob", "row"] (spNeedRowX K Cw)) (c_positions : Cal P w K mg base 1 "positions" ["row"] (spPos K))
    (m_Counter : Mkr P w K mg base 2 C "Counter" ["self", "reader"] (spCtr K C)) (m_look : Mtd P w K mg base 1 C "look" ["self", "pair"] (spLook K C)) (m_count : Mtd P w K mg base 1 C "count" ["self"] (spCount K C)) (m_missed : Mtd P w K mg base 1 C "missed" ["self"] (spMissed K C)) :
    FnOk P w K mg base (L2N.CX P w) 5 f fd ["knob", "reader", "row"] (spRunX K Cw) := by
  have sc := sc_runx
  have cl := ck.cl
  refine okN F sc (fun vs H Q E h => ?_) (fun cdv A outer s H vs Q E hr h => ?_)
  · obtain ⟨v, r, u, g, b, a, s, row, rfl, _⟩ := h
    rfl
  · obtain ⟨v, r, u, g, b, a, sm, row, rfl, hkn, g1, g6, b0, b1, hrd, a1, a6, s1, s3, hrow, hl9, kE, kG⟩ := h
    obtain ⟨an, rfl⟩ := Int.eq_ofNat_of_zero_le (show 0 ≤ a by omega)
    have han : (an : Int).toNat = an := Int.toNat_natCast an
    refine ⟨_, (pss_cons (ps_expr (pe_cal c_need_knob (hr.mono (by first | decide | omega)) (pa_cons (pv 0) pa_nil)))
(pss_cons (ps_expr (pe_cal c_need_reader (hr.mono (by first | decide | omega)) (pa_cons (pv 1) pa_nil)))
(pss_cons (ps_expr (pe_calN c_need_row (hr.mono (by first | decide | omega)) (L2N.takes_of rfl rfl rfl rfl) (pa_cons (pv 0) (pa_cons (pv 2) pa_nil))))
(pss_cons (ps_set (i := 3) sc.nd rfl (Or.inl rfl) (pe_mkr m_Counter (hr.mono (by first | decide | omega)) (pa_cons (pv 1) pa_nil)))
(pss_cons (ps_set (i := 4) sc.nd rfl (Or.inl rfl) (pe_lst pa_nil))
(pss_cons (ps_for PassesOwn.leaving rfl (pi_enum (by rfl) n_enumerate (pa_cons (pe_cal c_positions (hr.mono (by first | decide | omega)) (pa_cons (pv 2) pa_nil)) pa_nil)) (pg_tup rfl (pgs_cons (pg_name (i := 5) sc.nd rfl (Or.inl rfl)) (pgs_cons (pg_tup rfl (pgs_cons (pg_name (i := 6) sc.nd rfl (Or.inl rfl)) (pgs_cons (pg_name (i := 7) sc.nd rfl (Or.inl rfl)) pgs_nil))) pgs_nil)))
(pss_one (ps_if (pt_cmpR op_eq (pe_op op_mod (pv 5) (pe_ix (r := rIxT K) ix_tup (pv 1) pe_int (fun _ _ => rfl))) pe_int (nomark _))
(pss_one (ps_expr (pe_bm PySem.F.plainAttrs_list PySem.F.slot_list_append PySem.F.type_list_append mt_append (pv 4) (pa_cons (pe_mtd m_look cl (hr.mono (by first | decide | omega)) (pv 3) (pa_cons (pe_ix (r := rIxT K) ix_tup (pe_glob (v := .ref a_PAIRS) rfl g_PAIRS rfl) (pe_op op_mod (pv 7) pe_int) (fun _ _ => rfl)) pa_nil)) pa_nil))))
pss_nil)))
(pss_one (ps_ret (pe_tup (pa_cons (pv 4) (pa_cons (pe_mtd0 m_count cl (hr.mono (by first | decide | omega)) (pv 3)) (pa_cons (pe_mtd0 m_missed cl (hr.mono (by first | decide | omega)) (pv 3)) pa_nil)))))))))))), ?_⟩
    refine ⟨_, rfl, v, g, b, rfl, hkn, g1, g6, b0, b1, ?_⟩
    refine ⟨_, rfl, r, an, sm, rfl, hrd, a1, a6, s1, s3, ?_⟩
    refine ⟨_, rfl, _, rfl, v, u, g, b, row, rfl, hkn, hrow, hl9, kE, fun hb H1 s1' => ?_⟩
    have hG := good_ofb hb
    have hl200 := hG.len
    -- the counter
    refine ⟨_, rfl, fun c dx hc hdx nec => ?_⟩
    have sA : Same H1 (upd (upd H1 dx (.own c)) c (.ins C dx [])) := (same_new hdx).trans (same_new (by rw [upd_ne nec.symm]; exact hc))
    refine ⟨c, dx, r, an, sm, rfl, upd_same, dp_same (s1'.trans sA) hrd, a1, a6, s1, s3, fun H2 fr2 hct2 => ⟨rfl, ?_⟩⟩
    have s12 : Same H1 H2 := fun b o e => fr2 b o (by simpa using ne_of_none e hc) (sA b o e)
    refine ⟨Nat.zero_le _, fun t ht => ?_⟩
    have st := same_new ht (o := .lst [])
    obtain ⟨oc, hoc⟩ := hct2.live
    have nct : c ≠ t := ne_of_none hoc ht
    -- the positions
    have hcH : H c = none := s1'.free hc
    have htH : H t = none := (s1'.trans s12).free ht
    refine ⟨_, rfl, u, row, [t, c], rfl, live_cons upd_same (live_cons (st _ _ hoc) live_nil), dp_same (same_fz (by simp [hcH, htH]) ((s1'.trans s12).trans st)) hrow, by omega, fun l xs H3 hl s3' hxl hX => ?_⟩
    have hcl : c ≠ l := ne_of_none (st _ _ hoc) hl
    have htl : t ≠ l := ne_of_none upd_same hl
    have xl : xs.length = row.length := by rw [dpa_length hX, List.length_map, plcs_length]
    obtain ⟨q, rfl, hrT⟩ := dp_ii hrd
    have sH3 : Same H H3 := ((s1'.trans s12).trans st).trans s3'
    have same_of : ∀ {H' : Hp}, Frm [c, t] H3 H' → Same H H' := fun {H'} fr b o e => fr b o (by
      intro hm
      simp only [List.mem_cons, List.not_mem_nil, or_false] at hm
      rcases hm with rfl | rfl
      · rw [hcH] at e; cases e
      · rw [htH] at e; cases e) (sH3 b o e)
    refine ⟨l, xs, rfl, SqL.of hxl, for_it (walk_enum (xs := xs)) (fun i σ H' => ∃ v5 v6 v7, σ = [some v, some (.ref q), some u, some (.ref c), some (.ref t), v5, v6, v7] ∧ Frm [c, t] H3 H' ∧
        H' t = some (.lst ((tolds (newC sm) (lkf (lookAt row an) (nlk i an))).map V.int)) ∧ CtrAt K C [c, t] H' c (runS (newC sm) (lkf (lookAt row an) (nlk i an)))) ?_ ?_ ?_ ?_⟩
    · have e0 : nlk 0 an = 0 := by have := nlk_le (i := 0) (a := an) (by omega) (by omega); omega
      rw [e0]
      exact ⟨none, none, none, rfl, Frm.refl, s3' _ _ upd_same, (hct2.mono ((st.trans s3') _)).ctr⟩
    · rintro i σ H' _ ⟨_, _, _, _, fr, _⟩
      exact SqL.of (fr _ _ (by simp [hcl.symm, htl.symm]) hxl)
    · rintro i x σ H4 H5 hi ⟨v5, v6, v7, rfl, fr4, ht4, hc4⟩ ⟨T, y, z, rfl, hT0, rfl, hy, hz⟩
      cases hy
      have sT := same_new hT0 (o := .tup [.int ((i : Nat) : Int), z])
      obtain ⟨⟨h0, se⟩, hm, hz2⟩ := dpa_map_at hX hz
      have hzz : Dp K H4 z (ppD (h0, se)) := dp_fz (dp_same (Frm.fz (Frm.mono (qs := [l, t, c]) (by intro x hx; simp at hx ⊢; rcases hx with h | h <;> simp [h]) fr4)) hz2)
      obtain ⟨qz, rfl, hq⟩ := dp_ii (dp_same sT hzz)
      have hcT : H4 c ≠ none := by obtain ⟨_, _, _, e, _⟩ := hc4; rw [e]; simp
      have ncT : c ≠ T := fun e => hcT (by rw [e]; exact hT0)
      have hc5 : CtrAt K C [c, t] (upd H4 T (.tup [.int ((i : Nat) : Int), .ref qz])) c (runS (newC sm) (lkf (lookAt row an) (nlk i an))) := hc4.frm (fz_mono sT) (sT _)
      have ht5 := sT _ _ ht4
      have fr5 : Frm [c, t] H3 (upd H4 T (.tup [.int ((i : Nat) : Int), .ref qz])) := fr4.trans (Frm.of_same sT)
      have hT5 : (upd H4 T (.tup [.int ((i : Nat) : Int), .ref qz])) T = some (.tup [.int ((i : Nat) : Int), .ref qz]) := upd_same
      revert hc5 ht5 fr5 hq hT5
      generalize upd H4 T (.tup [.int ((i : Nat) : Int), .ref qz]) = H5
      intro hq hc5 ht5 fr5 hT5
      have hil : i < row.length := by omega
      have e1 : lookAt row an (nlk i an) = se ∨ i % an ≠ 0 := by
        by_cases c : i % an = 0
        · left
          unfold lookAt seenAt
          rw [((nlk_step (by omega) (by omega)).1 c).2, hm]
          rfl
        · exact .inr c
      refine ⟨T, _, rfl, SqT.of hT5, rfl, _, _, rfl, _, _, rfl, qz, _, rfl, hq, rfl, _, _, rfl, _, _, rfl, rfl, rfl, ?_⟩
      refine ⟨_, rfl, _, rfl, q, _, _, _, rfl, rfl, same_seqT (same_of fr5) hrT, at_of (j := 0) rfl rfl, _, _, rfl, rfl, (by show (0 : Int) < (an : Int); omega), rfl, _, rfl, ?_⟩
      by_cases cm : i % an = 0
      · have ez : ((i : Nat) : Int) % (an : Int) = 0 := by have := Int.natCast_emod i an; rw [← this, cm]; rfl
        have hse := e1.resolve_right (fun z => z cm)
        obtain ⟨pp, hp1, hp2⟩ := pk.at se
        obtain ⟨dxc, kvc, mvc, hcc, _⟩ := id hc5
        have hlen : (lkf (lookAt row an) (nlk i an)).length ≤ 200 := by rw [lkf_length]; have := nlk_le (i := i) (a := an) (by omega) (by omega); omega
        refine iteDT (vint_eq ez) ⟨_, rfl, .inl ⟨rfl, _, SqL.of ht5⟩, _, rfl, c, dxc, _, rfl, hcc, rfl, _, rfl, _, _, rfl, rfl, (by show (0 : Int) < 4; decide), a_PAIRS, _, _, .ref pp, rfl, rfl, pk.all _, hp1, ?_⟩
        refine ⟨c, .ref pp, _, se, [c, t], rfl, hc5, by simp, hp2 _, fun H6 fr6 hc6 => ?_⟩
        have ht6 := fr6 _ _ (by simpa using nct.symm) ht5
        refine ⟨t, _, _, rfl, rfl, ht6, small1000 (by rw [List.length_map, tolds_length]; omega), _, _, _, rfl, ?_, ?_, ?_⟩
        · exact (fr5.trans (Frm.mono (by simp) fr6)).trans (Frm.set (by simp))
        · rw [upd_same, ((nlk_step (by omega) (by omega)).1 cm).1, lkf_succ, tolds_snoc, hse, List.map_append]; rfl
        · rw [((nlk_step (by omega) (by omega)).1 cm).1, lkf_succ, runS_snoc, hse]
          exact hc6.frm (by rw [fz_set (by simp)]; exact Same.refl _) fun o ho => by rw [upd_ne nct]; exact ho
      · have ez : ¬ ((i : Nat) : Int) % (an : Int) = 0 := by have := Int.natCast_emod i an; omega
        refine iteDF (vint_ne ez) ⟨_, _, _, rfl, fr5, ?_, ?_⟩
        · rw [(nlk_step (by omega) (by omega)).2 cm]; exact ht5
        · rw [(nlk_step (by omega) (by omega)).2 cm]; exact hc5
    · rintro σ H4 ⟨v5, v6, v7, rfl, fr4, ht4, hc4⟩
      rw [xl] at ht4 hc4
      obtain ⟨dxc, kvc, mvc, hcc, _⟩ := id hc4
      refine ⟨_, rfl, _, rfl, c, dxc, _, rfl, hcc, rfl, c, _, [c, t], rfl, hc4, _, rfl, c, dxc, _, rfl, hcc, rfl, c, _, [c, t], rfl, hc4, (by show 3 ≤ sizeLine; decide), fun p hp => ?_⟩
      have sp := same_new hp (o := .tup [.ref t, .int (runS (newC sm) (lkf (lookAt row an) (nlk row.length an))).total, .int (runS (newC sm) (lkf (lookAt row an) (nlk row.length an))).lost])
      exact kG hb (.ref p) _ ((same_of fr4).trans sp)
end
/-- the signs that a moment has, among the first i -/
def sgF (m : Mv) (i : Nat) : List V := (((sgs.zip sgM).take i).filter fun x => decide (x.2 = m)).map fun x => V.str x.1
theorem sgF_all {m : Mv} (h : m.1 = -1 ∨ m.1 = 0 ∨ m.1 = 1) : sgF m 6 = [.str ⟨#[sgC m]⟩] := by
  obtain ⟨t, o⟩ := m
  dsimp only at h
  rcases h with rfl | rfl | rfl <;> cases o <;> decide +kernel
def spWritX (K : PySem.W.Frag) (Cw : Addr) : Sp := fun vs H Q E => ∃ (v u : V) (g b : Int) (row : List Mv), vs = [v, u] ∧ Dp K H v (knD g b) ∧ 1 ≤ g ∧ g ≤ 6 ∧ 0 ≤ b ∧ b ≤ g ∧ Dp K H u (rowD row) ∧ row.length ≤ 900 ∧ (∀ i, badAt g b row = some i → ∀ d H', Same H H' → H' d = none → E (.ref Cw) (some d) (upd H' d (xd1 "at" (.int (i : Nat))))) ∧ (badAt g b row = none → ∀ x H', Same H H' → Q x H')
section
variable {P : Program} {w : World} {K : PySem.W.Frag} {mg : Str → Option Value} {base : Heap}
theorem sc_writx : FnScope ["knob", "row", "found", "move", "sign"] ["knob", "row"] (defScope (top 23)) := ⟨rfl, rfl, rfl, by decide +kernel, rfl, by decide +kernel, by decide +kernel⟩
set_option maxHeartbeats 2000000 in
theorem ok_writx {f Cw a_SIGNS : Addr} {fd : FuncData} (F : Fun K "written" "written" (top 23) f fd) (g_SIGNS : mg "SIGNS" = some (.ref a_SIGNS)) (sk : SignsK K w a_SIGNS) (c_need_knob : Cal P w K mg base 1 "need_knob" ["knob"] (spNeedKnob K)) (c_need_row : CalN P w K mg base 3 "need_row" ["knob", "row"] (spNeedRowX K Cw)) : FnOk P w K mg base (L2N.CX P w) 5 f fd ["knob", "row"] (spWritX K Cw) := by
  have sc := sc_writx
  obtain ⟨es, nn, kdS, kkS⟩ := sk.d
  refine okN F sc (fun vs H Q E h => ?_) (fun cdv A outer s H vs Q E hr h => ?_)
  · obtain ⟨v, u, g, b, row, rfl, _⟩ := h
    rfl
  · obtain ⟨v, u, g, b, row, rfl, hv, g1, g6, b0, b1, hrow, hl9, kE, kG⟩ := h
    obtain ⟨l, xs, rfl, hL, hX⟩ := dp_lst hrow
    have hxl : xs.length = row.length := by rw [dpa_length hX, List.length_map]
    refine ⟨_, (pss_cons (ps_expr (pe_cal c_need_knob (hr.mono (by first | decide | omega)) (pa_cons (pv 0) pa_nil)))
(pss_cons (ps_expr (pe_calN c_need_row (hr.mono (by first | decide | omega)) (L2N.takes_of rfl rfl rfl rfl) (pa_cons (pv 0) (pa_cons (pv 1) pa_nil))))
(pss_cons (ps_set (i := 2) sc.nd rfl (Or.inl rfl) pe_str)
(pss_cons (ps_for PassesOwn.leaving rfl (pi_list (pv 1)) (pg_name (i := 3) sc.nd rfl (Or.inr rfl))
(pss_one (ps_set (i := 2) sc.nd rfl (Or.inl rfl) (pe_op op_add_str (pv 2) (pe_ix (r := rIxL K) ix_list (pe_lc (own := [("sign", 4)]) (g := gName 4) rfl sc.nd (pi_kd kdS kkS (pe_glob (v := .ref a_SIGNS) rfl g_SIGNS rfl)) (blkOk_by (own := [("sign", 4)]) (N := ["knob", "row", "found", "move", "sign"]) (sc := defScope (top 23)) (by decide +kernel)) (fun _ _ _ _ _ => (pg_name (i := 4) sc.nd rfl (Or.inl rfl))) (fun _ _ _ _ _ => (pts_one (pt_cmpR (r := rEqD K) (op_eqD hr.units) (pe_ix (r := rIxD K w) ix_kdict (pe_glob (v := .ref a_SIGNS) rfl g_SIGNS rfl) (pv 4) (fun _ _ => rfl)) (pv 3) (nomark _)))) (fun _ _ _ _ _ => (pv 4))) pe_int (fun _ _ => rfl))))))
(pss_one (ps_ret (pv 2))))))), ?_⟩
    refine ⟨_, rfl, v, g, b, rfl, hv, g1, g6, b0, b1, ?_⟩
    refine ⟨_, rfl, _, rfl, v, .ref l, g, b, row, rfl, hv, hrow, hl9, kE, fun hb H1 s1 => ?_⟩
    have hG := good_ofb hb
    refine ⟨_, rfl, l, rfl, ⟨xs, s1.seq hL⟩, for_it (walk_list (xs := xs)) (fun i σ H' => Same H H' ∧ ∃ v3 v4, σ = [some v, some (.ref l), some (.str (txt (row.take i))), v3, v4]) ?_ ?_ ?_ ?_⟩
    · exact ⟨s1, _, _, rfl⟩
    · rintro i σ H' _ ⟨e, _⟩
      exact e.seq hL
    · rintro i x σ H2 H3 hi ⟨s2, v3, v4, rfl⟩ ⟨rfl, hx⟩
      obtain ⟨m, hm, hz⟩ := dpa_map_at (dpa_same s2 hX) hx
      have hmt := (hG.ok i m hm).turn
      refine ⟨_, rfl, rfl, fun D hD => lc_it walk_kd (fun j H' => H' = upd H3 D (.lst (sgF m j))) rfl (fun _ _ _ _ => trivial) ?_ ?_⟩
      · rintro j y H4 H5 hj rfl ⟨rfl, z, hz1, rfl⟩
        have hj6 : j < 6 := hj
        obtain ⟨m2, hm2⟩ : ∃ m2, sgM[j]? = some m2 := ⟨sgM[j]'(by show j < 6; exact hj6), List.getElem?_eq_getElem (by show j < 6; exact hj6)⟩
        obtain ⟨q, hkd, hq⟩ := sk.get hz1 hm2
        have sD := same_new hD (o := .lst (sgF m j))
        have shm : ∀ y : Mv, SeqAt.shaped (mvD y) = true := fun y => by
          refine shaped_nest (n := 1) ⟨by show 2 ≤ 1000000; decide, fun d hd => ?_⟩ (by decide)
          simp at hd
          rcases hd with rfl | rfl <;> trivial
        refine ⟨rfl, _, rfl, a_SIGNS, z, .ref q, rfl, rfl, hkd, _, rfl, mvD m2, mvD m, .tup (hq _) (dpa_ib _ _), dp_same sD hz, shm _, shm _, _, rfl, ?_⟩
        rw [eqv_mv]
        have es : sgF m (j + 1) = sgF m j ++ (if m2 = m then [.str z] else []) := by
          unfold sgF
          have hzip : (sgs.zip sgM)[j]? = some (z, m2) := by rw [List.getElem?_zip_eq_some]; exact ⟨hz1, hm2⟩
          rw [take_snoc hzip, List.filter_append, List.map_append]
          congr 1
          by_cases c : m2 = m
          · rw [if_pos c, List.filter_cons_of_pos (by simpa using c)]; rfl
          · rw [if_neg c, List.filter_cons_of_neg (by simpa using c)]; rfl
        rw [es]
        refine iteD (fun c => ?_) (fun c => ?_)
        · rw [if_pos c]
          refine ⟨_, rfl, _, upd_same, ?_, by rw [upd_upd]⟩
          refine small1000 (Nat.le_trans (m := 6) ?_ (by decide))
          unfold sgF
          rw [List.length_map]
          refine Nat.le_trans (List.length_filter_le _ _) ?_
          rw [List.length_take]
          exact Nat.le_trans (Nat.min_le_right _ _) (by decide)
        · rw [if_neg c, List.append_nil]
      · rintro H4 rfl
        have sD := same_new hD (o := .lst (sgF m 6))
        have e6 : sgF m sgs.length = [.str ⟨#[sgC m]⟩] := sgF_all hmt
        rw [e6]
        refine ⟨D, _, _, _, rfl, rfl, SqL.of upd_same, at_of (j := 0) rfl rfl, txt (row.take i), ⟨#[sgC m]⟩, rfl, rfl, ?_, s2.trans (same_new hD), some x, v4, ?_⟩
        · rw [txt_len, List.length_take]
          have := hG.len
          show min i row.length + 1 ≤ sizeLine
          rw [sizeLine_eq]
          omega
        · rw [take_snoc hm, txt_snoc]
          rfl
    · rintro σ H2 ⟨s2, v3, v4, rfl⟩
      rw [hxl, List.take_length]
      exact ⟨_, rfl, kG hb _ _ s2⟩
end
/-! ### the law -/
section
open LamX
theorem Tabs.frm {T : List (Addr × Str)} {H H' : Hp} {ps : List Addr} (t : Tabs T H) (f : Frm ps H H') (l : ∀ p ∈ ps, ∃ xs, H p = some (.lst xs)) : Tabs T H' := fun p hp => by
  obtain ⟨q, h1, h2, h3⟩ := t p hp
  have nl : ∀ b o, H b = some o → (∀ xs, o ≠ .lst xs) → H' b = some o := fun b o e n => f b o (fun hb => by
    obtain ⟨xs, z⟩ := l b hb
    rw [e] at z
    exact n xs (Option.some.inj z)) e
  refine ⟨q, nl _ _ h1 (fun xs z => by cases z), h2, fun pos cv hc => ?_⟩
  obtain ⟨c, e1, e2⟩ := h3 pos cv hc
  exact ⟨c, e1, nl _ _ e2 fun xs z => by unfold CodeO at z; cases z⟩
theorem Tabs.frm1 {T : List (Addr × Str)} {H H' : Hp} {d : Addr} {xs : List V} (t : Tabs T H) (f : Frm [d] H H') (h : H d = some (.lst xs)) : Tabs T H' := Tabs.frm t f fun p hp => by
  obtain rfl := List.mem_singleton.mp hp
  exact ⟨xs, h⟩
end
section
open PySem PySem.Spec PyProof.Rows L2
theorem okC {P : Program} {w : World} {K : PySem.W.Frag} {mg : Str → Option Value} {base : Heap} {x qual : Str} {st : Stmt} {f : Addr} {N ps : List Str} {k : Nat} {sp : Sp} {oc kV doc pm cdv ct : Value} {od an : Option Addr} {osl : Array (Option Value)}
    (lk : K.lookup f = some ⟨oc, od, .func (PySem.W.fnOf x qual (defArgs st) (defBody st) (defScope st) .none kV doc pm an cdv ct), osl⟩) (hcd : PySem.W.codeIn K cdv qual = true) (S : FnScope N ps (defScope st)) (len : ∀ vs H Q E, sp vs H Q E → vs.length = ps.length)
    (hb : ∀ (A : Around) (outer : List Env) (s : Shared) (H : Hp) (vs : List V) (Q : VK) (E : XK), Room k (A.deeper (envOfC qual (defScope st) s.heap.objs.size f cdv)) → sp vs H Q E →
      ∃ t, PSs (cxOf CX0 P w K mg base N qual (defScope st) f cdv A outer s H E).nox (defBody st) t ∧ t { nx := fun _ H' => Q .non H', rt := Q } (L2.start N vs) H) : FnOk P w K mg base CX0 (k + 1) f (PySem.W.fnOf x qual (defArgs st) (defBody st) (defScope st) .none kV doc pm an cdv ct) ps sp := by
  refine fn_of lk hcd S len fun A outer s H vs Q E hr hsp => ?_
  obtain ⟨t, h, q⟩ := hb A outer s H vs Q E hr hsp
  exact ⟨t, h.nox, q⟩
end
def spLaw (K : PySem.W.Frag) (T : List (Addr × Str)) : Sp := fun vs H Q _ => ∃ (a : Addr) (ns : List Int), vs = [.ref a] ∧ SqL K H a (ns.map V.int) ∧ ns.length ≤ 63 ∧ LamX.Tabs T H ∧ ∀ H', Q (.bl true) H'
section
variable {K : PySem.W.Frag} {H H' : Hp} {a : Addr}
theorem sql_extN {xs : List V} (e : LamX.ExtN H H') (h : SqL K H a xs) : SqL K H' a xs := by
  rcases h with (h | ⟨o, h⟩) | h
  · exact .inl (.inl (e _ _ h fun _ z => by cases z))
  · exact .inl (.inr ⟨o, e _ _ h fun _ z => by cases z⟩)
  · exact .inr h
theorem sqt_extN {xs : List V} (e : LamX.ExtN H H') (h : SqT K H a xs) : SqT K H' a xs := by
  rcases h with (h | ⟨o, h⟩) | h
  · exact .inl (.inl (e _ _ h fun _ z => by cases z))
  · exact .inl (.inr ⟨o, e _ _ h fun _ z => by cases z⟩)
  · exact .inr h
mutual
theorem dp_extN (e : LamX.ExtN H H') : ∀ {v : V} {d : PyData}, Dp K H v d → Dp K H' v d
  | _, _, .non => .non
  | _, _, .bl b => .bl b
  | _, _, .int i => .int i
  | _, _, .str x => .str x
  | _, _, .lst h t => .lst (sql_extN e h) (dpa_extN e t)
  | _, _, .tup h t => .tup (sqt_extN e h) (dpa_extN e t)
theorem dpa_extN (e : LamX.ExtN H H') : ∀ {vs : List V} {ds : List PyData}, DpAll K H vs ds → DpAll K H' vs ds
  | _, _, .nil => .nil
  | _, _, .cons h t => .cons (dp_extN e h) (dpa_extN e t)
end
end
theorem dp_mv {K : PySem.W.Frag} {H : Hp} {d p : Addr} (m : Mv) (n : p ≠ d) (h : H p = some (.tup [.int m.1, .bl m.2])) : Dp K (Fz [d] H) (.ref p) (mvD m) := .tup (SqT.of (fz_some.mpr ⟨by simpa using n, h⟩)) (dpa_ib _ _)
theorem pick8 {K : PySem.W.Frag} {H : Hp} {d p1 p2 p3 p4 p5 p6 p7 p8 : Addr} (n1 : p1 ≠ d) (n2 : p2 ≠ d) (n3 : p3 ≠ d) (n4 : p4 ≠ d) (n5 : p5 ≠ d) (n6 : p6 ≠ d) (n7 : p7 ≠ d) (n8 : p8 ≠ d)
    (t1 : H p1 = some (.tup [.int 2, .bl false])) (t2 : H p2 = some (.tup [.int (-2), .bl false])) (t3 : H p3 = some (.tup [.int 1, .bl false])) (t4 : H p4 = some (.tup [.int (-1), .bl false])) (t5 : H p5 = some (.tup [.int 0, .bl true])) (t6 : H p6 = some (.tup [.int 1, .bl true])) (t7 : H p7 = some (.tup [.int (-1), .bl true])) (t8 : H p8 = some (.tup [.int 1000000000, .bl true])) {v : Int} (v0 : 0 ≤ v) (v1 : v < 8) : ∃ (x : V) (m : Mv), atI [.ref p1, .ref p2, .ref p3, .ref p4, .ref p5, .ref p6, .ref p7, .ref p8] v = some x ∧ Dp K (Fz [d] H) x (mvD m) := by
  have : v = 0 ∨ v = 1 ∨ v = 2 ∨ v = 3 ∨ v = 4 ∨ v = 5 ∨ v = 6 ∨ v = 7 := by omega
  rcases this with rfl | rfl | rfl | rfl | rfl | rfl | rfl | rfl
  · exact ⟨_, (2, false), rfl, dp_mv (2, false) n1 t1⟩
  · exact ⟨_, (-2, false), rfl, dp_mv (-2, false) n2 t2⟩
  · exact ⟨_, (1, false), rfl, dp_mv (1, false) n3 t3⟩
  · exact ⟨_, (-1, false), rfl, dp_mv (-1, false) n4 t4⟩
  · exact ⟨_, (0, true), rfl, dp_mv (0, true) n5 t5⟩
  · exact ⟨_, (1, true), rfl, dp_mv (1, true) n6 t6⟩
  · exact ⟨_, (-1, true), rfl, dp_mv (-1, true) n7 t7⟩
  · exact ⟨_, (1000000000, true), rfl, dp_mv (1000000000, true) n8 t8⟩
section
variable {P : Program} {w : World} {K : PySem.W.Frag} {mg : Str → Option Value} {base : Heap}
theorem sc_law : FnScope ["_law_script", "_law_d", "_law_turn", "_law_row_here", "_law_change", "_law_at", "_law_odd", "_law_bad_here", "_law_works", "_law_work", "_law_handed", "_law_knob_here", "_law_reader_here"] ["_law_script"] (defScope (top 33)) := ⟨rfl, rfl, rfl, by decide +kernel, rfl, by decide +kernel, by decide +kernel⟩
set_option maxHeartbeats 16000000 in
theorem ok_law {f gf c tP CE Ck Cr Cw Ct : Addr} {fdR : FuncData} {oc kV doc pm ct : Value} {od an : Option Addr} {osl : Array (Option Value)} (lk : K.lookup f = some ⟨oc, od, .func (PySem.W.fnOf "law" "law" (defArgs (top 33)) (defBody (top 33)) (defScope (top 33)) .none kV doc pm an (.ref c) ct), osl⟩) (hcd : PySem.W.codeIn K (.ref c) "law" = true)
    (TB : LamX.TabB base mg c tP) (R : RefOk P w K mg base CE Ck Cr Cw Ct 6 gf fdR ["_law_work", "_law_word", "_law_value"]) (gR : mg "_law_refused" = some (.ref gf)) (kR : PySem.W.keepIn K (.ref gf) = true) (bR : Binds K fdR ["_law_work", "_law_word", "_law_value"] []) (ew : ErrW K CE Ck Cr Cw Ct "row" Cw "at")
    (n_len : mg "len" = none) (n_range : mg "range" = none) (n_list : mg "list" = none)
    (c__law_dice : Cal P w K mg base 1 "_law_dice" ["_law_script", "_law_k"] (spDice K)) (c__law_off : Cal P w K mg base 1 "_law_off" ["_law_d", "_law_most"] spOff) (c__law_knob : Cal P w K mg base 2 "_law_knob" ["_law_d"] spKnob) (c__law_reader : Cal P w K mg base 2 "_law_reader" ["_law_d"] spReader)
    (c__law_row : Cal P w K mg base 2 "_law_row" ["_law_d", "_law_knob_here", "_law_many"] (spRowW K)) (c__law_bad : Cal P w K mg base 1 "_law_bad" ["_law_knob_here", "_law_row_here"] (spBad K))
    (cx_shown : CalN P w K mg base 5 "shown" ["knob", "row"] (spShownX K Cw)) (cx_run : CalN P w K mg base 5 "run" ["knob", "reader", "row"] (spRunX K Cw)) (cx_written : CalN P w K mg base 5 "written" ["knob", "row"] (spWritX K Cw)) : FnOk P w K mg base CX0 10 f (PySem.W.fnOf "law" "law" (defArgs (top 33)) (defBody (top 33)) (defScope (top 33)) .none kV doc pm an (.ref c) ct) ["_law_script"] (spLaw K [(tP, "law.<locals>.<lambda>")]) := by
  have sc := sc_law
  have hmT : (tP, ("law.<locals>.<lambda>" : Str)) ∈ [(tP, ("law.<locals>.<lambda>" : Str))] := List.mem_cons_self
  have huT : ∀ p ∈ [(tP, ("law.<locals>.<lambda>" : Str))], p.1 = tP → p.2 = "law.<locals>.<lambda>" := fun p hp _ => by rw [List.mem_singleton.mp hp]
  refine okC lk hcd sc (fun vs H Q E h => ?_) (fun A outer s H vs Q E hr h => ?_)
  · obtain ⟨a, ns, rfl, _⟩ := h
    rfl
  · obtain ⟨sa, ns, rfl, hS, hlen, hT0, k⟩ := h
    refine ⟨_, (pss_cons (ps_set (i := 1) sc.nd rfl (Or.inl rfl) (pe_cal c__law_dice (hr.mono (by first | decide | omega)) (pa_cons (pv 0) (pa_cons pe_int pa_nil))))
(pss_cons (ps_asg (pe_tup (pa_cons (pe_cal c__law_knob (hr.mono (by first | decide | omega)) (pa_cons (pv 1) pa_nil)) (pa_cons (pe_cal c__law_reader (hr.mono (by first | decide | omega)) (pa_cons (pv 1) pa_nil)) pa_nil))) (pg_tup rfl (pgs_cons (pg_name (i := 11) sc.nd rfl (Or.inr rfl)) (pgs_cons (pg_name (i := 12) sc.nd rfl (Or.inr rfl)) pgs_nil))))
(pss_cons (ps_for PassesOwn.never rfl (pi_range1 rfl n_range (pa_cons pe_int pa_nil)) (pg_name (i := 2) sc.nd rfl (Or.inl rfl))
(pss_cons (ps_set (i := 3) sc.nd rfl (Or.inl rfl) (pe_cal c__law_row (hr.mono (by first | decide | omega)) (pa_cons (pv 1) (pa_cons (pv 11) (pa_cons (pe_cal c__law_off (hr.mono (by first | decide | omega)) (pa_cons (pv 1) (pa_cons pe_int pa_nil))) pa_nil)))))
(C8.pss_cut (ps_if (PW.pt (pw_and (pt_cmpR op_eq (pv 2) pe_int (nomark _)) (pw_and1 (pt_cmpR op_eq (pe_cal c__law_off (hr.mono (by first | decide | omega)) (pa_cons (pv 1) (pa_cons pe_int pa_nil))) pe_int (nomark _)))))
(pss_one (ps_set (i := 3) sc.nd rfl (Or.inl rfl) (pe_cal c__law_row (hr.mono (by first | decide | omega)) (pa_cons (pv 1) (pa_cons (pv 11) (pa_cons (pe_op op_add pe_int (pe_cal c__law_off (hr.mono (by first | decide | omega)) (pa_cons (pv 1) (pa_cons pe_int pa_nil)))) pa_nil))))))
pss_nil)
(pss_cons (ps_for PassesOwn.never rfl (pi_range1 rfl n_range (pa_cons (pe_cal c__law_off (hr.mono (by first | decide | omega)) (pa_cons (pv 1) (pa_cons pe_int pa_nil))) pa_nil)) (pg_name (i := 4) sc.nd rfl (Or.inl rfl))
(pss_cons (ps_set (i := 5) sc.nd rfl (Or.inl rfl) (pe_cal c__law_off (hr.mono (by first | decide | omega)) (pa_cons (pv 1) (pa_cons (pe_op op_add (pe_callB (r := rLenQ K) call_lenQ (by rfl) n_len PySem.boot_len (pa_cons (pv 3) pa_nil)) pe_int) pa_nil))))
(pss_cons (ps_set (i := 6) sc.nd rfl (Or.inl rfl) (pe_cut (pe_lst (pa_cons (pe_tup (pa_cons pe_int (pa_cons pe_bl pa_nil))) (pa_cons (pe_tup (pa_cons (pe_un un_neg pe_int) (pa_cons pe_bl pa_nil))) (pa_cons (pe_tup (pa_cons pe_int (pa_cons pe_bl pa_nil))) (pa_cons (pe_tup (pa_cons (pe_un un_neg pe_int) (pa_cons pe_bl pa_nil))) (pa_cons (pe_tup (pa_cons pe_int (pa_cons pe_bl pa_nil))) (pa_cons (pe_tup (pa_cons pe_int (pa_cons pe_bl pa_nil))) (pa_cons (pe_tup (pa_cons (pe_un un_neg pe_int) (pa_cons pe_bl pa_nil))) (pa_cons (pe_tup (pa_cons (pe_op op_pow pe_int pe_int) (pa_cons pe_bl pa_nil))) pa_nil)))))))))))
(pss_one (ps_set (i := 3) sc.nd rfl (Or.inl rfl) (pe_op op_cat (pe_op op_cat (pe_slice (r := rSlL K) sl_list (pv 3) po_none (po_some (pv 5))) (pe_lst (pa_cons (pe_ix (r := rIxL K) ix_list (pv 6) (pe_cal c__law_off (hr.mono (by first | decide | omega)) (pa_cons (pv 1) (pa_cons pe_int pa_nil))) (fun _ _ => rfl)) pa_nil))) (pe_slice (r := rSlL K) sl_list (pv 3) (po_some (pe_op op_add (pv 5) (pe_cal c__law_off (hr.mono (by first | decide | omega)) (pa_cons (pv 1) (pa_cons pe_int pa_nil))))) po_none)))))))
(pss_cons (ps_set (i := 10) sc.nd rfl (Or.inr rfl) (pe_callTy (r := rListQ K) call_listQ (by rfl) n_list (by decide +kernel) (pa_cons (pv 3) pa_nil)))
(pss_cons (ps_set (i := 7) sc.nd rfl (Or.inl rfl) (pe_cal c__law_bad (hr.mono (by first | decide | omega)) (pa_cons (pv 11) (pa_cons (pv 3) pa_nil))))
(pss_cons (ps_set (i := 8) sc.nd rfl (Or.inl rfl) (pe_lst (pa_cons (pe_lam TB rfl hmT huT (LamX.lamS_by (sc := defScope (top 33)) (by decide +kernel)) rfl) (pa_cons (pe_lamD TB rfl hmT huT (lamD_by (N := ["_law_script", "_law_d", "_law_turn", "_law_row_here", "_law_change", "_law_at", "_law_odd", "_law_bad_here", "_law_works", "_law_work", "_law_handed", "_law_knob_here", "_law_reader_here"]) (sc := defScope (top 33)) (by decide +kernel)) rfl rfl pe_int) (pa_cons (pe_lamD TB rfl hmT huT (lamD_by (N := ["_law_script", "_law_d", "_law_turn", "_law_row_here", "_law_change", "_law_at", "_law_odd", "_law_bad_here", "_law_works", "_law_work", "_law_handed", "_law_knob_here", "_law_reader_here"]) (sc := defScope (top 33)) (by decide +kernel)) rfl rfl pe_int) pa_nil)))))
(pss_cons (ps_for PassesOwn.never rfl (pi_list (pv 8)) (pg_name (i := 9) sc.nd rfl (Or.inl rfl))
(pss_one (ps_if (pt_cmpR op_isN (pv 7) pe_non (nomark _))
(pss_one (ps_expr (pe_actL (k := 6) (i := 9) (hr.mono (by first | decide | omega)) rfl (.inl rfl))))
(pss_one (ps_if (pt_not (pt_val (pe_refd R (hr.mono (by first | decide | omega)) gR kR bR rfl (pa_cons (pv 9) (pa_cons pe_str (pa_cons (pv 7) pa_nil))))))
(pss_one (ps_ret pe_bl))
pss_nil)))))
(pss_one (ps_if (pt_cmpR (r := rNeD K) (op_neD hr.units) (pv 10) (pv 3) (nomark _))
(pss_one (ps_ret pe_bl))
pss_nil))))))))))
(pss_one (ps_ret pe_bl))))), ?_⟩
    refine ⟨_, rfl, sa, ns, rfl, hS, hlen, fun d ms H1 hd0 s1 hd1 hD1 => ?_⟩
    have hT1 := hT0.ext s1
    refine ⟨_, rfl, d, ms, rfl, hd1, hD1, fun g b ms2 kn g1 g6 b0 b1 hD2 hkn => ?_⟩
    have nkd : d ≠ kn := ne_of_none hd1 hkn
    have hd2 : (upd (upd H1 d (.lst (ms2.map V.int))) kn (.tup [.int g, .int b])) d = some (.lst (ms2.map V.int)) := by rw [upd_ne nkd, upd_same]
    have hk2 : (upd (upd H1 d (.lst (ms2.map V.int))) kn (.tup [.int g, .int b])) kn = some (.tup [.int g, .int b]) := upd_same
    have fr2 : Frm [d] H1 (upd (upd H1 d (.lst (ms2.map V.int))) kn (.tup [.int g, .int b])) := (Frm.set (by simp)).trans (Frm.new (by rw [upd_ne nkd.symm]; exact hkn))
    have hT2 := Tabs.frm1 hT1 fr2 hd1
    revert hd2 hk2 hT2
    generalize upd (upd H1 d (.lst (ms2.map V.int))) kn (.tup [.int g, .int b]) = H2
    intro hd2 hk2 hT2
    refine ⟨_, rfl, d, ms2, rfl, hd2, hD2, fun ra rs ms3 rd a1 a6 s1 s3 hD3 hrd => ?_⟩
    have nrd : d ≠ rd := ne_of_none hd2 hrd
    have frR : Frm [d] H2 (upd (upd H2 d (.lst (ms3.map V.int))) rd (.tup [.int ra, .int rs])) := (Frm.set (by simp)).trans (Frm.new (by rw [upd_ne nrd.symm]; exact hrd))
    have hd3 : (upd (upd H2 d (.lst (ms3.map V.int))) rd (.tup [.int ra, .int rs])) d = some (.lst (ms3.map V.int)) := by rw [upd_ne nrd, upd_same]
    have hk3 := frR _ _ (by simpa using nkd.symm) hk2
    have hr3 : (upd (upd H2 d (.lst (ms3.map V.int))) rd (.tup [.int ra, .int rs])) rd = some (.tup [.int ra, .int rs]) := upd_same
    have hT3 := Tabs.frm1 hT2 frR hd2
    revert hd3 hk3 hr3 hT3
    generalize upd (upd H2 d (.lst (ms3.map V.int))) rd (.tup [.int ra, .int rs]) = H3
    intro hd3 hk3 hr3 hT3
    refine ⟨by show 2 ≤ sizeLine; decide, fun tp htp => ?_⟩
    have stp := same_new htp (o := .tup [.ref kn, .ref rd])
    refine ⟨tp, _, rfl, SqT.of upd_same, rfl, _, _, rfl, _, _, rfl, rfl, ?_⟩
    refine ⟨4, rfl, by decide, by decide, for_range (lo := 0) (n := 4) (fun i σ H' => ∃ (ms : List Int) (u2 u3 u4 u5 u6 u7 u8 u9 u10 : Option V), σ = [some (.ref sa), some (.ref d), u2, u3, u4, u5, u6, u7, u8, u9, u10, some (.ref kn), some (.ref rd)] ∧
      Dice ms ∧ H' d = some (.lst (ms.map V.int)) ∧ H' kn = some (.tup [.int g, .int b]) ∧ H' rd = some (.tup [.int ra, .int rs]) ∧ LamX.Tabs [(tP, "law.<locals>.<lambda>")] H') ?_ ?_ ?_⟩
    · exact ⟨ms3, _, _, _, _, _, _, _, _, _, rfl, hD3, stp _ _ hd3, stp _ _ hk3, stp _ _ hr3, hT3.ext stp⟩
    · clear hd3 hk3 hr3 hT3 hd2 hk2 hT2 fr2 frR hT1 stp htp
      rintro i σ H3 hi ⟨ms3, u2, u3, u4, u5, u6, u7, u8, u9, u10, rfl, hD3, hd3, hk3, hr3, hT3⟩
      have hi4 : i < 4 := hi
      refine ⟨_, rfl, _, rfl, _, rfl, d, ms3, 41, rfl, hd3, hD3, by decide, by decide, fun v ms4 v0 v1 hD4 => ?_⟩
      have hk4 : (upd H3 d (.lst (ms4.map V.int))) kn = some (.tup [.int g, .int b]) := by rw [upd_ne nkd.symm]; exact hk3
      have hT4 := Tabs.frm1 hT3 (Frm.set (by simp) : Frm [d] H3 (upd H3 d (.lst (ms4.map V.int)))) hd3
      have hr4 : (upd H3 d (.lst (ms4.map V.int))) rd = some (.tup [.int ra, .int rs]) := by rw [upd_ne nrd.symm]; exact hr3
      refine ⟨d, kn, ms4, v, g, b, [d], rfl, upd_same, hD4, by simp, live_cons upd_same live_nil, .tup (SqT.of (fz_some.mpr ⟨by simpa using nkd.symm, hk4⟩)) (dpa_ii _ _), g1, g6, b0, b1, v0, by omega, fun row ms5 p ys H4 hrl hD5 hp fr5 hd5 hp5 hY5 => ?_⟩
      have npd : d ≠ p := ne_of_none upd_same hp
      have hk5 := fr5 _ _ (by simpa using nkd.symm) hk4
      have hr5 := fr5 _ _ (by simpa using nrd.symm) hr4
      have hT5 := Tabs.frm1 hT4 fr5 upd_same
      have dr5 : Dp K (Fz [d] H4) (.ref p) (rowD row) := .lst (SqL.of (fz_some.mpr ⟨by simpa using npd.symm, hp5⟩)) (dpa_same (fz_less (by simp)) hY5)
      -- the long row
      refine ⟨fun σ H' => ∃ (ms : List Int) (rv : V) (row : List Mv), σ = [some (.ref sa), some (.ref d), some (.int (0 + (i : Int))), some rv, u4, u5, u6, u7, u8, u9, u10, some (.ref kn), some (.ref rd)] ∧ row.length ≤ 202 ∧ Dp K (Fz [d] H') rv (rowD row) ∧
        Dice ms ∧ H' d = some (.lst (ms.map V.int)) ∧ H' kn = some (.tup [.int g, .int b]) ∧ H' rd = some (.tup [.int ra, .int rs]) ∧ LamX.Tabs [(tP, "law.<locals>.<lambda>")] H', ?_, ?_⟩
      · refine ⟨_, rfl, rfl, _, rfl, ?_⟩
        by_cases c3 : (0 + (i : Int)) = 3
        · refine iteDT (vint_eq c3) ⟨_, rfl, d, ms5, 3, rfl, hd5, hD5, by decide, by decide, fun v2 ms6 v20 v21 hD6 => ?_⟩
          have f6 : Frm [d] H4 (upd H4 d (.lst (ms6.map V.int))) := Frm.set (by simp)
          have hd6 : (upd H4 d (.lst (ms6.map V.int))) d = some (.lst (ms6.map V.int)) := upd_same
          have hk6 := f6 _ _ (by simpa using nkd.symm) hk5
          have hr6 := f6 _ _ (by simpa using nrd.symm) hr5
          have hT6 := Tabs.frm1 hT5 f6 hd5
          have dr6 := dp_same f6.fz dr5
          revert f6 hd6 hk6 hr6 hT6 dr6
          generalize upd H4 d (.lst (ms6.map V.int)) = H5
          intro f6 hd6 hk6 hr6 hT6 dr6
          refine ⟨rfl, _, rfl, ?_⟩
          by_cases c2 : v2 = 0
          · refine iteDT (vint_eq c2) ⟨_, rfl, _, rfl, _, rfl, d, ms6, 3, rfl, hd6, hD6, by decide, by decide, fun v3 ms7 v30 v31 hD7 => ?_⟩
            have f7 : Frm [d] H5 (upd H5 d (.lst (ms7.map V.int))) := Frm.set (by simp)
            have hd7 : (upd H5 d (.lst (ms7.map V.int))) d = some (.lst (ms7.map V.int)) := upd_same
            have hk7 := f7 _ _ (by simpa using nkd.symm) hk6
            have hr7 := f7 _ _ (by simpa using nrd.symm) hr6
            have hT7 := Tabs.frm1 hT6 f7 hd6
            revert f7 hd7 hk7 hr7 hT7
            generalize upd H5 d (.lst (ms7.map V.int)) = H6
            intro f7 hd7 hk7 hr7 hT7
            refine ⟨_, _, rfl, rfl, d, kn, ms7, 200 + v3, g, b, [d], rfl, hd7, hD7, by simp, live_cons hd7 live_nil, .tup (SqT.of (fz_some.mpr ⟨by simpa using nkd.symm, hk7⟩)) (dpa_ii _ _), g1, g6, b0, b1, by omega, by omega, fun row2 ms8 p2 ys2 H7 hrl2 hD8 hp2 fr8 hd8 hp8 hY8 => ?_⟩
            have np2 : d ≠ p2 := ne_of_none hd7 hp2
            exact ⟨ms8, .ref p2, row2, rfl, by omega, .lst (SqL.of (fz_some.mpr ⟨by simpa using np2.symm, hp8⟩)) (dpa_same (fz_less (by simp)) hY8), hD8, hd8, fr8 _ _ (by simpa using nkd.symm) hk7, fr8 _ _ (by simpa using nrd.symm) hr7, Tabs.frm1 hT7 fr8 hd7⟩
          · exact iteDF (vint_ne c2) ⟨ms6, .ref p, row, rfl, by omega, dr6, hD6, hd6, hk6, hr6, hT6⟩
        · exact iteDF (vint_ne c3) ⟨ms5, .ref p, row, rfl, by omega, dr5, hD5, hd5, hk5, hr5, hT5⟩
      clear dr5 hT5 hr5 hk5 hd5 hp5 hY5 fr5 hp npd hrl hD5 hk4 hT4 hr4 hD4 hk3 hr3 hd3 hT3 hD3
      clear ys p row
      rintro σ H4 ⟨ms5, rv, row, rfl, hrl, dr5, hD5, hd5, hk5, hr5, hT5⟩
      -- the changes
      refine ⟨_, rfl, d, ms5, 3, rfl, hd5, hD5, by decide, by decide, fun v2 ms6 v20 v21 hD6 => ?_⟩
      have f6 : Frm [d] H4 (upd H4 d (.lst (ms6.map V.int))) := Frm.set (by simp)
      have hd6 : (upd H4 d (.lst (ms6.map V.int))) d = some (.lst (ms6.map V.int)) := upd_same
      have hk6 := f6 _ _ (by simpa using nkd.symm) hk5
      have hr6 := f6 _ _ (by simpa using nrd.symm) hr5
      have hT6 := Tabs.frm1 hT5 f6 hd5
      have dr6 := dp_same f6.fz dr5
      revert f6 hd6 hk6 hr6 hT6 dr6
      generalize upd H4 d (.lst (ms6.map V.int)) = H5
      intro f6 hd6 hk6 hr6 hT6 dr6
      refine ⟨v2, rfl, by omega, by omega, for_range (lo := 0) (n := v2.toNat) (fun j σ H' => ∃ (ms : List Int) (rv : V) (row : List Mv) (w4 w5 w6 : Option V), σ = [some (.ref sa), some (.ref d), some (.int (0 + (i : Int))), some rv, w4, w5, w6, u7, u8, u9, u10, some (.ref kn), some (.ref rd)] ∧ row.length ≤ 202 + j ∧ Dp K (Fz [d] H') rv (rowD row) ∧
        Dice ms ∧ H' d = some (.lst (ms.map V.int)) ∧ H' kn = some (.tup [.int g, .int b]) ∧ H' rd = some (.tup [.int ra, .int rs]) ∧ LamX.Tabs [(tP, "law.<locals>.<lambda>")] H') ?_ ?_ ?_⟩
      · exact ⟨ms6, rv, row, _, _, _, rfl, by omega, dr6, hD6, hd6, hk6, hr6, hT6⟩
      · clear dr6 hT6 hr6 hk6 hd6 f6 hD6 dr5 hrl
        clear row rv
        rintro j σ H7 hj ⟨ms6, rv, row, w4, w5, w6, rfl, hl7, dr7, hD6, hd7, hk7, hr7, hT7⟩
        have hj2 : j < 2 := by omega
        obtain ⟨ra', ys, rfl, hL7, hY7⟩ := dp_lst dr7
        have hyl : ys.length = row.length := by rw [dpa_length hY7, List.length_map]
        refine ⟨_, rfl, _, rfl, ra', ys, rfl, .inl (fz_le.seq hL7), _, _, rfl, rfl, d, ms6, _, rfl, hd7, hD6, by omega, by omega, fun v3 ms7 v30 v31 hD7 => ?_⟩
        have fr8 : Frm [d] H7 (upd H7 d (.lst (ms7.map V.int))) := Frm.set (by simp)
        have hd8 : (upd H7 d (.lst (ms7.map V.int))) d = some (.lst (ms7.map V.int)) := upd_same
        have hk8 := fr8 _ _ (by simpa using nkd.symm) hk7
        have hr8 := fr8 _ _ (by simpa using nrd.symm) hr7
        have hT8 := Tabs.frm1 hT7 fr8 hd7
        have hL8 := fr8.fz.seq hL7
        have hY8 := dpa_same fr8.fz hY7
        revert fr8 hd8 hk8 hr8 hT8 hL8 hY8
        generalize upd H7 d (.lst (ms7.map V.int)) = H8
        intro fr8 hd8 hk8 hr8 hT8 hL8 hY8
        refine ⟨fun v H' => ∃ (pl : Addr) (os : List V), v = .ref pl ∧ d ≠ pl ∧ Same H8 H' ∧ H' pl = some (.lst os) ∧ ∀ z : Int, 0 ≤ z → z < 8 → ∃ (x : V) (m : Mv), atI os z = some x ∧ Dp K (Fz [d] H') x (mvD m), ?_, ?_⟩
        · refine ⟨by show 2 ≤ sizeLine; decide, fun p1 hp1 => ?_⟩
          have q1 := same_new hp1 (o := .tup [.int 2, .bl false])
          refine ⟨_, rfl, by show 2 ≤ sizeLine; decide, fun p2 hp2 => ?_⟩
          have q2 := same_new hp2 (o := .tup [.int (-2), .bl false])
          refine ⟨by show 2 ≤ sizeLine; decide, fun p3 hp3 => ?_⟩
          have q3 := same_new hp3 (o := .tup [.int 1, .bl false])
          refine ⟨_, rfl, by show 2 ≤ sizeLine; decide, fun p4 hp4 => ?_⟩
          have q4 := same_new hp4 (o := .tup [.int (-1), .bl false])
          refine ⟨by show 2 ≤ sizeLine; decide, fun p5 hp5 => ?_⟩
          have q5 := same_new hp5 (o := .tup [.int 0, .bl true])
          refine ⟨by show 2 ≤ sizeLine; decide, fun p6 hp6 => ?_⟩
          have q6 := same_new hp6 (o := .tup [.int 1, .bl true])
          refine ⟨_, rfl, by show 2 ≤ sizeLine; decide, fun p7 hp7 => ?_⟩
          have q7 := same_new hp7 (o := .tup [.int (-1), .bl true])
          refine ⟨_, _, rfl, rfl, ⟨by decide, by decide, by decide⟩, by show 2 ≤ sizeLine; decide, fun p8 hp8 => ?_⟩
          have q8 := same_new hp8 (o := .tup [.int 1000000000, .bl true])
          refine ⟨by show 8 ≤ sizeLine; decide, fun pl hpl => ?_⟩
          have q9 := same_new hpl (o := .lst [.ref p1, .ref p2, .ref p3, .ref p4, .ref p5, .ref p6, .ref p7, .ref p8])
          have s88 := ((((((q1.trans q2).trans q3).trans q4).trans q5).trans q6).trans q7).trans q8
          have s89 := s88.trans q9
          have npl : d ≠ pl := ne_of_none (s88 _ _ hd8) hpl
          have nd1 : d ≠ p1 := ne_of_none (hd8) hp1
          have nd2 : d ≠ p2 := ne_of_none (q1 _ _ (hd8)) hp2
          have nd3 : d ≠ p3 := ne_of_none (q2 _ _ (q1 _ _ (hd8))) hp3
          have nd4 : d ≠ p4 := ne_of_none (q3 _ _ (q2 _ _ (q1 _ _ (hd8)))) hp4
          have nd5 : d ≠ p5 := ne_of_none (q4 _ _ (q3 _ _ (q2 _ _ (q1 _ _ (hd8))))) hp5
          have nd6 : d ≠ p6 := ne_of_none (q5 _ _ (q4 _ _ (q3 _ _ (q2 _ _ (q1 _ _ (hd8)))))) hp6
          have nd7 : d ≠ p7 := ne_of_none (q6 _ _ (q5 _ _ (q4 _ _ (q3 _ _ (q2 _ _ (q1 _ _ (hd8))))))) hp7
          have nd8 : d ≠ p8 := ne_of_none (q7 _ _ (q6 _ _ (q5 _ _ (q4 _ _ (q3 _ _ (q2 _ _ (q1 _ _ (hd8)))))))) hp8
          have t1 := q9 _ _ (q8 _ _ (q7 _ _ (q6 _ _ (q5 _ _ (q4 _ _ (q3 _ _ (q2 _ _ (upd_same (a := p1) (o := HO.tup [.int 2, .bl false])))))))))
          have t2 := q9 _ _ (q8 _ _ (q7 _ _ (q6 _ _ (q5 _ _ (q4 _ _ (q3 _ _ (upd_same (a := p2) (o := HO.tup [.int (-2), .bl false]))))))))
          have t3 := q9 _ _ (q8 _ _ (q7 _ _ (q6 _ _ (q5 _ _ (q4 _ _ (upd_same (a := p3) (o := HO.tup [.int 1, .bl false])))))))
          have t4 := q9 _ _ (q8 _ _ (q7 _ _ (q6 _ _ (q5 _ _ (upd_same (a := p4) (o := HO.tup [.int (-1), .bl false]))))))
          have t5 := q9 _ _ (q8 _ _ (q7 _ _ (q6 _ _ (upd_same (a := p5) (o := HO.tup [.int 0, .bl true])))))
          have t6 := q9 _ _ (q8 _ _ (q7 _ _ (upd_same (a := p6) (o := HO.tup [.int 1, .bl true]))))
          have t7 := q9 _ _ (q8 _ _ (upd_same (a := p7) (o := HO.tup [.int (-1), .bl true])))
          have t8 := q9 _ _ (upd_same (a := p8) (o := HO.tup [.int 1000000000, .bl true]))
          exact ⟨pl, _, rfl, npl, s89, upd_same, fun z z0 z1 => pick8 (K := K) (d := d) nd1.symm nd2.symm nd3.symm nd4.symm nd5.symm nd6.symm nd7.symm nd8.symm t1 t2 t3 t4 t5 t6 t7 t8 z0 z1⟩
        rintro _ H9 ⟨pl, os, rfl, npl, s89, hw9, pk⟩
        have hd9 := s89 _ _ hd8
        have hk9 := s89 _ _ hk8
        have hr9 := s89 _ _ hr8
        have hT9 := hT8.ext s89
        have f89 := (Frm.of_same (ps := [d]) s89).fz
        have hL9 := f89.seq hL8
        have hY9 := dpa_same f89 hY8
        refine ⟨_, rfl, _, rfl, v3, rfl, ra', ys, rfl, fz_le.seq hL9, fun a1 ha1 => ?_⟩
        rw [cut_to v30]
        have r1 := same_new ha1 (o := .lst (ys.take v3.toNat))
        have na1 : d ≠ a1 := ne_of_none hd9 ha1
        refine ⟨_, rfl, _, rfl, d, ms7, 8, rfl, r1 _ _ hd9, hD7, by decide, by decide, fun v4 ms8 v40 v41 hD8 => ?_⟩
        obtain ⟨x, m, hx, dm⟩ := pk v4 v40 v41
        have fA := (Frm.of_same (ps := [d]) r1).trans (Frm.set (a := d) (o := HO.lst (ms8.map V.int)) (by simp))
        have hdA := upd_same (H := upd H9 a1 (.lst (ys.take v3.toNat))) (a := d) (o := .lst (ms8.map V.int))
        have haA : (upd (upd H9 a1 (.lst (ys.take v3.toNat))) d (.lst (ms8.map V.int))) a1 = some (.lst (ys.take v3.toNat)) := by rw [upd_ne na1.symm]; exact upd_same
        have hwA := fA _ _ (by simpa using npl.symm) hw9
        have hkA := fA _ _ (by simpa using nkd.symm) hk9
        have hrA := fA _ _ (by simpa using nrd.symm) hr9
        have hTA := Tabs.frm1 hT9 fA hd9
        have hLA := fA.fz.seq hL9
        have hYA := dpa_same fA.fz hY9
        have dmA := dp_same fA.fz dm
        revert hdA haA hwA hkA hrA hTA hLA hYA dmA fA
        generalize upd (upd H9 a1 (.lst (ys.take v3.toNat))) d (.lst (ms8.map V.int)) = HA
        intro fA hdA haA hwA hkA hrA hTA hLA hYA dmA
        refine ⟨pl, _, _, x, rfl, rfl, SqL.of hwA, hx, by show 1 ≤ sizeLine; decide, fun a2 ha2 => ?_⟩
        have r2 := same_new ha2 (o := .lst [x])
        refine ⟨a1, a2, _, _, rfl, rfl, r2 _ _ haA, upd_same, (by rw [List.length_take, sizeLine_eq]; show _ + 1 ≤ _; omega), fun a3 ha3 => ?_⟩
        have r3 := r2.trans (same_new ha3 (o := .lst (ys.take v3.toNat ++ [x])))
        have na3 : d ≠ a3 := ne_of_none (r2 _ _ hdA) ha3
        refine ⟨_, rfl, _, rfl, _, rfl, d, ms8, 2, rfl, r3 _ _ hdA, hD8, by decide, by decide, fun v5 ms9 v50 v51 hD9 => ?_⟩
        have fB := (Frm.of_same (ps := [d]) r3).trans (Frm.set (a := d) (o := HO.lst (ms9.map V.int)) (by simp))
        have hdB := upd_same (H := upd (upd HA a2 (.lst [x])) a3 (.lst (ys.take v3.toNat ++ [x]))) (a := d) (o := .lst (ms9.map V.int))
        have haB : (upd (upd (upd HA a2 (.lst [x])) a3 (.lst (ys.take v3.toNat ++ [x]))) d (.lst (ms9.map V.int))) a3 = some (.lst (ys.take v3.toNat ++ [x])) := by rw [upd_ne na3.symm]; exact upd_same
        have hkB := fB _ _ (by simpa using nkd.symm) hkA
        have hrB := fB _ _ (by simpa using nrd.symm) hrA
        have hTB := Tabs.frm1 hTA fB hdA
        have hLB := fB.fz.seq hLA
        have hYB := dpa_same fB.fz hYA
        have dmB := dp_same fB.fz dmA
        revert hdB haB hkB hrB hTB hLB hYB dmB fB
        generalize upd (upd (upd HA a2 (.lst [x])) a3 (.lst (ys.take v3.toNat ++ [x]))) d (.lst (ms9.map V.int)) = HB
        intro fB hdB haB hkB hrB hTB hLB hYB dmB
        refine ⟨_, _, rfl, rfl, v3 + v5, rfl, ra', ys, rfl, fz_le.seq hLB, fun a4 ha4 => ?_⟩
        rw [cut_from (by omega)]
        have r4 := same_new ha4 (o := .lst (ys.drop (v3 + v5).toNat))
        refine ⟨a3, a4, _, _, rfl, rfl, r4 _ _ haB, upd_same, (by rw [List.length_append, List.length_take, List.length_drop, sizeLine_eq]; show _ + 1 + _ ≤ _; omega), fun a5 ha5 => ?_⟩
        have na5 : d ≠ a5 := ne_of_none (r4 _ _ hdB) ha5
        have r5 := r4.trans (same_new ha5 (o := .lst (ys.take v3.toNat ++ [x] ++ ys.drop (v3 + v5).toNat)))
        have f5 := (Frm.of_same (ps := [d]) r5).fz
        refine ⟨ms9, .ref a5, row.take v3.toNat ++ [m] ++ row.drop (v3 + v5).toNat, _, _, _, rfl, ?_, ?_, hD9, r5 _ _ hdB, r5 _ _ hkB, r5 _ _ hrB, hTB.ext r5⟩
        · rw [List.length_append, List.length_append, List.length_take, List.length_drop]
          show _ + 1 + _ ≤ _
          omega
        · show Dp K _ _ (.list ((row.take v3.toNat ++ [m] ++ row.drop (v3 + v5).toNat).map mvD))
          rw [List.map_append, List.map_append, List.map_take, List.map_drop]
          refine .lst (SqL.of (fz_some.mpr ⟨by simpa using na5.symm, upd_same⟩)) ?_
          exact dpa_append (dpa_append (dpa_take _ (dpa_same f5 hYB)) (.cons (dp_same f5 dmB) .nil)) (dpa_drop _ (dpa_same f5 hYB))
      clear dr6 hT6 hr6 hk6 hd6 f6 hD6 dr5 hrl
      clear row rv
      rintro σ H5 ⟨ms6, rv, row, w4, w5, w6, rfl, hl5, dr7, hD6, hd6, hk6, hr6, hT6⟩
      have hl9 : row.length ≤ 204 := by omega
      have dr6 := dp_same fz_le dr7
      have dk6 : Dp K H5 (.ref kn) (knD g b) := .tup (SqT.of hk6) (dpa_ii _ _)
      obtain ⟨a, ys, rfl, hL6, hY6⟩ := dp_lst dr6
      refine ⟨_, rfl, a, ys, rfl, .inl hL6, fun hd hhd => ?_⟩
      have q1 := same_new hhd (o := .lst ys)
      refine ⟨_, rfl, _, rfl, .ref kn, .ref a, g, b, row, rfl, dp_same q1 dk6, g1, b0, b1, dp_same q1 dr6, by omega, fun H8 s8 => ?_⟩
      have q18 := q1.trans s8
      have hh8 : H8 hd = some (.lst ys) := s8 _ _ upd_same
      have dh8 : Dp K H8 (.ref hd) (rowD row) := .lst (SqL.of hh8) (dpa_same q18 hY6)
      have dk8 := dp_same q18 dk6
      have dr8 := dp_same q18 dr6
      have dd8 : Dp K H8 (.ref rd) (knD ra rs) := .tup (SqT.of (q18 _ _ hr6)) (dpa_ii _ _)
      refine ⟨hT6.ext q18, fun f1 c1 H9 e1 hT9 l1 => ⟨hT9, fun f2 c2 H10 e2 hT10 l2 => ⟨hT10, fun f3 c3 H11 e3 hT11 l3 => ⟨by show 3 ≤ sizeLine; decide, fun wl hwl => ?_⟩⟩⟩⟩
      have e13 := (e1.trans e2).trans e3
      have qw := same_new hwl (o := .lst [.ref f1, .ref f2, .ref f3])
      have eW := e13.trans (LamX.ExtN.of qw)
      have lw1 := ((l1.extN e2).extN e3).ext qw
      have lw2 := (l2.extN e3).ext qw
      have lw3 := l3.ext qw
      have hTw := hT11.ext qw
      have dhw := dp_extN eW dh8
      have dkw := dp_extN eW dk8
      have drw := dp_extN eW dr8
      have ddw := dp_extN eW dd8
      have hdw := eW _ _ (q18 _ _ hd6) (fun _ z => by cases z)
      have hkw := eW _ _ (q18 _ _ hk6) (fun _ z => by cases z)
      have hrw := eW _ _ (q18 _ _ hr6) (fun _ z => by cases z)
      have hww := upd_same (H := H11) (a := wl) (o := .lst [.ref f1, .ref f2, .ref f3])
      revert lw1 lw2 lw3 hTw dhw dkw drw ddw hdw hkw hrw hww
      generalize upd H11 wl (.lst [.ref f1, .ref f2, .ref f3]) = H12
      intro lw1 lw2 lw3 hTw dhw dkw drw ddw hdw hkw hrw hww
      refine ⟨_, rfl, wl, rfl, ⟨_, SqL.of hww⟩, for_it (walk_list (xs := [.ref f1, .ref f2, .ref f3])) (fun j σ H' => (∃ (w9 : Option V), σ = [some (.ref sa), some (.ref d), some (.int (0 + (i : Int))), some (.ref a), w4, w5, w6, some (optV (badAt g b row)), some (.ref wl), w9, some (.ref hd), some (.ref kn), some (.ref rd)]) ∧ Same H12 H')
        ⟨⟨_, rfl⟩, Same.refl _⟩ (fun j σ H' _ e => e.2.seq (SqL.of hww)) ?_ ?_⟩
      · rintro j x σ H13 H14 hj ⟨⟨w9, rfl⟩, s13⟩ ⟨rfl, hx⟩
        have hj3 : j = 0 ∨ j = 1 ∨ j = 2 := by
          have : j < 3 := hj
          omega
        have dh13 := dp_same s13 dhw
        have dk13 := dp_same s13 dkw
        have dd13 := dp_same s13 ddw
        rcases hj3 with rfl | rfl | rfl
        · obtain rfl : x = V.ref f1 := (Option.some.inj hx).symm
          refine ⟨_, rfl, rfl, _, rfl, ?_⟩
          cases hb : badAt g b row with
          | none =>
            refine iteDT rfl ⟨f1, _, rfl, fun pins s I => lam_act (k := 5) I (LamX.lamS_by (sc := defScope (top 33)) (by decide +kernel)) (fun _ _ _ _ _ => rfl) (fun A outer s H E f c hr => pe_calN cx_shown hr (L2N.takes_of rfl rfl rfl rfl) (pa_cons (pv 11) (pa_cons (pv 10) pa_nil))), lw1.ext s13, ?_⟩
            refine ⟨_, rfl, _, rfl, .ref kn, .ref hd, g, b, row, rfl, dk13, g1, g6, b0, b1, dh13, by omega, fun i hi => (by rw [hb] at hi; cases hi), fun _ v H' s' => ⟨⟨_, by rw [← hb]; rfl⟩, s13.trans s'⟩⟩
          | some n =>
            refine iteDF (by simp [optV]) ⟨_, rfl, _, rfl, f1, Cw, "row", "at", .int (n : Nat), _, rfl, .inl ⟨_, rfl⟩, ew, fun pins s I => lam_act (k := 5) I (LamX.lamS_by (sc := defScope (top 33)) (by decide +kernel)) (fun _ _ _ _ _ => rfl) (fun A outer s H E f c hr => pe_calN cx_shown hr (L2N.takes_of rfl rfl rfl rfl) (pa_cons (pv 11) (pa_cons (pv 10) pa_nil))), lw1.ext s13, ?_⟩
            refine ⟨_, rfl, _, rfl, .ref kn, .ref hd, g, b, row, rfl, dk13, g1, g6, b0, b1, dh13, by omega, fun i hi dd H' s' hdd => ?_, fun hx => (by rw [hb] at hx; cases hx)⟩
            rw [hb] at hi
            cases hi
            exact ⟨rfl, dd, rfl, upd_same, fun H'' s'' => ⟨true, rfl, iteF ⟨⟨_, by rw [← hb]; rfl⟩, s13.trans ((s'.trans (same_new hdd)).trans s'')⟩⟩⟩
        · obtain rfl : x = V.ref f2 := (Option.some.inj hx).symm
          refine ⟨_, rfl, rfl, _, rfl, ?_⟩
          cases hb : badAt g b row with
          | none =>
            refine iteDT rfl ⟨f2, _, rfl, fun pins s I => lam_actD (k := 5) (y := "_law_a") I (lamD_by (N := ["_law_script", "_law_d", "_law_turn", "_law_row_here", "_law_change", "_law_at", "_law_odd", "_law_bad_here", "_law_works", "_law_work", "_law_handed", "_law_knob_here", "_law_reader_here"]) (sc := defScope (top 33)) (by decide +kernel)) rfl (fun _ _ _ _ _ _ _ => ⟨_, rfl, fun _ => rfl⟩) (fun A outer s H E f c hr => pe_calN cx_run hr (L2N.takes_of rfl rfl rfl rfl) (pa_cons (pv 11) (pa_cons (pv 12) (pa_cons (pv 10) pa_nil)))), lw2.ext s13, ?_⟩
            refine ⟨_, rfl, _, rfl, _, rfl, .ref kn, .ref rd, .ref hd, g, b, ra, rs, row, rfl, dk13, g1, g6, b0, b1, dd13, a1, a6, s1, s3, dh13, by omega, fun i hi => (by rw [hb] at hi; cases hi), fun _ v H' s' => ⟨⟨_, by rw [← hb]; rfl⟩, s13.trans s'⟩⟩
          | some n =>
            refine iteDF (by simp [optV]) ⟨_, rfl, _, rfl, f2, Cw, "row", "at", .int (n : Nat), _, rfl, .inl ⟨_, rfl⟩, ew, fun pins s I => lam_actD (k := 5) (y := "_law_a") I (lamD_by (N := ["_law_script", "_law_d", "_law_turn", "_law_row_here", "_law_change", "_law_at", "_law_odd", "_law_bad_here", "_law_works", "_law_work", "_law_handed", "_law_knob_here", "_law_reader_here"]) (sc := defScope (top 33)) (by decide +kernel)) rfl (fun _ _ _ _ _ _ _ => ⟨_, rfl, fun _ => rfl⟩) (fun A outer s H E f c hr => pe_calN cx_run hr (L2N.takes_of rfl rfl rfl rfl) (pa_cons (pv 11) (pa_cons (pv 12) (pa_cons (pv 10) pa_nil)))), lw2.ext s13, ?_⟩
            refine ⟨_, rfl, _, rfl, _, rfl, .ref kn, .ref rd, .ref hd, g, b, ra, rs, row, rfl, dk13, g1, g6, b0, b1, dd13, a1, a6, s1, s3, dh13, by omega, fun i hi dd H' s' hdd => ?_, fun hx => (by rw [hb] at hx; cases hx)⟩
            rw [hb] at hi
            cases hi
            exact ⟨rfl, dd, rfl, upd_same, fun H'' s'' => ⟨true, rfl, iteF ⟨⟨_, by rw [← hb]; rfl⟩, s13.trans ((s'.trans (same_new hdd)).trans s'')⟩⟩⟩
        · obtain rfl : x = V.ref f3 := (Option.some.inj hx).symm
          refine ⟨_, rfl, rfl, _, rfl, ?_⟩
          cases hb : badAt g b row with
          | none =>
            refine iteDT rfl ⟨f3, _, rfl, fun pins s I => lam_actD (k := 5) (y := "_law_b") I (lamD_by (N := ["_law_script", "_law_d", "_law_turn", "_law_row_here", "_law_change", "_law_at", "_law_odd", "_law_bad_here", "_law_works", "_law_work", "_law_handed", "_law_knob_here", "_law_reader_here"]) (sc := defScope (top 33)) (by decide +kernel)) rfl (fun _ _ _ _ _ _ _ => ⟨_, rfl, fun _ => rfl⟩) (fun A outer s H E f c hr => pe_calN cx_written hr (L2N.takes_of rfl rfl rfl rfl) (pa_cons (pv 11) (pa_cons (pv 10) pa_nil))), lw3.ext s13, ?_⟩
            refine ⟨_, rfl, _, rfl, .ref kn, .ref hd, g, b, row, rfl, dk13, g1, g6, b0, b1, dh13, by omega, fun i hi => (by rw [hb] at hi; cases hi), fun _ v H' s' => ⟨⟨_, by rw [← hb]; rfl⟩, s13.trans s'⟩⟩
          | some n =>
            refine iteDF (by simp [optV]) ⟨_, rfl, _, rfl, f3, Cw, "row", "at", .int (n : Nat), _, rfl, .inl ⟨_, rfl⟩, ew, fun pins s I => lam_actD (k := 5) (y := "_law_b") I (lamD_by (N := ["_law_script", "_law_d", "_law_turn", "_law_row_here", "_law_change", "_law_at", "_law_odd", "_law_bad_here", "_law_works", "_law_work", "_law_handed", "_law_knob_here", "_law_reader_here"]) (sc := defScope (top 33)) (by decide +kernel)) rfl (fun _ _ _ _ _ _ _ => ⟨_, rfl, fun _ => rfl⟩) (fun A outer s H E f c hr => pe_calN cx_written hr (L2N.takes_of rfl rfl rfl rfl) (pa_cons (pv 11) (pa_cons (pv 10) pa_nil))), lw3.ext s13, ?_⟩
            refine ⟨_, rfl, _, rfl, .ref kn, .ref hd, g, b, row, rfl, dk13, g1, g6, b0, b1, dh13, by omega, fun i hi dd H' s' hdd => ?_, fun hx => (by rw [hb] at hx; cases hx)⟩
            rw [hb] at hi
            cases hi
            exact ⟨rfl, dd, rfl, upd_same, fun H'' s'' => ⟨true, rfl, iteF ⟨⟨_, by rw [← hb]; rfl⟩, s13.trans ((s'.trans (same_new hdd)).trans s'')⟩⟩⟩
      · rintro σ H13 ⟨⟨w9, rfl⟩, s13⟩
        refine ⟨_, rfl, _, rfl, rowD row, rowD row, dp_same s13 dhw, dp_same s13 drw, shaped_nest (nest_row (by omega)) (by decide), shaped_nest (nest_row (by omega)) (by decide), _, rfl, ?_⟩
        rw [eqv_nest (nest_row (show row.length ≤ 1000000 by omega))]
        exact iteF ⟨ms6, _, _, _, _, _, _, _, _, _, rfl, hD6, s13 _ _ hdw, s13 _ _ hkw, s13 _ _ hrw, hTw.ext s13⟩
    · rintro σ H4 _
      exact k H4
end
theorem all_mk {l : PySem.W.OpenLaw} {w : World} {K : PySem.W.Frag} {h : Heap} {mg : Str → Option Value} {fa : Addr} (X : K.In h) (G : h.Ns mainGlobals mg) (hfa : mg "law" = some (.ref fa))
    {cL tP : Addr} {eL : Value} {dL : Option Addr} {vL : Array Value} {yL : Array (Option Value)}
    {f1 : Addr} {od1 an1 : Option Addr} {sl1 : Array (Option Value)} {oc1 kV1 dc1 pm1 cd1 ct1 : Value}
    {f2 : Addr} {od2 an2 : Option Addr} {sl2 : Array (Option Value)} {oc2 kV2 dc2 pm2 cd2 ct2 : Value}
    {f3 : Addr} {od3 an3 : Option Addr} {sl3 : Array (Option Value)} {oc3 kV3 dc3 pm3 cd3 ct3 : Value}
    {f4 : Addr} {od4 an4 : Option Addr} {sl4 : Array (Option Value)} {oc4 kV4 dc4 pm4 cd4 ct4 : Value}
    {f5 : Addr} {od5 an5 : Option Addr} {sl5 : Array (Option Value)} {oc5 kV5 dc5 pm5 cd5 ct5 : Value}
    {f6 : Addr} {od6 an6 : Option Addr} {sl6 : Array (Option Value)} {oc6 kV6 dc6 pm6 cd6 ct6 : Value}
    {f7 : Addr} {od7 an7 : Option Addr} {sl7 : Array (Option Value)} {oc7 kV7 dc7 pm7 cd7 ct7 : Value}
    {f8 : Addr} {od8 an8 : Option Addr} {sl8 : Array (Option Value)} {oc8 kV8 dc8 pm8 cd8 ct8 : Value}
    {f9 : Addr} {od9 an9 : Option Addr} {sl9 : Array (Option Value)} {oc9 kV9 dc9 pm9 cd9 ct9 : Value}
    {f10 : Addr} {od10 an10 : Option Addr} {sl10 : Array (Option Value)} {oc10 kV10 dc10 pm10 cd10 ct10 : Value}
    {f11 : Addr} {od11 an11 : Option Addr} {sl11 : Array (Option Value)} {oc11 kV11 dc11 pm11 cd11 ct11 : Value}
    {f12 : Addr} {od12 an12 : Option Addr} {sl12 : Array (Option Value)} {oc12 kV12 dc12 pm12 cd12 ct12 : Value}
    {f13 : Addr} {od13 an13 : Option Addr} {sl13 : Array (Option Value)} {oc13 kV13 dc13 pm13 cd13 ct13 : Value}
    {f14 : Addr} {od14 an14 : Option Addr} {sl14 : Array (Option Value)} {oc14 kV14 dc14 pm14 cd14 ct14 : Value}
    {f15 : Addr} {od15 an15 : Option Addr} {sl15 : Array (Option Value)} {oc15 kV15 dc15 pm15 ct15 : Value}
    {f16 : Addr} {od16 an16 : Option Addr} {sl16 : Array (Option Value)} {oc16 kV16 dc16 pm16 cd16 ct16 : Value}
    {tg_MISSED : Tok}
    {tg_MOST_APART : Tok}
    {tg_MOST_GAP : Tok}
    {tg_MOST_ROW : Tok}
    {tg_MOST_SAME : Tok}
    {aP p0 p1 p2 p3 : Addr}
    {nP0 : Nat} {slP0 : Array (Option Value)}
    {odP1 : Option Addr} {nP1 : Nat} {slP1 : Array (Option Value)}
    {u00 u01 : Tok}
    {odP2 : Option Addr} {nP2 : Nat} {slP2 : Array (Option Value)}
    {u10 u11 : Tok}
    {odP3 : Option Addr} {nP3 : Nat} {slP3 : Array (Option Value)}
    {u20 u21 : Tok}
    {odP4 : Option Addr} {nP4 : Nat} {slP4 : Array (Option Value)}
    {u30 u31 : Tok}
    {aS : Addr} {nS : Nat}
    {sq0 : Addr} {st0 su0 : Tok} {so0 : Option Addr} {sn0 : Nat} {sgl0 : Array (Option Value)}
    {sq1 : Addr} {st1 su1 : Tok} {so1 : Option Addr} {sn1 : Nat} {sgl1 : Array (Option Value)}
    {sq2 : Addr} {st2 su2 : Tok} {so2 : Option Addr} {sn2 : Nat} {sgl2 : Array (Option Value)}
    {sq3 : Addr} {st3 su3 : Tok} {so3 : Option Addr} {sn3 : Nat} {sgl3 : Array (Option Value)}
    {sq4 : Addr} {st4 su4 : Tok} {so4 : Option Addr} {sn4 : Nat} {sgl4 : Array (Option Value)}
    {sq5 : Addr} {st5 su5 : Tok} {so5 : Option Addr} {sn5 : Nat} {sgl5 : Array (Option Value)}
    {C_Counter : Addr}
    {fCounterxinitx : Addr} {odCounterxinitx anCounterxinitx : Option Addr} {slCounterxinitx : Array (Option Value)} {ocCounterxinitx kVCounterxinitx dcCounterxinitx pmCounterxinitx cdCounterxinitx ctCounterxinitx : Value}
    {fCounterlook : Addr} {odCounterlook anCounterlook : Option Addr} {slCounterlook : Array (Option Value)} {ocCounterlook kVCounterlook dcCounterlook pmCounterlook cdCounterlook ctCounterlook : Value}
    {fCountercount : Addr} {odCountercount anCountercount : Option Addr} {slCountercount : Array (Option Value)} {ocCountercount kVCountercount dcCountercount pmCountercount cdCountercount ctCountercount : Value}
    {fCountermissed : Addr} {odCountermissed anCountermissed : Option Addr} {slCountermissed : Array (Option Value)} {ocCountermissed kVCountermissed dcCountermissed pmCountermissed cdCountermissed ctCountermissed : Value}
    {C_KnobError : Addr}
    {C_BadKnob : Addr}
    {C_BadReader : Addr}
    {C_BadRow : Addr}
    {C_BadText : Addr}
    {nm_BadRow q_BadRow : Str} {N_BadRow : Addr} {bs_BadRow bm_BadRow su_BadRow : List Value} {sn_BadRow : List Str} {ab_BadRow : Bool} {co_BadRow : Option Bool} {dd_BadRow : Option Addr} {k0_BadRow k1_BadRow k2_BadRow k3_BadRow k5_BadRow : Option Value}
    {fEBadRow : Addr} {odEBadRow anEBadRow : Option Addr} {slEBadRow : Array (Option Value)} {ocEBadRow kVEBadRow dcEBadRow pmEBadRow cdEBadRow ctEBadRow : Value}
    (a1 : PySem.W.nsIn K mainGlobals "_law_dice" = some (some (.ref f1)))
    (l1 : K.lookup f1 = some ⟨oc1, od1, .func (PySem.W.fnOf "_law_dice" "_law_dice" (defArgs (top 25)) (defBody (top 25)) (defScope (top 25)) .none kV1 dc1 pm1 an1 cd1 ct1), sl1⟩)
    (c1 : PySem.W.codeIn K cd1 "_law_dice" = true)
    (k1 : PySem.W.keepIn K (.ref f1) = true)
    (a2 : PySem.W.nsIn K mainGlobals "_law_off" = some (some (.ref f2)))
    (l2 : K.lookup f2 = some ⟨oc2, od2, .func (PySem.W.fnOf "_law_off" "_law_off" (defArgs (top 26)) (defBody (top 26)) (defScope (top 26)) .none kV2 dc2 pm2 an2 cd2 ct2), sl2⟩)
    (c2 : PySem.W.codeIn K cd2 "_law_off" = true)
    (k2 : PySem.W.keepIn K (.ref f2) = true)
    (a3 : PySem.W.nsIn K mainGlobals "_law_knob" = some (some (.ref f3)))
    (l3 : K.lookup f3 = some ⟨oc3, od3, .func (PySem.W.fnOf "_law_knob" "_law_knob" (defArgs (top 29)) (defBody (top 29)) (defScope (top 29)) .none kV3 dc3 pm3 an3 cd3 ct3), sl3⟩)
    (c3 : PySem.W.codeIn K cd3 "_law_knob" = true)
    (k3 : PySem.W.keepIn K (.ref f3) = true)
    (a4 : PySem.W.nsIn K mainGlobals "_law_reader" = some (some (.ref f4)))
    (l4 : K.lookup f4 = some ⟨oc4, od4, .func (PySem.W.fnOf "_law_reader" "_law_reader" (defArgs (top 30)) (defBody (top 30)) (defScope (top 30)) .none kV4 dc4 pm4 an4 cd4 ct4), sl4⟩)
    (c4 : PySem.W.codeIn K cd4 "_law_reader" = true)
    (k4 : PySem.W.keepIn K (.ref f4) = true)
    (a5 : PySem.W.nsIn K mainGlobals "_law_row" = some (some (.ref f5)))
    (l5 : K.lookup f5 = some ⟨oc5, od5, .func (PySem.W.fnOf "_law_row" "_law_row" (defArgs (top 31)) (defBody (top 31)) (defScope (top 31)) .none kV5 dc5 pm5 an5 cd5 ct5), sl5⟩)
    (c5 : PySem.W.codeIn K cd5 "_law_row" = true)
    (k5 : PySem.W.keepIn K (.ref f5) = true)
    (a6 : PySem.W.nsIn K mainGlobals "_law_bad" = some (some (.ref f6)))
    (l6 : K.lookup f6 = some ⟨oc6, od6, .func (PySem.W.fnOf "_law_bad" "_law_bad" (defArgs (top 32)) (defBody (top 32)) (defScope (top 32)) .none kV6 dc6 pm6 an6 cd6 ct6), sl6⟩)
    (c6 : PySem.W.codeIn K cd6 "_law_bad" = true)
    (k6 : PySem.W.keepIn K (.ref f6) = true)
    (a7 : PySem.W.nsIn K mainGlobals "need_knob" = some (some (.ref f7)))
    (l7 : K.lookup f7 = some ⟨oc7, od7, .func (PySem.W.fnOf "need_knob" "need_knob" (defArgs (top 12)) (defBody (top 12)) (defScope (top 12)) .none kV7 dc7 pm7 an7 cd7 ct7), sl7⟩)
    (c7 : PySem.W.codeIn K cd7 "need_knob" = true)
    (k7 : PySem.W.keepIn K (.ref f7) = true)
    (a8 : PySem.W.nsIn K mainGlobals "need_reader" = some (some (.ref f8)))
    (l8 : K.lookup f8 = some ⟨oc8, od8, .func (PySem.W.fnOf "need_reader" "need_reader" (defArgs (top 13)) (defBody (top 13)) (defScope (top 13)) .none kV8 dc8 pm8 an8 cd8 ct8), sl8⟩)
    (c8 : PySem.W.codeIn K cd8 "need_reader" = true)
    (k8 : PySem.W.keepIn K (.ref f8) = true)
    (a9 : PySem.W.nsIn K mainGlobals "need_row" = some (some (.ref f9)))
    (l9 : K.lookup f9 = some ⟨oc9, od9, .func (PySem.W.fnOf "need_row" "need_row" (defArgs (top 14)) (defBody (top 14)) (defScope (top 14)) .none kV9 dc9 pm9 an9 cd9 ct9), sl9⟩)
    (c9 : PySem.W.codeIn K cd9 "need_row" = true)
    (k9 : PySem.W.keepIn K (.ref f9) = true)
    (a10 : PySem.W.nsIn K mainGlobals "positions" = some (some (.ref f10)))
    (l10 : K.lookup f10 = some ⟨oc10, od10, .func (PySem.W.fnOf "positions" "positions" (defArgs (top 15)) (defBody (top 15)) (defScope (top 15)) .none kV10 dc10 pm10 an10 cd10 ct10), sl10⟩)
    (c10 : PySem.W.codeIn K cd10 "positions" = true)
    (k10 : PySem.W.keepIn K (.ref f10) = true)
    (a11 : PySem.W.nsIn K mainGlobals "shown" = some (some (.ref f11)))
    (l11 : K.lookup f11 = some ⟨oc11, od11, .func (PySem.W.fnOf "shown" "shown" (defArgs (top 16)) (defBody (top 16)) (defScope (top 16)) .none kV11 dc11 pm11 an11 cd11 ct11), sl11⟩)
    (c11 : PySem.W.codeIn K cd11 "shown" = true)
    (k11 : PySem.W.keepIn K (.ref f11) = true)
    (a12 : PySem.W.nsIn K mainGlobals "run" = some (some (.ref f12)))
    (l12 : K.lookup f12 = some ⟨oc12, od12, .func (PySem.W.fnOf "run" "run" (defArgs (top 20)) (defBody (top 20)) (defScope (top 20)) .none kV12 dc12 pm12 an12 cd12 ct12), sl12⟩)
    (c12 : PySem.W.codeIn K cd12 "run" = true)
    (k12 : PySem.W.keepIn K (.ref f12) = true)
    (a13 : PySem.W.nsIn K mainGlobals "written" = some (some (.ref f13)))
    (l13 : K.lookup f13 = some ⟨oc13, od13, .func (PySem.W.fnOf "written" "written" (defArgs (top 23)) (defBody (top 23)) (defScope (top 23)) .none kV13 dc13 pm13 an13 cd13 ct13), sl13⟩)
    (c13 : PySem.W.codeIn K cd13 "written" = true)
    (k13 : PySem.W.keepIn K (.ref f13) = true)
    (a14 : PySem.W.nsIn K mainGlobals "_law_alike" = some (some (.ref f14)))
    (l14 : K.lookup f14 = some ⟨oc14, od14, .func (PySem.W.fnOf "_law_alike" "_law_alike" (defArgs (top 27)) (defBody (top 27)) (defScope (top 27)) .none kV14 dc14 pm14 an14 cd14 ct14), sl14⟩)
    (c14 : PySem.W.codeIn K cd14 "_law_alike" = true)
    (k14 : PySem.W.keepIn K (.ref f14) = true)
    (a15 : PySem.W.nsIn K mainGlobals "law" = some (some (.ref f15)))
    (l15 : K.lookup f15 = some ⟨oc15, od15, .func (PySem.W.fnOf "law" "law" (defArgs (top 33)) (defBody (top 33)) (defScope (top 33)) .none kV15 dc15 pm15 an15 (.ref cL) ct15), sl15⟩)
    (c15 : PySem.W.codeIn K (.ref cL) "law" = true)
    (k15 : PySem.W.keepIn K (.ref f15) = true)
    (a16 : PySem.W.nsIn K mainGlobals "_law_refused" = some (some (.ref f16)))
    (l16 : K.lookup f16 = some ⟨oc16, od16, .func (PySem.W.fnOf "_law_refused" "_law_refused" (defArgs (top 28)) (defBody (top 28)) (defScope (top 28)) .none kV16 dc16 pm16 an16 cd16 ct16), sl16⟩)
    (c16 : PySem.W.codeIn K cd16 "_law_refused" = true)
    (k16 : PySem.W.keepIn K (.ref f16) = true)
    (zg_MISSED : PySem.W.nsIn K mainGlobals "MISSED" = some (some (.int 2 tg_MISSED)))
    (zg_MOST_APART : PySem.W.nsIn K mainGlobals "MOST_APART" = some (some (.int 6 tg_MOST_APART)))
    (zg_MOST_GAP : PySem.W.nsIn K mainGlobals "MOST_GAP" = some (some (.int 6 tg_MOST_GAP)))
    (zg_MOST_ROW : PySem.W.nsIn K mainGlobals "MOST_ROW" = some (some (.int 200 tg_MOST_ROW)))
    (zg_MOST_SAME : PySem.W.nsIn K mainGlobals "MOST_SAME" = some (some (.int 3 tg_MOST_SAME)))
    (zP : PySem.W.nsIn K mainGlobals "PAIRS" = some (some (.ref aP)))
    (zP0 : K.lookup aP = some ⟨.type "tuple", none, .seq #[.ref p0, .ref p1, .ref p2, .ref p3] nP0, slP0⟩)
    (zP1 : K.lookup p0 = some ⟨.type "tuple", odP1, .seq #[.int 0 u00, .int 0 u01] nP1, slP1⟩)
    (zP2 : K.lookup p1 = some ⟨.type "tuple", odP2, .seq #[.int 0 u10, .int 1 u11] nP2, slP2⟩)
    (zP3 : K.lookup p2 = some ⟨.type "tuple", odP3, .seq #[.int 1 u20, .int 1 u21] nP3, slP3⟩)
    (zP4 : K.lookup p3 = some ⟨.type "tuple", odP4, .seq #[.int 1 u30, .int 0 u31] nP4, slP4⟩)
    (zn_ValueError : PySem.W.nsIn K mainGlobals "ValueError" = some none)
    (zn_abs : PySem.W.nsIn K mainGlobals "abs" = some none)
    (zn_all : PySem.W.nsIn K mainGlobals "all" = some none)
    (zn_bool : PySem.W.nsIn K mainGlobals "bool" = some none)
    (zn_enumerate : PySem.W.nsIn K mainGlobals "enumerate" = some none)
    (zn_int : PySem.W.nsIn K mainGlobals "int" = some none)
    (zn_isinstance : PySem.W.nsIn K mainGlobals "isinstance" = some none)
    (zn_len : PySem.W.nsIn K mainGlobals "len" = some none)
    (zn_list : PySem.W.nsIn K mainGlobals "list" = some none)
    (zn_min : PySem.W.nsIn K mainGlobals "min" = some none)
    (zn_range : PySem.W.nsIn K mainGlobals "range" = some none)
    (zn_str : PySem.W.nsIn K mainGlobals "str" = some none)
    (zn_tuple : PySem.W.nsIn K mainGlobals "tuple" = some none)
    (zS : PySem.W.nsIn K mainGlobals "SIGNS" = some (some (.ref aS)))
    (zS0 : K.lookup aS = some ⟨.type "dict", none, .dict #[⟨PyData.keyHash w.params ".", .str "." st0, .ref sq0⟩, ⟨PyData.keyHash w.params "+", .str "+" st1, .ref sq1⟩, ⟨PyData.keyHash w.params "-", .str "-" st2, .ref sq2⟩, ⟨PyData.keyHash w.params ",", .str "," st3, .ref sq3⟩, ⟨PyData.keyHash w.params "p", .str "p" st4, .ref sq4⟩, ⟨PyData.keyHash w.params "m", .str "m" st5, .ref sq5⟩] nS, #[]⟩)
    (zSl : (aS == sysModules) = false)
    (zS1 : K.lookup sq0 = some ⟨.type "tuple", so0, .seq #[.int (0) su0, .bool false] sn0, sgl0⟩)
    (zS2 : K.lookup sq1 = some ⟨.type "tuple", so1, .seq #[.int (1) su1, .bool false] sn1, sgl1⟩)
    (zS3 : K.lookup sq2 = some ⟨.type "tuple", so2, .seq #[.int (-1) su2, .bool false] sn2, sgl2⟩)
    (zS4 : K.lookup sq3 = some ⟨.type "tuple", so3, .seq #[.int (0) su3, .bool true] sn3, sgl3⟩)
    (zS5 : K.lookup sq4 = some ⟨.type "tuple", so4, .seq #[.int (1) su4, .bool true] sn4, sgl4⟩)
    (zS6 : K.lookup sq5 = some ⟨.type "tuple", so5, .seq #[.int (-1) su5, .bool true] sn5, sgl5⟩)
    (zCCounter : PySem.W.nsIn K mainGlobals "Counter" = some (some (.ref C_Counter)))
    (pgCounter : PySem.W.plainGet K C_Counter Str.empty = true)
    (hdCounter : PySem.W.hasDictIn K C_Counter = true)
    (poCounter : PySem.W.plainOver K C_Counter = true)
    (saCounter : PySem.W.findIn K (.ref C_Counter) "__setattr__" = some (some (.builtin "object.__setattr__")))
    (mkCounter : PySem.W.makesIn K C_Counter = true)
    (kcCounter : PySem.W.keepIn K (.ref C_Counter) = true)
    (na_Counter_same : PySem.W.findIn K (.ref C_Counter) "same" = some none)
    (na_Counter_kept : PySem.W.findIn K (.ref C_Counter) "kept" = some none)
    (na_Counter_met : PySem.W.findIn K (.ref C_Counter) "met" = some none)
    (na_Counter_many : PySem.W.findIn K (.ref C_Counter) "many" = some none)
    (na_Counter_total : PySem.W.findIn K (.ref C_Counter) "total" = some none)
    (na_Counter_lost : PySem.W.findIn K (.ref C_Counter) "lost" = some none)
    (aCounterxinitx : PySem.W.findIn K (.ref C_Counter) "__init__" = some (some (.ref fCounterxinitx)))
    (lCounterxinitx : K.lookup fCounterxinitx = some ⟨ocCounterxinitx, odCounterxinitx, .func (PySem.W.fnOf "__init__" "Counter.__init__" (defArgs (inClass (top 19) 0)) (defBody (inClass (top 19) 0)) (defScope (inClass (top 19) 0)) .none kVCounterxinitx dcCounterxinitx pmCounterxinitx anCounterxinitx cdCounterxinitx ctCounterxinitx), slCounterxinitx⟩)
    (cCounterxinitx : PySem.W.codeIn K cdCounterxinitx "Counter.__init__" = true)
    (kCounterxinitx : PySem.W.keepIn K (.ref fCounterxinitx) = true)
    (iCounterxinitx : PySem.W.isFn K (.ref fCounterxinitx) = true)
    (aCounterlook : PySem.W.findIn K (.ref C_Counter) "look" = some (some (.ref fCounterlook)))
    (lCounterlook : K.lookup fCounterlook = some ⟨ocCounterlook, odCounterlook, .func (PySem.W.fnOf "look" "Counter.look" (defArgs (inClass (top 19) 1)) (defBody (inClass (top 19) 1)) (defScope (inClass (top 19) 1)) .none kVCounterlook dcCounterlook pmCounterlook anCounterlook cdCounterlook ctCounterlook), slCounterlook⟩)
    (cCounterlook : PySem.W.codeIn K cdCounterlook "Counter.look" = true)
    (kCounterlook : PySem.W.keepIn K (.ref fCounterlook) = true)
    (iCounterlook : PySem.W.isFn K (.ref fCounterlook) = true)
    (aCountercount : PySem.W.findIn K (.ref C_Counter) "count" = some (some (.ref fCountercount)))
    (lCountercount : K.lookup fCountercount = some ⟨ocCountercount, odCountercount, .func (PySem.W.fnOf "count" "Counter.count" (defArgs (inClass (top 19) 2)) (defBody (inClass (top 19) 2)) (defScope (inClass (top 19) 2)) .none kVCountercount dcCountercount pmCountercount anCountercount cdCountercount ctCountercount), slCountercount⟩)
    (cCountercount : PySem.W.codeIn K cdCountercount "Counter.count" = true)
    (kCountercount : PySem.W.keepIn K (.ref fCountercount) = true)
    (iCountercount : PySem.W.isFn K (.ref fCountercount) = true)
    (aCountermissed : PySem.W.findIn K (.ref C_Counter) "missed" = some (some (.ref fCountermissed)))
    (lCountermissed : K.lookup fCountermissed = some ⟨ocCountermissed, odCountermissed, .func (PySem.W.fnOf "missed" "Counter.missed" (defArgs (inClass (top 19) 3)) (defBody (inClass (top 19) 3)) (defScope (inClass (top 19) 3)) .none kVCountermissed dcCountermissed pmCountermissed anCountermissed cdCountermissed ctCountermissed), slCountermissed⟩)
    (cCountermissed : PySem.W.codeIn K cdCountermissed "Counter.missed" = true)
    (kCountermissed : PySem.W.keepIn K (.ref fCountermissed) = true)
    (iCountermissed : PySem.W.isFn K (.ref fCountermissed) = true)
    (lcL : K.lookup cL = some ⟨eL, dL, .fields vL, yL⟩)
    (zPL : vL[11]? = some (.ref tP))
    (hdL : PySem.W.codeHdIn K cL tP = true)
    (nPL : K.lookup tP = none)
    (zE : PySem.W.nsIn K mainGlobals "KnobError" = some (some (.ref C_KnobError)))
    (bga : PySem.W.specialIn K (.ref C_KnobError) "__getattribute__" = some (some (.builtin "type.__getattribute__")))
    (brd : PySem.W.readsIn K C_KnobError (.type "type") = true)
    (bini : PySem.W.findCls K (.ref C_KnobError) (.type "type") "__init__" = some (.val (.builtin "ValueError.__init__")))
    (hnO : PySem.W.specialIn K (.builtin "object.__class__") "__get__" = some (some (.builtin "getset_descriptor.__get__")))
    (htO : PySem.W.takesIn K (.builtin "object.__class__") = some true)
    (zEBadKnob : PySem.W.nsIn K mainGlobals "BadKnob" = some (some (.ref C_BadKnob)))
    (zEBadReader : PySem.W.nsIn K mainGlobals "BadReader" = some (some (.ref C_BadReader)))
    (zEBadRow : PySem.W.nsIn K mainGlobals "BadRow" = some (some (.ref C_BadRow)))
    (zEBadText : PySem.W.nsIn K mainGlobals "BadText" = some (some (.ref C_BadText)))
    (olBadRow : K.lookup C_BadRow = some (PySem.excClassObj nm_BadRow q_BadRow C_BadRow N_BadRow bs_BadRow bm_BadRow true sn_BadRow su_BadRow ab_BadRow co_BadRow dd_BadRow k0_BadRow k1_BadRow k2_BadRow k3_BadRow k5_BadRow "ValueError.__new__"))
    (ovBadRow : PySem.HandSPX.refsVE bm_BadRow = true)
    (esaBadRow : PySem.W.findIn K (.ref C_BadRow) "__setattr__" = some (some (.builtin "object.__setattr__")))
    (eexBadRow : PySem.W.subIn K (.ref C_BadRow) (.type "BaseException") = some true)
    (etyBadRow : PySem.W.typeIn K (.ref C_BadRow) = some (.type "type"))
    (ekcBadRow : PySem.W.keepIn K (.ref C_BadRow) = true)
    (ehdBadRow : PySem.W.hasDictIn K C_BadRow = true)
    (ehgBadRow : PySem.W.findIn K (.ref C_BadRow) "__getattribute__" = some (some (.builtin "BaseException.__getattribute__")))
    (ehkBadRow : PySem.W.findIn K (.ref C_BadRow) "__getattr__" = some none)
    (ehaBadRow : PySem.W.findIn K (.ref C_BadRow) "__class__" = some (some (.builtin "object.__class__")))
    (ehmBadRow : PySem.W.mroIn K C_BadRow (.type "object") = some true)
    (enwBadRow : PySem.W.findIn K (.ref C_BadRow) "why" = some none)
    (enaBadRow : PySem.W.findIn K (.ref C_BadRow) "at" = some none)
    (aEBadRow : PySem.W.findIn K (.ref C_BadRow) "__init__" = some (some (.ref fEBadRow)))
    (lEBadRow : K.lookup fEBadRow = some ⟨ocEBadRow, odEBadRow, .func (PySem.W.fnOf "__init__" "BadRow.__init__" (defArgs (inClass (top 4) 0)) (defBody (inClass (top 4) 0)) (defScope (inClass (top 4) 0)) .none kVEBadRow dcEBadRow pmEBadRow anEBadRow cdEBadRow ctEBadRow), slEBadRow⟩)
    (cEBadRow : PySem.W.codeIn K cdEBadRow "BadRow.__init__" = true)
    (kEBadRow : PySem.W.keepIn K (.ref fEBadRow) = true)
    (tiBadRow : PySem.W.typeIn K (.ref fEBadRow) = some (.type "function"))
    (xmBadRow : PySem.W.exmOne K (.ref C_BadRow) (.ref C_KnobError) = some true)
    (ki0BadRow : PySem.W.kitOne K (.ref C_BadRow) (.ref C_BadKnob) = some false)
    (ki1BadRow : PySem.W.kitOne K (.ref C_BadRow) (.ref C_BadReader) = some false)
    (ki2BadRow : PySem.W.kitOne K (.ref C_BadRow) (.ref C_BadRow) = some true)
    (ki3BadRow : PySem.W.kitOne K (.ref C_BadRow) (.ref C_BadText) = some false)
    (kvBadRow : PySem.W.kitOne K (.ref C_BadRow) (.type "ValueError") = some true)
    (own : h.get? tP = some { cls := .none, data := .fields #[] }) : LamX.LawAtS l w K CX0 10 63 "_law_script" mg fa h := by
  have e := hfa.symm.trans (PySem.W.mg_of X G a15)
  cases e
  have F1 := fun_mk (st := top 25) l1 c1 k1
  have b1 := F1.binds (ps := ["_law_script", "_law_k"]) fun _ _ _ _ _ _ us hl => match us, hl with | [_, _], _ => rfl
  have F2 := fun_mk (st := top 26) l2 c2 k2
  have b2 := F2.binds (ps := ["_law_d", "_law_most"]) fun _ _ _ _ _ _ us hl => match us, hl with | [_, _], _ => rfl
  have F3 := fun_mk (st := top 29) l3 c3 k3
  have b3 := F3.binds (ps := ["_law_d"]) fun _ _ _ _ _ _ us hl => match us, hl with | [_], _ => rfl
  have F4 := fun_mk (st := top 30) l4 c4 k4
  have b4 := F4.binds (ps := ["_law_d"]) fun _ _ _ _ _ _ us hl => match us, hl with | [_], _ => rfl
  have F5 := fun_mk (st := top 31) l5 c5 k5
  have b5 := F5.binds (ps := ["_law_d", "_law_knob_here", "_law_many"]) fun _ _ _ _ _ _ us hl => match us, hl with | [_, _, _], _ => rfl
  have F6 := fun_mk (st := top 32) l6 c6 k6
  have b6 := F6.binds (ps := ["_law_knob_here", "_law_row_here"]) fun _ _ _ _ _ _ us hl => match us, hl with | [_, _], _ => rfl
  have F7 := fun_mk (st := top 12) l7 c7 k7
  have b7 := F7.binds (ps := ["knob"]) fun _ _ _ _ _ _ us hl => match us, hl with | [_], _ => rfl
  have F8 := fun_mk (st := top 13) l8 c8 k8
  have b8 := F8.binds (ps := ["reader"]) fun _ _ _ _ _ _ us hl => match us, hl with | [_], _ => rfl
  have F9 := fun_mk (st := top 14) l9 c9 k9
  have b9 := F9.binds (ps := ["knob", "row"]) fun _ _ _ _ _ _ us hl => match us, hl with | [_, _], _ => rfl
  have F10 := fun_mk (st := top 15) l10 c10 k10
  have b10 := F10.binds (ps := ["row"]) fun _ _ _ _ _ _ us hl => match us, hl with | [_], _ => rfl
  have F11 := fun_mk (st := top 16) l11 c11 k11
  have b11 := F11.binds (ps := ["knob", "row"]) fun _ _ _ _ _ _ us hl => match us, hl with | [_, _], _ => rfl
  have F12 := fun_mk (st := top 20) l12 c12 k12
  have b12 := F12.binds (ps := ["knob", "reader", "row"]) fun _ _ _ _ _ _ us hl => match us, hl with | [_, _, _], _ => rfl
  have F13 := fun_mk (st := top 23) l13 c13 k13
  have b13 := F13.binds (ps := ["knob", "row"]) fun _ _ _ _ _ _ us hl => match us, hl with | [_, _], _ => rfl
  have F14 := fun_mk (st := top 27) l14 c14 k14
  have b14 := F14.binds (ps := ["_law_found", "_law_due"]) fun _ _ _ _ _ _ us hl => match us, hl with | [_, _], _ => rfl
  have F15 := fun_mk (st := top 33) l15 c15 k15
  have b15 := F15.binds (ps := ["_law_script"]) fun _ _ _ _ _ _ us hl => match us, hl with | [_], _ => rfl
  have F16 := fun_mk (st := top 28) l16 c16 k16
  have b16 := F16.binds (ps := ["_law_work", "_law_word", "_law_value"]) fun _ _ _ _ _ _ us hl => match us, hl with | [_, _, _], _ => rfl
  have g_MISSED := PySem.W.mg_of X G zg_MISSED
  have g_MOST_APART := PySem.W.mg_of X G zg_MOST_APART
  have g_MOST_GAP := PySem.W.mg_of X G zg_MOST_GAP
  have g_MOST_ROW := PySem.W.mg_of X G zg_MOST_ROW
  have g_MOST_SAME := PySem.W.mg_of X G zg_MOST_SAME
  have g_PAIRS := PySem.W.mg_of X G zP
  have pk : PairsK K aP p0 p1 p2 p3 := ⟨⟨_, zP0, rfl, rfl⟩, knT_of zP0 rfl (by show 4 ≤ sizeLine; decide) (.cons rfl (.cons rfl (.cons rfl (.cons rfl .nil)))), knT_of zP1 rfl (by show 2 ≤ sizeLine; decide) (.cons ⟨_, rfl⟩ (.cons ⟨_, rfl⟩ .nil)), knT_of zP2 rfl (by show 2 ≤ sizeLine; decide) (.cons ⟨_, rfl⟩ (.cons ⟨_, rfl⟩ .nil)), knT_of zP3 rfl (by show 2 ≤ sizeLine; decide) (.cons ⟨_, rfl⟩ (.cons ⟨_, rfl⟩ .nil)), knT_of zP4 rfl (by show 2 ≤ sizeLine; decide) (.cons ⟨_, rfl⟩ (.cons ⟨_, rfl⟩ .nil))⟩
  have n_ValueError := PySem.W.mg_none_of X G zn_ValueError
  have n_abs := PySem.W.mg_none_of X G zn_abs
  have n_all := PySem.W.mg_none_of X G zn_all
  have n_bool := PySem.W.mg_none_of X G zn_bool
  have n_enumerate := PySem.W.mg_none_of X G zn_enumerate
  have n_int := PySem.W.mg_none_of X G zn_int
  have n_isinstance := PySem.W.mg_none_of X G zn_isinstance
  have n_len := PySem.W.mg_none_of X G zn_len
  have n_list := PySem.W.mg_none_of X G zn_list
  have n_min := PySem.W.mg_none_of X G zn_min
  have n_range := PySem.W.mg_none_of X G zn_range
  have n_str := PySem.W.mg_none_of X G zn_str
  have n_tuple := PySem.W.mg_none_of X G zn_tuple
  have g_SIGNS := PySem.W.mg_of X G zS
  have sk : SignsK K w aS := signs_of zSl zS0 (knT_of zS1 rfl (by show 2 ≤ sizeLine; decide) (.cons ⟨_, rfl⟩ (.cons rfl .nil))) (knT_of zS2 rfl (by show 2 ≤ sizeLine; decide) (.cons ⟨_, rfl⟩ (.cons rfl .nil))) (knT_of zS3 rfl (by show 2 ≤ sizeLine; decide) (.cons ⟨_, rfl⟩ (.cons rfl .nil))) (knT_of zS4 rfl (by show 2 ≤ sizeLine; decide) (.cons ⟨_, rfl⟩ (.cons rfl .nil))) (knT_of zS5 rfl (by show 2 ≤ sizeLine; decide) (.cons ⟨_, rfl⟩ (.cons rfl .nil))) (knT_of zS6 rfl (by show 2 ≤ sizeLine; decide) (.cons ⟨_, rfl⟩ (.cons rfl .nil)))
  have cl_Counter : Cls K C_Counter := ⟨pgCounter, hdCounter, poCounter, saCounter⟩
  have ck : CtrK K C_Counter := ⟨cl_Counter, na_Counter_same, na_Counter_kept, na_Counter_met, na_Counter_many, na_Counter_total, na_Counter_lost⟩
  have FCounterxinitx := fun_mk (st := inClass (top 19) 0) lCounterxinitx cCounterxinitx kCounterxinitx
  have bCounterxinitx := FCounterxinitx.binds (ps := ["self", "reader"]) fun _ _ _ _ _ _ us hl => match us, hl with | [_, _], _ => rfl
  have FCounterlook := fun_mk (st := inClass (top 19) 1) lCounterlook cCounterlook kCounterlook
  have bCounterlook := FCounterlook.binds (ps := ["self", "pair"]) fun _ _ _ _ _ _ us hl => match us, hl with | [_, _], _ => rfl
  have FCountercount := fun_mk (st := inClass (top 19) 2) lCountercount cCountercount kCountercount
  have bCountercount := FCountercount.binds (ps := ["self"]) fun _ _ _ _ _ _ us hl => match us, hl with | [_], _ => rfl
  have FCountermissed := fun_mk (st := inClass (top 19) 3) lCountermissed cCountermissed kCountermissed
  have bCountermissed := FCountermissed.binds (ps := ["self"]) fun _ _ _ _ _ _ us hl => match us, hl with | [_], _ => rfl
  have ge := PySem.W.mg_of X G zE
  have tbE : BaseC K C_KnobError := ⟨bga, brd, bini⟩
  have ge_BadKnob := PySem.W.mg_of X G zEBadKnob
  have ge_BadReader := PySem.W.mg_of X G zEBadReader
  have ge_BadRow := PySem.W.mg_of X G zEBadRow
  have ge_BadText := PySem.W.mg_of X G zEBadText
  have oex_BadRow : OexC K C_BadRow := ⟨⟨_, _, _, _, _, _, _, _, _, _, _, _, _, _, _, olBadRow, ovBadRow⟩, esaBadRow, eexBadRow, etyBadRow, ekcBadRow⟩
  have ek_BadRow : ErrK K mg C_BadRow "BadRow" "at" := ⟨ge_BadRow, oex_BadRow, enaBadRow⟩
  have xk_BadRow : ExcK K C_BadRow := ⟨(by obtain ⟨cd, h, _⟩ := PySem.W.any_some ehdBadRow; rw [h]; rfl), ehgBadRow, ehkBadRow, eexBadRow, ehaBadRow, hnO, htO, ehmBadRow⟩
  have xf_BadRow : XfC K C_BadRow := ⟨ehgBadRow, ehkBadRow, eexBadRow, ehdBadRow⟩
  have FEBadRow := fun_mk (st := inClass (top 4) 0) lEBadRow cEBadRow kEBadRow
  have bEBadRow := FEBadRow.binds (ps := ["self", "at"]) fun _ _ _ _ _ _ us hl => match us, hl with | [_, _], _ => rfl
  have ew_BadRow : ErrW K C_KnobError C_BadKnob C_BadReader C_BadRow C_BadText "row" C_BadRow "at" := ⟨xmBadRow, xk_BadRow, xf_BadRow, enwBadRow, enaBadRow, (by rw [show decide (("row" : Str) = "knob") = false from by decide]; exact ki0BadRow), (by rw [show decide (("row" : Str) = "reader") = false from by decide]; exact ki1BadRow), (by rw [show decide (("row" : Str) = "row") = true from by decide]; exact ki2BadRow), (by rw [show decide (("row" : Str) = "text") = false from by decide]; exact ki3BadRow), kvBadRow, by decide⟩
  refine ⟨PySem.W.fnOf "law" "law" (defArgs (top 33)) (defBody (top 33)) (defScope (top 33)) .none kV15 dc15 pm15 an15 (.ref cL) ct15, [(cL, tP)], spLaw K [(tP, "law.<locals>.<lambda>")], fun p hp => ?_, fun p hp => ?_, fun p hp => ?_, fun s v => .of_eq rfl, fun H a ns hl _ hH hS => ⟨a, ns, rfl, hS, hl, fun p hp => ?_, fun _ => rfl⟩, fun base _ _ TBs => ?_⟩
  · obtain rfl := List.mem_singleton.mp hp; exact own
  · obtain rfl := List.mem_singleton.mp hp; exact nPL
  · obtain rfl := List.mem_singleton.mp hp; exact PySem.W.codeHd_of_K X hdL
  · obtain rfl := List.mem_singleton.mp hp; exact LamX.TabS.nil (hH (cL, tP) List.mem_cons_self)
  have TB := TBs (cL, tP) List.mem_cons_self
  have c__law_alike : Cal l.prog w K mg base 1 "_law_alike" ["_law_found", "_law_due"] (spAlike K 0) := ⟨f14, _, ok_alike0 F14, PySem.W.mg_of X G a14, k14, b14⟩
  have c__law_alike : Cal l.prog w K mg base 2 "_law_alike" ["_law_found", "_law_due"] (spAlike K 1) := ⟨f14, _, ok_alikeS F14 c__law_alike n_isinstance n_bool n_int n_str n_tuple n_list n_len n_all n_range, PySem.W.mg_of X G a14, k14, b14⟩
  have c__law_alike : Cal l.prog w K mg base 3 "_law_alike" ["_law_found", "_law_due"] (spAlike K 2) := ⟨f14, _, ok_alikeS F14 c__law_alike n_isinstance n_bool n_int n_str n_tuple n_list n_len n_all n_range, PySem.W.mg_of X G a14, k14, b14⟩
  have c__law_alike : Cal l.prog w K mg base 4 "_law_alike" ["_law_found", "_law_due"] (spAlike K 3) := ⟨f14, _, ok_alikeS F14 c__law_alike n_isinstance n_bool n_int n_str n_tuple n_list n_len n_all n_range, PySem.W.mg_of X G a14, k14, b14⟩
  have c__law_dice : Cal l.prog w K mg base 1 "_law_dice" ["_law_script", "_law_k"] (spDice K) := ⟨f1, _, ok_dice F1 n_abs, PySem.W.mg_of X G a1, k1, b1⟩
  have c__law_off : Cal l.prog w K mg base 1 "_law_off" ["_law_d", "_law_most"] (spOff) := ⟨f2, _, ok_off F2 n_len, PySem.W.mg_of X G a2, k2, b2⟩
  have c__law_knob : Cal l.prog w K mg base 2 "_law_knob" ["_law_d"] (spKnob) := ⟨f3, _, ok_knob F3 c__law_off, PySem.W.mg_of X G a3, k3, b3⟩
  have c__law_reader : Cal l.prog w K mg base 2 "_law_reader" ["_law_d"] (spReader) := ⟨f4, _, ok_reader F4 c__law_off, PySem.W.mg_of X G a4, k4, b4⟩
  have c__law_row : Cal l.prog w K mg base 2 "_law_row" ["_law_d", "_law_knob_here", "_law_many"] (spRowW K) := ⟨f5, _, ok_roww F5 c__law_off n_range n_int, PySem.W.mg_of X G a5, k5, b5⟩
  have c__law_bad : Cal l.prog w K mg base 1 "_law_bad" ["_law_knob_here", "_law_row_here"] (spBad K) := ⟨f6, _, ok_bad F6 n_len n_range, PySem.W.mg_of X G a6, k6, b6⟩
  have c_need_knob : Cal l.prog w K mg base 1 "need_knob" ["knob"] (spNeedKnob K) := ⟨f7, _, ok_need_knob F7 g_MOST_GAP, PySem.W.mg_of X G a7, k7, b7⟩
  have c_need_reader : Cal l.prog w K mg base 1 "need_reader" ["reader"] (spNeedReader K) := ⟨f8, _, ok_need_reader F8 g_MOST_APART g_MOST_SAME, PySem.W.mg_of X G a8, k8, b8⟩
  have m_Counter : Mkr l.prog w K mg base 2 C_Counter "Counter" ["self", "reader"] (spCtr K C_Counter) := ⟨fCounterxinitx, _, ok_cinit FCounterxinitx ck g_PAIRS pk c_need_reader, PySem.W.mg_of X G zCCounter, ⟨mkCounter, aCounterxinitx, iCounterxinitx, kcCounter⟩, bCounterxinitx⟩
  have m_look : Mtd l.prog w K mg base 1 C_Counter "look" ["self", "pair"] (spLook K C_Counter) := ⟨fCounterlook, _, ok_look FCounterlook ck g_PAIRS pk g_MISSED, ⟨aCounterlook, iCounterlook, kCounterlook⟩, bCounterlook⟩
  have m_count : Mtd l.prog w K mg base 1 C_Counter "count" ["self"] (spCount K C_Counter) := ⟨fCountercount, _, ok_count FCountercount ck, ⟨aCountercount, iCountercount, kCountercount⟩, bCountercount⟩
  have m_missed : Mtd l.prog w K mg base 1 C_Counter "missed" ["self"] (spMissed K C_Counter) := ⟨fCountermissed, _, ok_missed FCountermissed ck, ⟨aCountermissed, iCountermissed, kCountermissed⟩, bCountermissed⟩
  have c_positions : Cal l.prog w K mg base 1 "positions" ["row"] (spPos K) := ⟨f10, _, ok_positions F10 , PySem.W.mg_of X G a10, k10, b10⟩
  have ei_BadRow : ErrI l.prog w K mg base C_BadRow "at" ["self", "at"] := ⟨fEBadRow, _, aEBadRow, tiBadRow, ok_bwi FEBadRow ge tbE oex_BadRow enaBadRow, bEBadRow⟩
  have cx_need_row : CalN l.prog w K mg base 3 "need_row" ["knob", "row"] (spNeedRowX K C_BadRow) := ⟨f9, _, ok_needwx F9 g_MOST_ROW n_enumerate n_min ek_BadRow ei_BadRow, PySem.W.mg_of X G a9, k9, b9⟩
  have cx_shown : CalN l.prog w K mg base 5 "shown" ["knob", "row"] (spShownX K C_BadRow) := ⟨f11, _, ok_shownx F11 g_PAIRS pk c_need_knob cx_need_row c_positions, PySem.W.mg_of X G a11, k11, b11⟩
  have cx_run : CalN l.prog w K mg base 5 "run" ["knob", "reader", "row"] (spRunX K C_BadRow) := ⟨f12, _, ok_runx F12 ck g_PAIRS pk n_enumerate c_need_knob c_need_reader cx_need_row c_positions m_Counter m_look m_count m_missed, PySem.W.mg_of X G a12, k12, b12⟩
  have cx_written : CalN l.prog w K mg base 5 "written" ["knob", "row"] (spWritX K C_BadRow) := ⟨f13, _, ok_writx F13 g_SIGNS sk c_need_knob cx_need_row, PySem.W.mg_of X G a13, k13, b13⟩
  have R : RefOk l.prog w K mg base C_KnobError C_BadKnob C_BadReader C_BadRow C_BadText 6 f16 _ ["_law_work", "_law_word", "_law_value"] := ok_refd (k := 4) F16 n_isinstance n_ValueError ge ge_BadKnob ge_BadReader ge_BadRow ge_BadText (ok_alikeh F14 n_isinstance n_bool n_int n_str) (PySem.W.mg_of X G a14) k14 b14
  exact ok_law l15 c15 TB R (PySem.W.mg_of X G a16) k16 b16 ew_BadRow n_len n_range n_list c__law_dice c__law_off c__law_knob c__law_reader c__law_row c__law_bad cx_shown cx_run cx_written
theorem walk {l : PySem.W.OpenLaw} {q : Program} {loose : List Str} {XP : (Str → Option Value) → Heap → Prop} {YP : World → Heap → Prop} {d : DefRec} {K : Params → PySem.W.Frag} (hn : l.most = some 63) (hdf : d.params.defaults = []) (hY : ∀ (w : World) (h : Heap), YP w h → (K w.params).In h)
    (F : ∀ (w : World) (mg : Str → Option Value) (fa : Addr) (h : Heap), YP w h → (K w.params).In h → h.Ns mainGlobals mg → mg d.name = some (.ref fa) → LamX.LawAtS l w (K w.params) CX0 10 63 "_law_script" mg fa h) :
    PySem.W.WalkO q loose XP YP l.row.toRowW d [] (fun f vs => PySem.call f vs) :=
  LamX.walk_ofTs (n := 63) (k := 10) (x := "_law_script") (CX := fun _ => CX0) hn (by decide) hdf ⟨rfl, by decide, by decide⟩ hY F fun _ _ _ _ _ z => z
end KT
open PySem PySem.W PyProof.Rows in
set_option maxRecDepth 100000 in
set_option maxHeartbeats 0 in
theorem PySem.Challenge.cw_knobturn_k02_rows_refused_holds : PySem.Challenge.rw_knobturn_k02_rows_refused.Holds := by
  w_on; o_law; k_head; (case hw => w_witness2)
  k_fill
  refine KT.walk (l := PySem.Challenge.rw_knobturn_k02_rows_refused) rfl rfl (fun w h Y => PySem.W.km_in_of Y) ?F
  case F =>
    intro w mg fa h YY KX G hmg
    refine' KT.all_mk KX G hmg ?a1 ?l1 ?c1 ?k1 ?a2 ?l2 ?c2 ?k2 ?a3 ?l3 ?c3 ?k3 ?a4 ?l4 ?c4 ?k4 ?a5 ?l5 ?c5 ?k5 ?a6 ?l6 ?c6 ?k6 ?a7 ?l7 ?c7 ?k7 ?a8 ?l8 ?c8 ?k8 ?a9 ?l9 ?c9 ?k9 ?a10 ?l10 ?c10 ?k10 ?a11 ?l11 ?c11 ?k11 ?a12 ?l12 ?c12 ?k12 ?a13 ?l13 ?c13 ?k13 ?a14 ?l14 ?c14 ?k14 ?a15 ?l15 ?c15 ?k15 ?a16 ?l16 ?c16 ?k16 ?zg_MISSED ?zg_MOST_APART ?zg_MOST_GAP ?zg_MOST_ROW ?zg_MOST_SAME ?zP ?zP0 ?zP1 ?zP2 ?zP3 ?zP4 ?zn_ValueError ?zn_abs ?zn_all ?zn_bool ?zn_enumerate ?zn_int ?zn_isinstance ?zn_len ?zn_list ?zn_min ?zn_range ?zn_str ?zn_tuple ?zS ?zS0 ?zSl ?zS1 ?zS2 ?zS3 ?zS4 ?zS5 ?zS6 ?zCCounter ?pgCounter ?hdCounter ?poCounter ?saCounter ?mkCounter ?kcCounter ?na_Counter_same ?na_Counter_kept ?na_Counter_met ?na_Counter_many ?na_Counter_total ?na_Counter_lost ?aCounterxinitx ?lCounterxinitx ?cCounterxinitx ?kCounterxinitx ?iCounterxinitx ?aCounterlook ?lCounterlook ?cCounterlook ?kCounterlook ?iCounterlook ?aCountercount ?lCountercount ?cCountercount ?kCountercount ?iCountercount ?aCountermissed ?lCountermissed ?cCountermissed ?kCountermissed ?iCountermissed ?lcL ?zPL ?hdL ?nPL ?zE ?bga ?brd ?bini ?hnO ?htO ?zEBadKnob ?zEBadReader ?zEBadRow ?zEBadText ?olBadRow ?ovBadRow ?esaBadRow ?eexBadRow ?etyBadRow ?ekcBadRow ?ehdBadRow ?ehgBadRow ?ehkBadRow ?ehaBadRow ?ehmBadRow ?enwBadRow ?enaBadRow ?aEBadRow ?lEBadRow ?cEBadRow ?kEBadRow ?tiBadRow ?xmBadRow ?ki0BadRow ?ki1BadRow ?ki2BadRow ?ki3BadRow ?kvBadRow ?own
    (case a1 => k_is)
    (case l1 => k_is)
    (case c1 => k_is)
    (case k1 => k_is)
    (case a2 => k_is)
    (case l2 => k_is)
    (case c2 => k_is)
    (case k2 => k_is)
    (case a3 => k_is)
    (case l3 => k_is)
    (case c3 => k_is)
    (case k3 => k_is)
    (case a4 => k_is)
    (case l4 => k_is)
    (case c4 => k_is)
    (case k4 => k_is)
    (case a5 => k_is)
    (case l5 => k_is)
    (case c5 => k_is)
    (case k5 => k_is)
    (case a6 => k_is)
    (case l6 => k_is)
    (case c6 => k_is)
    (case k6 => k_is)
    (case a7 => k_is)
    (case l7 => k_is)
    (case c7 => k_is)
    (case k7 => k_is)
    (case a8 => k_is)
    (case l8 => k_is)
    (case c8 => k_is)
    (case k8 => k_is)
    (case a9 => k_is)
    (case l9 => k_is)
    (case c9 => k_is)
    (case k9 => k_is)
    (case a10 => k_is)
    (case l10 => k_is)
    (case c10 => k_is)
    (case k10 => k_is)
    (case a11 => k_is)
    (case l11 => k_is)
    (case c11 => k_is)
    (case k11 => k_is)
    (case a12 => k_is)
    (case l12 => k_is)
    (case c12 => k_is)
    (case k12 => k_is)
    (case a13 => k_is)
    (case l13 => k_is)
    (case c13 => k_is)
    (case k13 => k_is)
    (case a14 => k_is)
    (case l14 => k_is)
    (case c14 => k_is)
    (case k14 => k_is)
    (case a15 => k_is)
    (case l15 => k_is)
    (case c15 => k_is)
    (case k15 => k_is)
    (case a16 => k_is)
    (case l16 => k_is)
    (case c16 => k_is)
    (case k16 => k_is)
    (case zg_MISSED => k_is)
    (case zg_MOST_APART => k_is)
    (case zg_MOST_GAP => k_is)
    (case zg_MOST_ROW => k_is)
    (case zg_MOST_SAME => k_is)
    (case zP => k_is)
    (case zP0 => k_is)
    (case zP1 => k_is)
    (case zP2 => k_is)
    (case zP3 => k_is)
    (case zP4 => k_is)
    (case zn_ValueError => k_is)
    (case zn_abs => k_is)
    (case zn_all => k_is)
    (case zn_bool => k_is)
    (case zn_enumerate => k_is)
    (case zn_int => k_is)
    (case zn_isinstance => k_is)
    (case zn_len => k_is)
    (case zn_list => k_is)
    (case zn_min => k_is)
    (case zn_range => k_is)
    (case zn_str => k_is)
    (case zn_tuple => k_is)
    (case zS => k_is)
    (case zS0 => k_is)
    (case zSl => rfl)
    (case zS1 => k_is)
    (case zS2 => k_is)
    (case zS3 => k_is)
    (case zS4 => k_is)
    (case zS5 => k_is)
    (case zS6 => k_is)
    (case zCCounter => k_is)
    (case pgCounter => k_is)
    (case hdCounter => k_is)
    (case poCounter => k_is)
    (case saCounter => k_is)
    (case mkCounter => k_is)
    (case kcCounter => k_is)
    (case na_Counter_same => k_is)
    (case na_Counter_kept => k_is)
    (case na_Counter_met => k_is)
    (case na_Counter_many => k_is)
    (case na_Counter_total => k_is)
    (case na_Counter_lost => k_is)
    (case aCounterxinitx => k_is)
    (case lCounterxinitx => k_is)
    (case cCounterxinitx => k_is)
    (case kCounterxinitx => k_is)
    (case iCounterxinitx => k_is)
    (case aCounterlook => k_is)
    (case lCounterlook => k_is)
    (case cCounterlook => k_is)
    (case kCounterlook => k_is)
    (case iCounterlook => k_is)
    (case aCountercount => k_is)
    (case lCountercount => k_is)
    (case cCountercount => k_is)
    (case kCountercount => k_is)
    (case iCountercount => k_is)
    (case aCountermissed => k_is)
    (case lCountermissed => k_is)
    (case cCountermissed => k_is)
    (case kCountermissed => k_is)
    (case iCountermissed => k_is)
    (case lcL => k_is)
    (case zPL => exact rfl)
    (case hdL => kernel_rfl)
    (case nPL => kernel_rfl)
    (case zE => k_is)
    (case bga => k_is)
    (case brd => k_is)
    (case bini => k_is)
    (case hnO => k_is)
    (case htO => k_is)
    (case zEBadKnob => k_is)
    (case zEBadReader => k_is)
    (case zEBadRow => k_is)
    (case zEBadText => k_is)
    (case olBadRow => k_is)
    (case ovBadRow => exact rfl)
    (case esaBadRow => k_is)
    (case eexBadRow => k_is)
    (case etyBadRow => k_is)
    (case ekcBadRow => k_is)
    (case ehdBadRow => k_is)
    (case ehgBadRow => k_is)
    (case ehkBadRow => k_is)
    (case ehaBadRow => k_is)
    (case ehmBadRow => k_is)
    (case enwBadRow => k_is)
    (case enaBadRow => k_is)
    (case aEBadRow => k_is)
    (case lEBadRow => k_is)
    (case cEBadRow => k_is)
    (case kEBadRow => k_is)
    (case tiBadRow => k_is)
    (case xmBadRow => kernel_rfl)
    (case ki0BadRow => kernel_rfl)
    (case ki1BadRow => kernel_rfl)
    (case ki2BadRow => kernel_rfl)
    (case ki3BadRow => kernel_rfl)
    (case kvBadRow => kernel_rfl)
    (case own => exact PySem.W.km_tabs_of YY _ (by decide))
