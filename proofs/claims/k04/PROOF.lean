import PyProof.Rows.All
import Wide.All
import OpenK.AllK
import Wide.FinOn
import HandS.ForMost
import HandS.IsInst
import HandS.Codes
import HandS.Walk
import HandS.Deep
import HandS.Strs
import PySem.Challenge.RW_knobturn_k04_counters_by_any_pairs
set_option Elab.async false
set_option linter.all false
set_option maxRecDepth 100000
/-! # Heaps with some places hidden, data read off a heap, calls in short -/
namespace KT
open PySem L2

/-! ### heaps with some places hidden -/
def Fz (ps : List Addr) (H : Hp) : Hp := fun a => if a ∈ ps then none else H a
section
variable {ps qs : List Addr} {H H' H1 H2 : Hp} {a b p : Addr} {o : HO} {K : PySem.W.Frag}
theorem fz_out (h : a ∉ ps) : Fz ps H a = H a := if_neg h
theorem fz_in (h : a ∈ ps) : Fz ps H a = none := if_pos h
theorem fz_some : Fz ps H a = some o ↔ a ∉ ps ∧ H a = some o := by
  unfold Fz
  by_cases h : a ∈ ps
  · rw [if_pos h]; simp [h]
  · rw [if_neg h]; simp [h]
theorem fz_nil : Fz [] H = H := by funext a; exact fz_out (by simp)
theorem fz_le : Same (Fz ps H) H := fun b o h => (fz_some.mp h).2
theorem fz_less (h : ∀ a ∈ ps, a ∈ qs) : Same (Fz qs H) (Fz ps H) := fun b o e => by
  obtain ⟨n, e⟩ := fz_some.mp e
  exact fz_some.mpr ⟨fun z => n (h b z), e⟩
theorem fz_tail : Same (Fz (a :: ps) H) (Fz ps H) := fz_less fun _ h => List.mem_cons_of_mem _ h
theorem fz_mono (h : Same H H') : Same (Fz ps H) (Fz ps H') := fun b o e => by
  obtain ⟨n, e⟩ := fz_some.mp e
  exact fz_some.mpr ⟨n, h b o e⟩
/-- a store at a hidden place -/
theorem fz_set (h : a ∈ ps) : Fz ps (upd H a o) = Fz ps H := by
  funext b
  by_cases hb : b ∈ ps
  · rw [fz_in hb, fz_in hb]
  · rw [fz_out hb, fz_out hb, upd_ne (fun z : b = a => hb (by rw [z]; exact h))]
theorem same_new (h : H a = none) : Same H (upd H a o) := fun b u e => by
  rw [upd_ne (ne_of_none e h)]
  exact e
theorem same_put (h : H a = none) (e : Same H H') : Same H (upd H' a o) := fun b u q => by
  rw [upd_ne (ne_of_none q h)]
  exact e b u q
def Live (ps : List Addr) (H : Hp) : Prop := ∀ p ∈ ps, H p ≠ none
theorem live_nil : Live [] H := fun _ h => by cases h
theorem live_cons (h : H a = some o) (l : Live ps H) : Live (a :: ps) H := fun p hp => by
  rcases List.mem_cons.mp hp with rfl | hp
  · rw [h]; exact fun z => by cases z
  · exact l p hp
theorem Live.tail (l : Live (a :: ps) H) : Live ps H := fun p hp => l p (List.mem_cons_of_mem _ hp)
theorem Live.new (l : Live ps H) (h : H a = none) : a ∉ ps := fun z => l a z h
theorem Live.mono (l : Live ps H) (e : Same H H') : Live ps H' := fun p hp z => by
  cases q : H p with
  | none => exact l p hp q
  | some o => rw [e p o q] at z; cases z
theorem Live.upd (l : Live ps H) : Live ps (upd H a o) := fun p hp z => by
  by_cases h : p = a
  · rw [h, upd_same] at z; cases z
  · rw [upd_ne h] at z; exact l p hp z
theorem fz_new (h : a ∉ ps) : Fz ps (upd H a o) = upd (Fz ps H) a o := by
  funext b
  by_cases hb : b = a
  · rw [hb, fz_out h, upd_same, upd_same]
  · rw [upd_ne hb]
    by_cases hp : b ∈ ps
    · rw [fz_in hp, fz_in hp]
    · rw [fz_out hp, fz_out hp, upd_ne hb]
theorem same_fz (h : ∀ p ∈ ps, H p = none) (e : Same H H') : Same H (Fz ps H') := fun b o q => fz_some.mpr ⟨(fun z => by rw [h b z] at q; cases q), e b o q⟩
/-- all but the hidden places is as it was -/
def Frm (ps : List Addr) (H H' : Hp) : Prop := ∀ b o, b ∉ ps → H b = some o → H' b = some o
theorem Frm.refl : Frm ps H H := fun _ _ _ h => h
theorem Frm.trans (a : Frm ps H H1) (b : Frm ps H1 H2) : Frm ps H H2 := fun c o n h => b c o n (a c o n h)
theorem Frm.fz (a : Frm ps H H') : Same (Fz ps H) (Fz ps H') := fun b o e => by
  obtain ⟨n, e⟩ := fz_some.mp e
  exact fz_some.mpr ⟨n, a b o n e⟩
theorem Frm.of_same (a : Same H H') : Frm ps H H' := fun b o _ h => a b o h
theorem Frm.mono (h : ∀ a ∈ ps, a ∈ qs) (a : Frm ps H H') : Frm qs H H' := fun b o n e => a b o (fun z => n (h b z)) e
theorem Frm.set (h : a ∈ ps) : Frm ps H (upd H a o) := fun b u n e => by
  rw [upd_ne (fun z : b = a => n (by rw [z]; exact h))]
  exact e
theorem Frm.new (h : H a = none) : Frm ps H (upd H a o) := Frm.of_same (same_new h)
/-- what is new may change -/
theorem Frm.off (e : Frm (a :: ps) H H') (h : H a = none) : Frm ps H H' := fun b o n q => e b o (fun z => by
  rcases List.mem_cons.mp z with rfl | z
  · rw [h] at q; cases q
  · exact n z) q
theorem Frm.same (e : Frm [] H H') : Same H H' := fun b o h => e b o (by simp) h
theorem same_seqT {xs : List V} (e : Same H H') (h : SqT K H a xs) : SqT K H' a xs := by
  rcases h with (h | ⟨o, h⟩) | h
  · exact .inl (.inl (e _ _ h))
  · exact .inl (.inr ⟨o, e _ _ h⟩)
  · exact .inr h
end

/-! ### lists -/
theorem int_at {ns : List Int} {i : Nat} {y : V} (h : (ns.map V.int)[i]? = some y) : ∃ z, ns[i]? = some z ∧ y = V.int z := by
  rw [List.getElem?_map] at h
  cases e : ns[i]? with
  | none => rw [e] at h; cases h
  | some z => rw [e] at h; exact ⟨z, rfl, (Option.some.inj h).symm⟩
theorem ixN_nat {n j : Nat} (h : j < n) : ixN n (j : Int) = some j := by
  unfold ixN
  simp [h]
theorem seqIndex_nat {n j : Nat} (h : j < n) : seqIndex? (j : Int) n = some j := by
  have e : ¬ ((j : Int) < 0) := by omega
  unfold seqIndex?
  simp [h, e]
theorem upd_id {H : Hp} {a : Addr} {o : HO} (h : H a = some o) : upd H a o = H := by
  funext b
  by_cases e : b = a
  · rw [e, upd_same, h]
  · rw [upd_ne e]
theorem min2 (a b : Int) : min a b = if b < a then b else a := by
  rw [Int.min_def]
  by_cases h : b < a
  · rw [if_pos h, if_neg (by omega)]
  · rw [if_neg h, if_pos (by omega)]
/-! ### tests -/
theorem iteNT {c A B : Prop} [Decidable c] (hc : ¬ c) (h : A) : if (!decide c) = true then A else B := by
  rw [decide_eq_false hc]
  exact iteT h
theorem iteDT {c A B : Prop} [Decidable c] (hc : c) (h : A) : if decide c = true then A else B := by
  rw [decide_eq_true hc]
  exact iteT h
theorem iteDF {c A B : Prop} [Decidable c] (hc : ¬ c) (h : B) : if decide c = true then A else B := by
  rw [decide_eq_false hc]
  exact iteF h
theorem iteBT {b : Bool} {A B : Prop} (hb : b = true) (h : A) : if b = true then A else B := by rw [if_pos hb]; exact h
theorem iteBF {b : Bool} {A B : Prop} (hb : b = false) (h : B) : if b = true then A else B := by rw [hb]; exact iteF h
theorem iteB {b : Bool} {A B : Prop} (h1 : b = true → A) (h2 : b = false → B) : if b = true then A else B := by
  cases b with
  | true => exact iteT (h1 rfl)
  | false => exact iteF (h2 rfl)
theorem vint_ne {i j : Int} (h : i ≠ j) : V.int i ≠ V.int j := fun e => h (V.int.inj e)
theorem vint_eq {i j : Int} (h : i = j) : V.int i = V.int j := congrArg V.int h
/-! ### data -/
section
variable {K : PySem.W.Frag} {H H' : Hp} {ps : List Addr}
mutual
theorem dp_same (e : Same H H') : ∀ {v : V} {d : PyData}, Dp K H v d → Dp K H' v d
  | _, _, .non => .non
  | _, _, .bl b => .bl b
  | _, _, .int i => .int i
  | _, _, .str x => .str x
  | _, _, .lst h a => .lst (e.seq h) (dpa_same e a)
  | _, _, .tup h a => .tup (same_seqT e h) (dpa_same e a)
theorem dpa_same (e : Same H H') : ∀ {vs : List V} {ds : List PyData}, DpAll K H vs ds → DpAll K H' vs ds
  | _, _, .nil => .nil
  | _, _, .cons h t => .cons (dp_same e h) (dpa_same e t)
end
theorem dp_fz {v : V} {d : PyData} (h : Dp K (Fz ps H) v d) : Dp K H v d := dp_same fz_le h
theorem dpa_length : ∀ {vs : List V} {ds : List PyData}, DpAll K H vs ds → vs.length = ds.length
  | _, _, .nil => rfl
  | _, _, .cons _ t => congrArg (· + 1) (dpa_length t)
theorem dpa_get : ∀ {vs : List V} {ds : List PyData} {i : Nat} {v : V}, DpAll K H vs ds → vs[i]? = some v → ∃ d, ds[i]? = some d ∧ Dp K H v d
  | _, _, _, _, .nil, e => by simp at e
  | _, _, 0, _, .cons h _, e => by simp at e; subst e; exact ⟨_, rfl, h⟩
  | _, _, i + 1, v, .cons _ t, e => by
    obtain ⟨d, h1, h2⟩ := dpa_get (i := i) (v := v) t (by simpa using e)
    exact ⟨d, by simpa using h1, h2⟩
theorem dpa_at : ∀ {vs : List V} {ds : List PyData} {i : Nat} {d : PyData}, DpAll K H vs ds → ds[i]? = some d → ∃ v, vs[i]? = some v ∧ Dp K H v d
  | _, _, _, _, .nil, e => by simp at e
  | _, _, 0, _, .cons h _, e => by simp at e; subst e; exact ⟨_, rfl, h⟩
  | _, _, i + 1, d, .cons _ t, e => by
    obtain ⟨v, h1, h2⟩ := dpa_at (i := i) (d := d) t (by simpa using e)
    exact ⟨v, by simpa using h1, h2⟩
theorem dpa_append : ∀ {vs us : List V} {ds es : List PyData}, DpAll K H vs ds → DpAll K H us es → DpAll K H (vs ++ us) (ds ++ es)
  | _, _, _, _, .nil, t => t
  | _, _, _, _, .cons h t, u => .cons h (dpa_append t u)
theorem dpa_snoc {vs : List V} {ds : List PyData} {v : V} {d : PyData} (h : DpAll K H vs ds) (q : Dp K H v d) : DpAll K H (vs ++ [v]) (ds ++ [d]) := dpa_append h (.cons q .nil)
theorem dpa_take : ∀ {vs : List V} {ds : List PyData} (n : Nat), DpAll K H vs ds → DpAll K H (vs.take n) (ds.take n)
  | _, _, 0, _ => by simp; exact .nil
  | _, _, _ + 1, .nil => by simp; exact .nil
  | _, _, n + 1, .cons h t => .cons h (dpa_take n t)
theorem dpa_drop : ∀ {vs : List V} {ds : List PyData} (n : Nat), DpAll K H vs ds → DpAll K H (vs.drop n) (ds.drop n)
  | _, _, 0, h => h
  | _, _, _ + 1, .nil => by simp; exact .nil
  | _, _, n + 1, .cons _ t => dpa_drop n t
theorem dpa_ints : ∀ (ns : List Int), DpAll K H (ns.map V.int) (ns.map PyData.int)
  | [] => .nil
  | n :: r => .cons (.int n) (dpa_ints r)
theorem dpa_ints_eq : ∀ {ns : List Int} {vs : List V}, DpAll K H vs (ns.map PyData.int) → vs = ns.map V.int
  | [], _, h => by cases h; rfl
  | n :: r, _, h => by
    cases h with
    | cons q t => cases q; rw [dpa_ints_eq t]; rfl
theorem dpa_map {α : Type} {f : α → PyData} : ∀ {l : List α} {vs : List V}, (∀ (i : Nat) (v : V), vs[i]? = some v → ∃ x, l[i]? = some x ∧ Dp K H v (f x)) → vs.length = l.length → DpAll K H vs (l.map f)
  | [], [], _, _ => .nil
  | [], _ :: _, _, e => by simp at e
  | _ :: _, [], _, e => by simp at e
  | x :: l, v :: vs, h, e => by
    obtain ⟨y, h1, h2⟩ := h 0 v rfl
    have : x = y := Option.some.inj h1
    subst this
    exact .cons h2 (dpa_map (fun i u q => h (i + 1) u q) (by simpa using e))
theorem dpa_map_at {α : Type} {f : α → PyData} {l : List α} {vs : List V} {i : Nat} {v : V} (h : DpAll K H vs (l.map f)) (e : vs[i]? = some v) : ∃ x, l[i]? = some x ∧ Dp K H v (f x) := by
  obtain ⟨d, h1, h2⟩ := dpa_get h e
  rw [List.getElem?_map] at h1
  cases q : l[i]? with
  | none => rw [q] at h1; cases h1
  | some x => rw [q] at h1; cases h1; exact ⟨x, rfl, h2⟩
theorem dp_int {v : V} {i : Int} (h : Dp K H v (.int i)) : v = .int i := by cases h; rfl
theorem dp_bl {v : V} {b : Bool} (h : Dp K H v (.bool b)) : v = .bl b := by cases h; rfl
theorem dp_str {v : V} {x : Str} (h : Dp K H v (.str x)) : v = .str x := by cases h; rfl
theorem dp_non {v : V} (h : Dp K H v .none) : v = .non := by cases h; rfl
theorem dp_lst {v : V} {ds : List PyData} (h : Dp K H v (.list ds)) : ∃ a xs, v = .ref a ∧ SqL K H a xs ∧ DpAll K H xs ds := by
  cases h with | lst h a => exact ⟨_, _, rfl, h, a⟩
theorem dp_tup {v : V} {ds : List PyData} (h : Dp K H v (.tuple ds)) : ∃ a xs, v = .ref a ∧ SqT K H a xs ∧ DpAll K H xs ds := by
  cases h with | tup h a => exact ⟨_, _, rfl, h, a⟩
/-- a pair of plain things -/
theorem dp_two {v : V} {d e : PyData} (h : Dp K H v (.tuple [d, e])) : ∃ a x y, v = .ref a ∧ SqT K H a [x, y] ∧ Dp K H x d ∧ Dp K H y e := by
  obtain ⟨a, xs, rfl, h, t⟩ := dp_tup h
  cases t with
  | cons h1 t =>
    cases t with
    | cons h2 t => cases t; exact ⟨a, _, _, rfl, h, h1, h2⟩
theorem dp_ii {v : V} {i j : Int} (h : Dp K H v (.tuple [.int i, .int j])) : ∃ a, v = .ref a ∧ SqT K H a [.int i, .int j] := by
  obtain ⟨a, x, y, rfl, h, h1, h2⟩ := dp_two h
  rw [dp_int h1, dp_int h2] at h
  exact ⟨a, rfl, h⟩
theorem dp_ib {v : V} {i : Int} {b : Bool} (h : Dp K H v (.tuple [.int i, .bool b])) : ∃ a, v = .ref a ∧ SqT K H a [.int i, .bl b] := by
  obtain ⟨a, x, y, rfl, h, h1, h2⟩ := dp_two h
  rw [dp_int h1, dp_bl h2] at h
  exact ⟨a, rfl, h⟩
/-- a new tuple, a new list -/
theorem dp_newT {a : Addr} {xs : List V} {ds : List PyData} (l : Live ps H) (h : H a = none) (t : DpAll K (Fz ps H) xs ds) : Dp K (Fz ps (upd H a (.tup xs))) (.ref a) (.tuple ds) := by
  rw [fz_new (l.new h)]
  refine .tup (SqT.of upd_same) (dpa_same (same_new ?_) t)
  rw [fz_out (l.new h)]; exact h
theorem dp_newL {a : Addr} {xs : List V} {ds : List PyData} (l : Live ps H) (h : H a = none) (t : DpAll K (Fz ps H) xs ds) : Dp K (Fz ps (upd H a (.lst xs))) (.ref a) (.list ds) := by
  rw [fz_new (l.new h)]
  refine .lst (SqL.of upd_same) (dpa_same (same_new ?_) t)
  rw [fz_out (l.new h)]; exact h
/-- a list that was being made is let go -/
theorem dp_doneL {a : Addr} {xs : List V} {ds : List PyData} (n : a ∉ ps) (h : H a = some (.lst xs)) (t : DpAll K (Fz (a :: ps) H) xs ds) : Dp K (Fz ps H) (.ref a) (.list ds) :=
  .lst (SqL.of (by rw [fz_out n]; exact h)) (dpa_same fz_tail t)
/-- found.append((..)), found hidden -/
theorem dpa_push {a t : Addr} {o : HO} {xs ys : List V} {ds es : List PyData} (l : Live (a :: ps) H) (ht : H t = none) (h : DpAll K (Fz (a :: ps) H) xs ds) (q : DpAll K (Fz (a :: ps) H) ys es) :
    DpAll K (Fz (a :: ps) (upd (upd H t (.tup ys)) a o)) (xs ++ [.ref t]) (ds ++ [.tuple es]) := by
  rw [fz_set (List.mem_cons_self ..)]
  exact dpa_snoc (dpa_same (fz_mono (same_new ht)) h) (dp_newT l ht q)
theorem dpa_put {a : Addr} {o : HO} {v : V} {d : PyData} {xs : List V} {ds : List PyData} (h : DpAll K (Fz (a :: ps) H) xs ds) (q : Dp K (Fz (a :: ps) H) v d) :
    DpAll K (Fz (a :: ps) (upd H a o)) (xs ++ [v]) (ds ++ [d]) := by
  rw [fz_set (List.mem_cons_self ..)]
  exact dpa_snoc h q
theorem dpa_ii (i j : Int) : DpAll K H [.int i, .int j] [.int i, .int j] := .cons (.int i) (.cons (.int j) .nil)
theorem dpa_ib (i : Int) (b : Bool) : DpAll K H [.int i, .bl b] [.int i, .bool b] := .cons (.int i) (.cons (.bl b) .nil)
/-- the types that isinstance sees -/
theorem ty_lst {a : Addr} {xs : List V} (h : SqL K H a xs) : TyX K H (.ref a) (.type "list") := by
  rcases h with (h | ⟨o, h⟩) | ⟨o, its, n, h, c, _⟩
  · exact .base (.lst h)
  · exact .base (.frz h)
  · exact .kList h c
theorem ty_tup {a : Addr} {xs : List V} (h : SqT K H a xs) : TyX K H (.ref a) (.type "tuple") := by
  rcases h with (h | ⟨o, h⟩) | ⟨o, its, n, h, c, _⟩
  · exact .base (.tup h)
  · exact .fTuple h
  · exact .kTuple h c
end

/-! ### calls in short -/
/-- a def of the module: it keeps sp -/
def Cal (P : Program) (w : World) (K : PySem.W.Frag) (mg : Str → Option Value) (base : Heap) (k : Nat) (x : Str) (ps : List Str) (sp : Sp) : Prop :=
  ∃ f fd, FnOk P w K mg base CX0 k f fd ps sp ∧ mg x = some (.ref f) ∧ PySem.W.keepIn K (.ref f) = true ∧ Binds K fd ps []
/-- a method of the class at C -/
def Mtd (P : Program) (w : World) (K : PySem.W.Frag) (mg : Str → Option Value) (base : Heap) (k : Nat) (C : Addr) (m : Str) (ps : List Str) (sp : Sp) : Prop :=
  ∃ f fd, FnOk P w K mg base CX0 k f fd ps sp ∧ Meth K C m f ∧ Binds K fd ps []
/-- a class that is called -/
def Mkr (P : Program) (w : World) (K : PySem.W.Frag) (mg : Str → Option Value) (base : Heap) (k : Nat) (C : Addr) (x : Str) (ps : List Str) (sp : Sp) : Prop :=
  ∃ f fd, FnOk P w K mg base CX0 k f fd ps sp ∧ mg x = some (.ref C) ∧ Mk K C f ∧ Binds K fd ps []
section
variable {X : Cx} {k : Nat} {C : Addr} {x m : Str} {qs : List Str} {sp : Sp} {p pos apos : Pos} {e o : Expr} {es : List Expr} {t : TA} {ta : TE}
/-! rules whose readings name K plainly (within a comprehension X.K does not do) -/
def rLenQ (K : PySem.W.Frag) : List V → Hp → VK → Prop := fun xs H Q => ∃ p ys, xs = [.ref p] ∧ (SqL K H p ys ∨ SqT K H p ys) ∧ Q (.int ys.length) H
theorem call_lenQ : CallR X (.builtin "len") (rLenQ X.K) := call_len_seq
def rListQ (K : PySem.W.Frag) : List V → Hp → VK → Prop := fun xs H Q => ∃ p ys, xs = [.ref p] ∧ (SqL K H p ys ∨ SqT K H p ys) ∧ ∀ l, H l = none → Q (.ref l) (upd H l (.lst ys))
theorem call_listQ : CallR X (.type "list") (rListQ X.K) := call_list_of
def rTupleQ (K : PySem.W.Frag) : List V → Hp → VK → Prop := fun xs H Q => ∃ p ys, xs = [.ref p] ∧ ((SqL K H p ys ∧ ∀ l, H l = none → Q (.ref l) (upd H l (.tup ys))) ∨ (SqT K H p ys ∧ Q (.ref p) H))
theorem call_tupleQ : CallR X (.type "tuple") (rTupleQ X.K) := call_tuple_of
theorem pe_fldK {K : PySem.W.Frag} {f : Str} (hK : X.K = K) (he : PE X e ta) (hb : attributeBase e f X.env (eval e X.env) = eval e X.env := by rfl) : PE X (.Attribute e f pos) (tFld K ta f) := by
  subst hK
  exact pe_fld he hb
/-- a word between an expression and what follows -/
def tCutE (t : TE) : TE := fun σ H Q => ∃ R : VK, t σ H R ∧ ∀ v H', R v H' → Q v H'
theorem pe_cut {t : TE} (h : PE X e t) : PE X e (tCutE t) := ⟨fun pins s σ H Q I ⟨R, h1, h2⟩ => thn (h.run pins s σ H R I h1) fun v s1 ⟨x, H1, I1, r1, q1⟩ => ⟨x, H1, I1, r1, h2 _ _ q1⟩⟩
def tCutT (t : TT) : TT := fun σ H Q => ∃ R : Bool → Hp → Prop, t σ H R ∧ ∀ v H', R v H' → Q v H'
theorem pt_cut {t : TT} (h : PT X e t) : PT X e (tCutT t) := ⟨fun pins s σ H Q I ⟨R, h1, h2⟩ => thn (h.run pins s σ H R I h1) fun v s1 ⟨H1, I1, q1⟩ => ⟨H1, I1, h2 _ _ q1⟩⟩
theorem pe_cal (c : Cal X.prog X.w X.K X.mg X.base k x qs sp) (hr : Room k X.A) (ha : PA X (e :: es) t) (hg : Gl X x := by rfl) (hdb : (x == ("__debug__" : Str)) = false := by decide)
    (he : starEach (e :: es) X.env = (false, eval e X.env) :: starEach es X.env := by rfl) (hpl : (backTo pos (starEach es X.env)).any (·.1) = false := by rfl) : PE X (.Call (.Name x p) (e :: es) [] pos) (tCall sp [] E0 t) := by
  obtain ⟨f, fd, F, hm, hk, hb⟩ := c
  exact pe_call F hr hg hm hk hb .nil pass0 ha hdb he hpl
theorem pe_cal0 (c : Cal X.prog X.w X.K X.mg X.base k x qs sp) (hr : Room k X.A) (hg : Gl X x := by rfl) (hdb : (x == ("__debug__" : Str)) = false := by decide) : PE X (.Call (.Name x p) [] [] pos) (tCall sp [] E0 tNil) := by
  obtain ⟨f, fd, F, hm, hk, hb⟩ := c
  exact pe_call0 F hr hg hm hk hb .nil pass0 hdb
theorem pe_mtd {pl : Sem Bool} (c : Mtd X.prog X.w X.K X.mg X.base k C m qs sp) (cl : Cls X.K C) (hr : Room k X.A) (he : PE X o ta) (ha : PA X (e :: es) t)
    (hst : starEach (e :: es) X.env = (false, eval e X.env) :: starEach es X.env := by rfl) (hpl : (backTo pos (starEach es X.env)).any (·.1) = false := by rfl)
    (ht : eval (.Call (.Attribute o m apos) (e :: es) [] pos) X.env = (do
      let ov ← eval o X.env
      standAt apos.atName
      let (f, first) ← holding [ov] (getMethod ov m pl)
      callWith pos f first (backTo pos (starEach (e :: es) X.env)) (backToKw pos (keywordEach [] X.env))) := by rfl) :
    PE X (.Call (.Attribute o m apos) (e :: es) [] pos) (tMeth C m sp [] E0 ta t) := by
  obtain ⟨f, fd, F, hm, hb⟩ := c
  exact pe_meth he cl hm F hr hb .nil pass0 ha hst hpl ht
theorem pe_mtd0 {pl : Sem Bool} (c : Mtd X.prog X.w X.K X.mg X.base k C m qs sp) (cl : Cls X.K C) (hr : Room k X.A) (he : PE X o ta)
    (ht : eval (.Call (.Attribute o m apos) [] [] pos) X.env = (do
      let ov ← eval o X.env
      standAt apos.atName
      let (f, first) ← holding [ov] (getMethod ov m pl)
      callWith pos f first (backTo pos (starEach [] X.env)) (backToKw pos (keywordEach [] X.env))) := by rfl) :
    PE X (.Call (.Attribute o m apos) [] [] pos) (tMeth C m sp [] E0 ta tNil) := by
  obtain ⟨f, fd, F, hm, hb⟩ := c
  exact pe_meth0 he cl hm F hr hb .nil pass0 ht
theorem pe_mkr (c : Mkr X.prog X.w X.K X.mg X.base k C x qs sp) (hr : Room (k + 1) X.A) (ha : PA X (e :: es) t) (hg : Gl X x := by rfl) (hdb : (x == ("__debug__" : Str)) = false := by decide)
    (he : starEach (e :: es) X.env = (false, eval e X.env) :: starEach es X.env := by rfl) (hpl : (backTo pos (starEach es X.env)).any (·.1) = false := by rfl) : PE X (.Call (.Name x p) (e :: es) [] pos) (tMake C sp [] E0 t) := by
  obtain ⟨f, fd, F, hm, M, hb⟩ := c
  exact pe_make M F hr hg hm hb .nil pass0 ha hdb he hpl
end
/-! ### t.index(x) of data at any depth -/
theorem hu65 {k : Nat} {A : Around} (r : Room k A) : A.units + 65 < cLine := by have := r.un; omega
def rTupIndexD (K : PySem.W.Frag) : V → List V → Hp → VK → Prop := fun x xs H Q => ∃ (a : Addr) (y : V) (d : PyData) (ds : List PyData) (j : Nat) (z : PyData), x = V.ref a ∧ xs = [y] ∧ Dp K H (V.ref a) (.tuple ds) ∧ Dp K H y d ∧
  SeqAt.shaped (.tuple ds) = true ∧ SeqAt.shaped d = true ∧ ds[j]? = some z ∧ PyData.eqv z d = true ∧ (∀ (m : Nat) (z' : PyData), m < j → ds[m]? = some z' → PyData.eqv z' d = false) ∧ Q (.int (j : Nat)) H
theorem mt_tup_indexD {X : Cx} (hu : X.A.units + 65 < cLine) : MtR X "tuple.index" (rTupIndexD X.K) := by
  intro pins s σ H x xs v us Q I rx rxs h
  obtain ⟨a, y, d, ds, j, z, rfl, rfl, hl, hy, sl, sd, hz, hzj, hno, q⟩ := h
  cases rx
  cases rxs with
  | cons ry rt =>
    rename_i uy ut
    cases rt
    obtain ⟨bs, r1⟩ := Dp.reads I d y uy hy ry
    have hxs : PyData.canLayAll0 ds = true := by
      have := SeqAt.canLay_of_shaped sl
      simpa [PyData.canLay0] using this
    have hroom : X.A.units + 1 + min (PyData.depthAll ds) d.depth < cLine := PyProof.Rows.room_in_shaped sd hu
    cases hl with
    | tup hs ha =>
      obtain ⟨its, rv, ⟨⟨cls, dd, dt, sls⟩, ho, hc, n, hdt⟩, hlen⟩ := I.tuple hs
      simp only at hc hdt
      subst hc hdt
      obtain ⟨as, h4⟩ := Dp.readsAll I ds _ its ha rv
      have hn : its.length = ds.length := SeqAt.ReadsAll.length ds its as h4
      have hmap : its.map (SeqAt.readOf s.heap) = ds := SeqAt.readsAll_map ds its as hxs h4
      obtain ⟨hjd, _⟩ := List.getElem?_eq_some_iff.mp hz
      have hjl : j < its.length := by omega
      have hj : j < its.toArray.size := by simpa using hjl
      have at_ : ∀ (m : Nat) (hm : m < its.toArray.size) (z' : PyData), ds[m]? = some z' → SeqAt.readOf s.heap its.toArray[m] = z' := by
        intro m hm z' hz'
        have hml : m < its.length := by simpa using hm
        rw [← hmap, List.getElem?_map, List.getElem?_eq_getElem hml] at hz'
        have e1 : SeqAt.readOf s.heap its[m] = z' := Option.some.inj (show some (SeqAt.readOf s.heap its[m]) = some z' from hz')
        simpa using e1
      refine call_meets PySem.F.slot_tuple_index ⟨_, ho, rfl⟩ PySem.F.entry_tuple_index (PySem.F.args_tuple_index_2 _ _)
        (TI.tuple_indexAt a its.toArray n dd sls uy (fun u => PyData.eqv (SeqAt.readOf s.heap u) d) j hj ?_ ?_) ⟨ho, SeqAt.items_eqAt (vs := its.toArray) (show ReadsAll s.heap its.toArray.toList ds as from h4) r1 hxs (SeqAt.canLay_of_shaped sd) hroom, ?_⟩
      · show PyData.eqv (SeqAt.readOf s.heap its.toArray[j]) d = true
        rw [at_ j hj z hz]
        exact hzj
      · intro m hm hmj
        have hmd : m < ds.length := by omega
        have hz' : ds[m]? = some ds[m] := List.getElem?_eq_getElem hmd
        show PyData.eqv (SeqAt.readOf s.heap its.toArray[m]) d = false
        rw [at_ m hm _ hz']
        exact hno m _ hmj hz'
      · exact ⟨.int (j : Nat), H, I.tok _, ⟨_, rfl⟩, q⟩
theorem few {α : Type} {fs : List α} (n : Nat) (h : fs.length = n) (hn : n < 1000 := by decide) : fs.length < 1000 := by omega
theorem iteD {c A B : Prop} [Decidable c] (h1 : c → A) (h2 : ¬ c → B) : if decide c = true then A else B := by
  by_cases h : c
  · exact iteDT h (h1 h)
  · exact iteDF h (h2 h)
end KT

namespace KT
open PySem L2
def top (i : Nat) : Stmt := PySem.Challenge.pw_knobturn_k04_counters_by_any_pairs.main.body.getD i (.Pass ⟨0, 0, 0, 0⟩)
/-! ### rows: what a knob can go -/
abbrev Mv := Int × Bool
/-- moments since the latest turn (at most gap), whether it ever turned; one moment on -/
def stp (gap : Int) (s : Int × Bool) (m : Mv) : Int × Bool := (min gap ((if m.1 = 0 then s.1 else 0) + 1), s.2 || decide (m.1 ≠ 0))
def rst (gap : Int) (row : List Mv) : Int × Bool := row.foldl (stp gap) (gap, false)
structure OkM (gap bounce : Int) (s : Int × Bool) (m : Mv) : Prop where
  turn : m.1 = -1 ∨ m.1 = 0 ∨ m.1 = 1
  soon : m.1 ≠ 0 → gap ≤ s.1
  old : m.2 = true → (s.2 = true ∨ m.1 ≠ 0) ∧ (if m.1 = 0 then s.1 else 0) < bounce
structure Good (gap bounce : Int) (row : List Mv) : Prop where
  len : row.length ≤ 200
  ok : ∀ (i : Nat) (m : Mv), row[i]? = some m → OkM gap bounce (rst gap (row.take i)) m
theorem take_snoc {α : Type} {l : List α} {i : Nat} {x : α} (h : l[i]? = some x) : l.take (i + 1) = l.take i ++ [x] := by
  rw [List.take_add_one, h]
  rfl
theorem rst_snoc {gap : Int} {row : List Mv} {i : Nat} {m : Mv} (h : row[i]? = some m) : rst gap (row.take (i + 1)) = stp gap (rst gap (row.take i)) m := by
  unfold rst
  rw [take_snoc h, List.foldl_append]
  rfl
theorem rst_app {gap : Int} {row : List Mv} {m : Mv} : rst gap (row ++ [m]) = stp gap (rst gap row) m := by
  unfold rst
  rw [List.foldl_append]
  rfl
theorem good_snoc {gap bounce : Int} {row : List Mv} {m : Mv} (h : Good gap bounce row) (hl : row.length < 200) (hm : OkM gap bounce (rst gap row) m) : Good gap bounce (row ++ [m]) := by
  refine ⟨by rw [List.length_append, List.length_singleton]; omega, fun i x hx => ?_⟩
  by_cases hi : i < row.length
  · rw [List.getElem?_append_left hi] at hx
    rw [List.take_append_of_le_length (by omega)]
    exact h.ok i x hx
  · have hi2 : i = row.length := by
      have := (List.getElem?_eq_some_iff.mp hx).1
      rw [List.length_append, List.length_singleton] at this
      omega
    subst hi2
    simp at hx
    subst hx
    rw [List.take_append_of_le_length (Nat.le_refl _), List.take_length]
    exact hm
theorem good_nil {gap bounce : Int} : Good gap bounce [] := ⟨by simp, fun i m h => by simp at h⟩
def mvD (m : Mv) : PyData := .tuple [.int m.1, .bool m.2]
def rowD (row : List Mv) : PyData := .list (row.map mvD)
def knD (g b : Int) : PyData := .tuple [.int g, .int b]
/-- (where the knob is, which the latest turn was) -/
def pst (s : Int × Int) (m : Mv) : Int × Int := (s.1 + m.1, if m.1 = 0 then s.2 else m.1)
def pas (row : List Mv) : Int × Int := row.foldl pst (0, 0)
/-- what is told of a moment: where the knob is, where it is seen to be -/
def seenOf (s : Int × Int) (old : Bool) : Int × Int := (s.1, if old then s.1 - s.2 else s.1)
def plcs (row : List Mv) : List (Int × Int) := (List.range row.length).map fun i => match row[i]? with
  | some m => seenOf (pas (row.take (i + 1))) m.2
  | none => (0, 0)
theorem pas_snoc {row : List Mv} {i : Nat} {m : Mv} (h : row[i]? = some m) : pas (row.take (i + 1)) = pst (pas (row.take i)) m := by
  unfold pas
  rw [take_snoc h, List.foldl_append]
  rfl
theorem plcs_take {row : List Mv} {i : Nat} (hi : i ≤ row.length) : plcs (row.take i) = (plcs row).take i := by
  unfold plcs
  rw [List.length_take, Nat.min_eq_left hi, ← List.map_take, List.take_range, Nat.min_eq_left hi]
  refine List.map_congr_left fun j hj => ?_
  have hj : j < i := List.mem_range.mp hj
  rw [List.getElem?_take, if_pos hj, List.take_take, Nat.min_eq_left hj]
theorem plcs_snoc {row : List Mv} {i : Nat} {m : Mv} (h : row[i]? = some m) : plcs (row.take (i + 1)) = plcs (row.take i) ++ [seenOf (pst (pas (row.take i)) m) m.2] := by
  have hi := (List.getElem?_eq_some_iff.mp h).1
  rw [plcs_take hi, plcs_take (Nat.le_of_lt hi), List.take_add_one]
  have e : (plcs row)[i]? = some (seenOf (pst (pas (row.take i)) m) m.2) := by
    unfold plcs
    rw [List.getElem?_map, List.getElem?_range hi, Option.map_some, h]
    show some (seenOf (pas (row.take (i + 1))) m.2) = _
    rw [pas_snoc h]
  rw [e]
  rfl
theorem plcs_length (row : List Mv) : (plcs row).length = row.length := by unfold plcs; simp
def ppD (p : Int × Int) : PyData := .tuple [.int p.1, .int p.2]
/-- what both wires show in a place -/
def pr (z : Int) : Int × Int := if z % 4 = 0 then (0, 0) else if z % 4 = 1 then (0, 1) else if z % 4 = 2 then (1, 1) else (1, 0)
theorem mod4 (z : Int) : z % 4 = 0 ∨ z % 4 = 1 ∨ z % 4 = 2 ∨ z % 4 = 3 := by omega
/-! ### the dice -/
/-- the numbers of the dice: a number below 2 ^ 31, what is left of a great number, great numbers -/
def Dice (ns : List Int) : Prop := ∃ (a b : Int) (r : List Int), ns = a :: b :: r ∧ 0 ≤ a ∧ a < 2147483647 ∧ 0 ≤ b ∧ (∀ x ∈ r, 0 < x) ∧ r.length ≤ 63
def spDice (K : PySem.W.Frag) : Sp := fun vs H Q _ => ∃ (a : Addr) (ns : List Int), vs = [.ref a, .int 0] ∧ SqL K H a (ns.map V.int) ∧ ns.length ≤ 63 ∧
  ∀ (p : Addr) (ms : List Int) (H' : Hp), H p = none → Same H H' → H' p = some (.lst (ms.map V.int)) → Dice ms → Q (.ref p) H'
/-- a draw below m: any -/
def spOff : Sp := fun vs H Q _ => ∃ (d : Addr) (ns : List Int) (m : Int), vs = [.ref d, .int m] ∧ H d = some (.lst (ns.map V.int)) ∧ Dice ns ∧ 0 < m ∧ m < 1073741824 ∧
  ∀ (v : Int) (ms : List Int), 0 ≤ v → v < m → Dice ms → Q (.int v) (upd H d (.lst (ms.map V.int)))
section
variable {P : Program} {w : World} {K : PySem.W.Frag} {mg : Str → Option Value} {base : Heap}
theorem sc_dice : FnScope ["_law_script", "_law_k", "_law_found", "_law_cell"] ["_law_script", "_law_k"] (defScope (top 12)) := ⟨rfl, rfl, rfl, by decide +kernel, rfl, by decide +kernel, by decide +kernel⟩
theorem ok_dice {f : Addr} {fd : FuncData} (F : Fun K "_law_dice" "_law_dice" (top 12) f fd) (n_abs : mg "abs" = none) : FnOk P w K mg base CX0 1 f fd ["_law_script", "_law_k"] (spDice K) := by
  have sc := sc_dice
  refine F.ok sc (fun vs H Q E h => ?_) (fun cdv A outer s H vs Q E hr h => ?_)
  · obtain ⟨a, ns, rfl, _⟩ := h
    rfl
  · obtain ⟨a, ns, rfl, hS, hlen, k⟩ := h
    refine ⟨_, (pss_cons (ps_set (i := 2) sc.nd rfl (Or.inl rfl) (pv 1))
(pss_cons (ps_for PassesOwn.never rfl (pi_list (pv 0)) (pg_name (i := 3) sc.nd rfl (Or.inl rfl))
(pss_one (ps_set (i := 2) sc.nd rfl (Or.inl rfl) (pe_op op_mod (pe_op op_add (pe_op op_mul (pv 2) pe_int) (pe_callB call_abs (by rfl) n_abs (by decide +kernel) (pa_cons (pv 3) pa_nil))) pe_int))))
(pss_one (ps_ret (pe_op op_cat (pe_lst (pa_cons (pv 2) (pa_cons pe_int pa_nil))) (pe_lc (own := [("_law_cell", 3)]) (g := gName 3) rfl sc.nd (pi_list (pv 0)) (blkOk_by (own := [("_law_cell", 3)]) (N := ["_law_script", "_law_k", "_law_found", "_law_cell"]) (sc := defScope (top 12)) (by decide +kernel)) (fun _ _ _ _ _ => (pg_name (i := 3) sc.nd rfl (Or.inl rfl))) (fun _ _ _ _ _ => (pts_one (pt_cmpR op_ge (pv 3) (pe_op op_pow pe_int pe_int) (nomark _)))) (fun _ _ _ _ _ => (pv 3)))))))), ?_⟩
    refine ⟨_, rfl, _, rfl, a, rfl, ⟨_, hS⟩, for_list (K := K) (a := a) (xs := ns.map V.int) (fun i σ H' => ∃ (f : Int) (v : Option V), σ = [some (.ref a), some (.int 0), some (.int f), v] ∧ 0 ≤ f ∧ f < 2147483647 ∧ H' = H)
      ⟨0, none, rfl, by omega, by omega, rfl⟩ (fun i σ H' _ ⟨_, _, _, _, _, e⟩ => by rw [e]; exact hS) ?_ ?_⟩
    · rintro i y σ H' hi ⟨f, v, rfl, f0, f1, rfl⟩
      obtain ⟨z, _, rfl⟩ := int_at hi
      refine ⟨_, rfl, _, _, rfl, rfl, .inl ⟨by omega, by omega⟩, _, rfl, _, rfl, _, _, rfl, rfl, _, _, rfl, rfl, (by show (0 : Int) < 2147483647; decide), ?_⟩
      exact ⟨_, _, rfl, Int.emod_nonneg _ (by decide), Int.emod_lt_of_pos _ (by decide), rfl⟩
    · rintro σ H' ⟨f, v, rfl, f0, f1, rfl⟩
      refine ⟨_, rfl, (by show 2 ≤ sizeLine; decide), fun l hl => ?_⟩
      have s1 : Same H' (upd H' l (.lst [.int f, .int 0])) := same_new hl
      refine ⟨_, rfl, a, rfl, ⟨_, s1.seq hS⟩, fun D hD => lc_list (K := K) (a := a) (xs := ns.map V.int) (fun i H2 => ∃ ms : List Int, H2 = upd (upd H' l (.lst [.int f, .int 0])) D (.lst (ms.map V.int)) ∧ (∀ x ∈ ms, 0 < x) ∧ ms.length ≤ i)
        ⟨[], rfl, by simp, by simp⟩ (fun i H2 _ ⟨ms, e, _⟩ => by rw [e]; exact (s1.trans (same_new hD)).seq hS) ?_ ?_⟩
      · rintro i y H2 hi ⟨ms, rfl, hp, hm⟩
        obtain ⟨z, hz, rfl⟩ := int_at hi
        have hil := (List.getElem?_eq_some_iff.mp hz).1
        refine ⟨rfl, _, rfl, _, _, rfl, rfl, ⟨by decide, by decide, by decide⟩, _, _, rfl, rfl, _, rfl, ?_⟩
        by_cases c : (10 : Int) ^ (18 : Int).toNat ≤ z
        · rw [decide_eq_true c]
          refine iteT ⟨_, rfl, ms.map V.int, upd_same, ?_, ms ++ [z], ?_, ?_, ?_⟩
          · rw [List.length_map]; exact small1000 (by omega)
          · rw [upd_upd, List.map_append]; rfl
          · intro x hx
            rcases List.mem_append.mp hx with hx | hx
            · exact hp x hx
            · rw [List.mem_singleton.mp hx]
              have : (10 : Int) ^ (18 : Int).toNat = 1000000000000000000 := by decide
              omega
          · rw [List.length_append, List.length_singleton]; omega
        · rw [decide_eq_false c]
          exact iteF ⟨ms, rfl, hp, by omega⟩
      · rintro H2 ⟨ms, rfl, hms, hm⟩
        rw [List.length_map] at hm
        have nl : l ≠ D := fun z => by rw [z, upd_same] at hD; cases hD
        refine ⟨l, D, [.int f, .int 0], ms.map V.int, rfl, rfl, (by rw [upd_ne nl, upd_same]), upd_same, ?_, fun p hp => ?_⟩
        · rw [List.length_map]
          exact Nat.le_of_lt (small1000 (by show 2 + ms.length ≤ 1000; omega))
        · have s2 : Same H' (upd (upd H' l (.lst [.int f, .int 0])) D (.lst (ms.map V.int))) := s1.trans (same_new hD)
          exact k p (f :: 0 :: ms) _ (s2.free hp) (s2.trans (same_new hp)) upd_same ⟨f, 0, ms, rfl, f0, f1, by omega, hms, by omega⟩
theorem sc_off : FnScope ["_law_d", "_law_most", "_law_found"] ["_law_d", "_law_most"] (defScope (top 13)) := ⟨rfl, rfl, rfl, by decide +kernel, rfl, by decide +kernel, by decide +kernel⟩
theorem ok_off {f : Addr} {fd : FuncData} (F : Fun K "_law_off" "_law_off" (top 13) f fd) (n_len : mg "len" = none) : FnOk P w K mg base CX0 1 f fd ["_law_d", "_law_most"] spOff := by
  have sc := sc_off
  refine F.ok sc (fun vs H Q E h => ?_) (fun cdv A outer s H vs Q E hr h => ?_)
  · obtain ⟨d, ns, m, rfl, _⟩ := h
    rfl
  · obtain ⟨d, ns, m, rfl, hd, hD, m0, m1, k⟩ := h
    refine ⟨_, (C8.pss_cut (ps_if (PW.pt (pw_and (pt_cmpR op_eq (pe_ix (r := rIxL K) ix_list (pv 0) pe_int (fun _ _ => rfl)) pe_int (nomark _)) (pw_and1 (pt_cmpR op_gt (pe_callB (r := rLenQ K) call_lenQ (by rfl) n_len PySem.boot_len (pa_cons (pv 0) pa_nil)) pe_int (nomark _)))))
(pss_one (ps_asg (pe_bm PySem.F.plainAttrs_list PySem.F.slot_list_pop PySem.F.type_list_pop mt_popAt (pv 0) (pa_cons pe_int pa_nil)) (pg_sub (pv 0) pe_int set_list)))
pss_nil)
(pss_cons (ps_if (pt_cmpR op_gt (pe_ix (r := rIxL K) ix_list (pv 0) pe_int (fun _ _ => rfl)) pe_int (nomark _))
(pss_cons (ps_set (i := 2) sc.nd rfl (Or.inl rfl) (pe_op op_mod (pe_ix (r := rIxL K) ix_list (pv 0) pe_int (fun _ _ => rfl)) (pv 1)))
(pss_cons (ps_asg (pe_op op_fdiv (pe_ix (r := rIxL K) ix_list (pv 0) pe_int (fun _ _ => rfl)) (pv 1)) (pg_sub (pv 0) pe_int set_list))
(pss_one (ps_ret (pv 2)))))
pss_nil)
(pss_cons (ps_asg (pe_op op_mod (pe_op op_add (pe_op op_mul (pe_ix (r := rIxL K) ix_list (pv 0) pe_int (fun _ _ => rfl)) pe_int) pe_int) pe_int) (pg_sub (pv 0) pe_int set_list))
(pss_one (ps_ret (pe_op op_mod (pe_op op_fdiv (pe_ix (r := rIxL K) ix_list (pv 0) pe_int (fun _ _ => rfl)) pe_int) (pv 1))))))), ?_⟩
    refine ⟨fun σ H' => ∃ ms : List Int, σ = [some (.ref d), some (.int m), none] ∧ H' = upd H d (.lst (ms.map V.int)) ∧ Dice ms, ?_, ?_⟩
    · obtain ⟨a, b, r, rfl, a0, a1, b0, hr', rl⟩ := hD
      refine ⟨_, rfl, d, _, _, _, rfl, rfl, SqL.of hd, at_of (j := 1) rfl rfl, rfl, _, rfl, ?_⟩
      refine ite2 (fun c => ?_) (fun c => ?_)
      · refine ⟨_, rfl, d, _, rfl, .inl (SqL.of hd), _, _, rfl, rfl, _, rfl, ?_⟩
        refine ite2 (fun c2 => ?_) (fun c2 => ?_)
        · cases r with
          | nil => simp at c2
          | cons x r =>
            refine ⟨_, rfl, .inl ⟨rfl, _, SqL.of hd⟩, d, _, 2, 2, _, rfl, rfl, hd, by decide, by decide, ?_, rfl, ?_⟩
            · show seqIndex? 2 ((a :: b :: x :: r).map V.int).length = some 2
              rw [List.length_map]
              exact seqIndex_nat (by simp)
            · refine ⟨_, rfl, d, _, 1, 1, rfl, rfl, upd_same, ixN_nat (by simp), ?_⟩
              refine ⟨a :: x :: r, rfl, by rw [upd_upd]; rfl, a, x, r, rfl, a0, a1, Int.le_of_lt (hr' x (by simp)), fun y hy => hr' y (by simp [hy]), by simp at rl; omega⟩
        · exact ⟨_, rfl, (upd_id hd).symm, a, b, r, rfl, a0, a1, b0, hr', rl⟩
      · exact ⟨_, rfl, (upd_id hd).symm, a, b, r, rfl, a0, a1, b0, hr', rl⟩
    · rintro σ H' ⟨ms, rfl, rfl, hD2⟩
      obtain ⟨a, b, r, rfl, a0, a1, b0, hr', rl⟩ := hD2
      refine ⟨_, rfl, d, _, _, _, rfl, rfl, SqL.of upd_same, at_of (j := 1) rfl rfl, _, _, rfl, rfl, _, rfl, ?_⟩
      refine ite2 (fun c => ?_) (fun c => ?_)
      · refine ⟨_, rfl, d, _, _, _, rfl, rfl, SqL.of upd_same, at_of (j := 1) rfl rfl, _, rfl, _, _, rfl, rfl, m0, ?_⟩
        refine ⟨_, rfl, d, _, _, _, rfl, rfl, SqL.of upd_same, at_of (j := 1) rfl rfl, _, rfl, _, _, rfl, rfl, ⟨m0, m1⟩, _, rfl, d, _, 1, 1, rfl, rfl, upd_same, ixN_nat (by simp), ?_⟩
        refine ⟨_, rfl, ?_⟩
        rw [upd_upd]
        exact k (b % m) (a :: b / m :: r) (Int.emod_nonneg _ (by omega)) (Int.emod_lt_of_pos _ m0) ⟨a, b / m, r, rfl, a0, a1, Int.ediv_nonneg b0 (by omega), hr', rl⟩
      · refine ⟨_, rfl, d, _, _, _, rfl, rfl, SqL.of upd_same, at_of (j := 0) rfl rfl, _, _, rfl, rfl, .inl ⟨by omega, by omega⟩, _, _, rfl, rfl, _, _, rfl, rfl, (by show (0 : Int) < 2147483647; decide), _, rfl, d, _, 0, 0, rfl, rfl, upd_same, ixN_nat (by simp), ?_⟩
        rw [upd_upd]
        refine ⟨_, rfl, d, _, _, _, rfl, rfl, SqL.of upd_same, at_of (j := 0) rfl rfl, _, _, rfl, rfl, ⟨by decide, by decide⟩, _, rfl, _, _, rfl, rfl, m0, ?_⟩
        exact k _ (((a * 48271 + 11) % 2147483647) :: b :: r) (Int.emod_nonneg _ (by omega)) (Int.emod_lt_of_pos _ m0) ⟨_, b, r, rfl, Int.emod_nonneg _ (by decide), Int.emod_lt_of_pos _ (by decide), b0, hr', rl⟩
end
/-! ### the pair of a place -/
def spPair (K : PySem.W.Frag) : Sp := fun vs H Q _ => ∃ z : Int, vs = [.int z] ∧ ∀ (p : Addr) (H' : Hp), H p = none → Same H H' → H' p = some (.tup [.int (pr z).1, .int (pr z).2]) → Q (.ref p) H'
section
variable {P : Program} {w : World} {K : PySem.W.Frag} {mg : Str → Option Value} {base : Heap}
theorem sc_pair : FnScope ["_law_place"] ["_law_place"] (defScope (top 16)) := ⟨rfl, rfl, rfl, by decide +kernel, rfl, by decide +kernel, by decide +kernel⟩
theorem ok_pair {f : Addr} {fd : FuncData} (F : Fun K "_law_pair" "_law_pair" (top 16) f fd) : FnOk P w K mg base CX0 1 f fd ["_law_place"] (spPair K) := by
  have sc := sc_pair
  refine F.ok sc (fun vs H Q E h => ?_) (fun cdv A outer s H vs Q E hr h => ?_)
  · obtain ⟨z, rfl, _⟩ := h
    rfl
  · obtain ⟨z, rfl, k⟩ := h
    refine ⟨_, (pss_one (ps_ret (pe_tup (pa_cons (pe_ix (r := rIxL K) ix_list (pe_lst (pa_cons pe_int (pa_cons pe_int (pa_cons pe_int (pa_cons pe_int pa_nil))))) (pe_op op_mod (pv 0) pe_int) (fun _ _ => rfl)) (pa_cons (pe_ix (r := rIxL K) ix_list (pe_lst (pa_cons pe_int (pa_cons pe_int (pa_cons pe_int (pa_cons pe_int pa_nil))))) (pe_op op_mod (pv 0) pe_int) (fun _ _ => rfl)) pa_nil))))), ?_⟩
    refine ⟨(by show 4 ≤ sizeLine; decide), fun l1 h1 => ?_⟩
    have s1 : Same H (upd H l1 (.lst [.int 0, .int 0, .int 1, .int 1])) := same_new h1
    refine ⟨_, rfl, _, _, rfl, rfl, (by show (0 : Int) < 4; decide), l1, _, _, .int (pr z).1, rfl, rfl, SqL.of upd_same, ?_, (by show 4 ≤ sizeLine; decide), fun l2 h2 => ?_⟩
    · show atI [V.int 0, V.int 0, V.int 1, V.int 1] (z % 4) = some (.int (pr z).1)
      unfold pr
      rcases mod4 z with h | h | h | h <;> rw [h] <;> decide
    have s2 := s1.trans (same_new h2 (o := .lst [.int 0, .int 1, .int 1, .int 0]))
    refine ⟨_, rfl, _, _, rfl, rfl, (by show (0 : Int) < 4; decide), l2, _, _, .int (pr z).2, rfl, rfl, SqL.of upd_same, ?_, (by show 2 ≤ sizeLine; decide), fun p hp => ?_⟩
    · show atI [V.int 0, V.int 1, V.int 1, V.int 0] (z % 4) = some (.int (pr z).2)
      unfold pr
      rcases mod4 z with h | h | h | h <;> rw [h] <;> decide
    exact k p _ (s2.free hp) (s2.trans (same_new hp)) upd_same
end
/-! ### data that are alike -/
/-- lists and tuples at most n deep, of bounded length -/
def Nest : Nat → PyData → Prop
  | _, .none => True
  | _, .bool _ => True
  | _, .int _ => True
  | _, .str x => PyData.strOk x = true
  | n + 1, .list ds => ds.length ≤ 1000 ∧ ∀ d ∈ ds, Nest n d
  | n + 1, .tuple ds => ds.length ≤ 1000 ∧ ∀ d ∈ ds, Nest n d
  | _, _ => False
/-- alike of two readings of one thing -/
def spAlike (K : PySem.W.Frag) : Nat → Sp
  | 0 => fun _ _ _ _ => False
  | n + 1 => fun vs H Q _ => ∃ (v u : V) (d : PyData), vs = [v, u] ∧ Dp K H v d ∧ Dp K H u d ∧ Nest n d ∧ ∀ H', Same H H' → Q (.bl true) H'
section
variable {K : PySem.W.Frag} {H : Hp} {σ : St} {x : V} {i : Nat} {t T : String} {b : Bool}
theorem e_isi {Q : VK} (h : σ[i]? = some (some x)) (ty : TyX K H x (.type t)) (e : kitB t T = some b) (q : Q (.bl b) H) : tCB (rIsi K) (tCons (tVar i) (tCons (tC (.ty T)) tNil)) σ H Q :=
  ⟨x, h, x, .ty T, .type t, .type T, b, rfl, .ty T, ty, kit_ty e, q⟩
theorem t_isi {Q : Bool → Hp → Prop} (h : σ[i]? = some (some x)) (ty : TyX K H x (.type t)) (e : kitB t T = some b) (q : Q b H) : tB (tCB (rIsi K) (tCons (tVar i) (tCons (tC (.ty T)) tNil))) σ H Q :=
  e_isi h ty e ⟨b, rfl, q⟩
theorem t_isi2 {Q : Bool → Hp → Prop} {j : Nat} {y : V} (h : σ[i]? = some (some x)) (h' : σ[j]? = some (some y)) (ty : TyX K H x (.type t)) (ty' : TyX K H y (.type t)) (e : kitB t T = some b) (q : Q false H) :
    tTest (tOp rNe (tCB (rIsi K) (tCons (tVar i) (tCons (tC (.ty T)) tNil))) (tCB (rIsi K) (tCons (tVar j) (tCons (tC (.ty T)) tNil)))) σ H Q := by
  refine e_isi h ty e (e_isi h' ty' e ⟨rfl, _, rfl, ?_⟩)
  rw [decide_eq_true rfl]
  exact q
end
section
variable {P : Program} {w : World} {K : PySem.W.Frag} {mg : Str → Option Value} {base : Heap}
theorem sc_alike : FnScope ["_law_found", "_law_due", "_law_k"] ["_law_found", "_law_due"] (defScope (top 14)) := ⟨rfl, rfl, rfl, by decide +kernel, rfl, by decide +kernel, by decide +kernel⟩
theorem ok_alike0 {f : Addr} {fd : FuncData} (F : Fun K "_law_alike" "_law_alike" (top 14) f fd) : FnOk P w K mg base CX0 1 f fd ["_law_found", "_law_due"] (spAlike K 0) :=
  F.ok sc_alike (fun vs H Q E h => h.elim) (fun cdv A outer s H vs Q E hr h => h.elim)
theorem ok_alikeS {f : Addr} {fd : FuncData} {n : Nat} (F : Fun K "_law_alike" "_law_alike" (top 14) f fd) (c__law_alike : Cal P w K mg base (n + 1) "_law_alike" ["_law_found", "_law_due"] (spAlike K n))
    (n_isinstance : mg "isinstance" = none) (n_bool : mg "bool" = none) (n_int : mg "int" = none) (n_str : mg "str" = none) (n_tuple : mg "tuple" = none) (n_list : mg "list" = none) (n_len : mg "len" = none) (n_all : mg "all" = none) (n_range : mg "range" = none) :
    FnOk P w K mg base CX0 (n + 2) f fd ["_law_found", "_law_due"] (spAlike K (n + 1)) := by
  have sc := sc_alike
  refine F.ok sc (fun vs H Q E h => ?_) (fun cdv A outer s H vs Q E hr h => ?_)
  · obtain ⟨v, u, d, rfl, _⟩ := h
    rfl
  · obtain ⟨v, u, d, rfl, hv, hu, hN, k⟩ := h
    refine ⟨_, (pss_cons (ps_if (pt_cmpR op_isN (pv 1) pe_non (nomark _))
(pss_one (ps_ret (pe_cmpR op_isN (pv 0) pe_non (nomark _))))
pss_nil)
(pss_cons (ps_if (pt_val (pe_callB (r := rIsi K) call_isi (by rfl) n_isinstance (by decide +kernel) (pa_cons (pv 1) (pa_cons (pe_bltn (v := .ty "bool") (by rfl) n_bool (by decide +kernel) rfl) pa_nil))))
(pss_one (ps_ret (pe_and (pe_callB (r := rIsi K) call_isi (by rfl) n_isinstance (by decide +kernel) (pa_cons (pv 0) (pa_cons (pe_bltn (v := .ty "bool") (by rfl) n_bool (by decide +kernel) rfl) pa_nil))) (pe_one (pe_cmpR op_eq (pv 0) (pv 1) (nomark _))))))
pss_nil)
(pss_cons (ps_if (pt_val (pe_callB (r := rIsi K) call_isi (by rfl) n_isinstance (by decide +kernel) (pa_cons (pv 1) (pa_cons (pe_bltn (v := .ty "int") (by rfl) n_int (by decide +kernel) rfl) pa_nil))))
(pss_one (ps_ret (pe_and (pe_callB (r := rIsi K) call_isi (by rfl) n_isinstance (by decide +kernel) (pa_cons (pv 0) (pa_cons (pe_bltn (v := .ty "int") (by rfl) n_int (by decide +kernel) rfl) pa_nil))) (pe_and (pe_not (pe_callB (r := rIsi K) call_isi (by rfl) n_isinstance (by decide +kernel) (pa_cons (pv 0) (pa_cons (pe_bltn (v := .ty "bool") (by rfl) n_bool (by decide +kernel) rfl) pa_nil)))) (pe_one (pe_cmpR op_eq (pv 0) (pv 1) (nomark _)))))))
pss_nil)
(pss_cons (ps_if (pt_val (pe_callB (r := rIsi K) call_isi (by rfl) n_isinstance (by decide +kernel) (pa_cons (pv 1) (pa_cons (pe_bltn (v := .ty "str") (by rfl) n_str (by decide +kernel) rfl) pa_nil))))
(pss_one (ps_ret (pe_and (pe_callB (r := rIsi K) call_isi (by rfl) n_isinstance (by decide +kernel) (pa_cons (pv 0) (pa_cons (pe_bltn (v := .ty "str") (by rfl) n_str (by decide +kernel) rfl) pa_nil))) (pe_one (pe_cmpR op_eq (pv 0) (pv 1) (nomark _))))))
pss_nil)
(pss_cons (ps_if (PW.pt (pw_or (pt_cmpR op_ne (pe_callB (r := rIsi K) call_isi (by rfl) n_isinstance (by decide +kernel) (pa_cons (pv 1) (pa_cons (pe_bltn (v := .ty "tuple") (by rfl) n_tuple (by decide +kernel) rfl) pa_nil))) (pe_callB (r := rIsi K) call_isi (by rfl) n_isinstance (by decide +kernel) (pa_cons (pv 0) (pa_cons (pe_bltn (v := .ty "tuple") (by rfl) n_tuple (by decide +kernel) rfl) pa_nil))) (nomark _)) (pw_or1 (pt_cmpR op_ne (pe_callB (r := rIsi K) call_isi (by rfl) n_isinstance (by decide +kernel) (pa_cons (pv 1) (pa_cons (pe_bltn (v := .ty "list") (by rfl) n_list (by decide +kernel) rfl) pa_nil))) (pe_callB (r := rIsi K) call_isi (by rfl) n_isinstance (by decide +kernel) (pa_cons (pv 0) (pa_cons (pe_bltn (v := .ty "list") (by rfl) n_list (by decide +kernel) rfl) pa_nil))) (nomark _)))))
(pss_one (ps_ret pe_bl))
pss_nil)
(pss_cons (ps_if (pt_cmpR op_ne (pe_callB (r := rLenQ K) call_lenQ (by rfl) n_len PySem.boot_len (pa_cons (pv 0) pa_nil)) (pe_callB (r := rLenQ K) call_lenQ (by rfl) n_len PySem.boot_len (pa_cons (pv 1) pa_nil)) (nomark _))
(pss_one (ps_ret pe_bl))
pss_nil)
(pss_one (ps_ret (pe_callB (r := rAll K) (cr_all rfl) (by rfl) n_all (by decide +kernel) (pa_cons (pe_lc (own := [("_law_k", 2)]) (g := gName 2) rfl sc.nd (pi_range1 rfl n_range (pa_cons (pe_callB (r := rLenQ K) call_lenQ (by rfl) n_len PySem.boot_len (pa_cons (pv 1) pa_nil)) pa_nil)) (blkOk_by (own := [("_law_k", 2)]) (N := ["_law_found", "_law_due", "_law_k"]) (sc := defScope (top 14)) (by decide +kernel)) (fun _ _ _ _ _ => (pg_name (i := 2) sc.nd rfl (Or.inl rfl))) (fun _ _ _ _ _ => pts_nil) (fun _ _ _ _ _ => (pe_cal c__law_alike (hr.mono (by first | decide | omega)) (pa_cons (pe_ix (r := rIx K) ix_seq (pv 0) (pv 2) (fun _ _ => rfl)) (pa_cons (pe_ix (r := rIx K) ix_seq (pv 1) (pv 2) (fun _ _ => rfl)) pa_nil))))) pa_nil)))))))))), ?_⟩
    refine ⟨_, rfl, rfl, _, rfl, ?_⟩
    cases d with
    | none =>
      cases hv; cases hu
      exact iteDT rfl ⟨_, rfl, rfl, by rw [decide_eq_true rfl]; exact k H (Same.refl H)⟩
    | bool b =>
      cases hv; cases hu
      refine iteDF (by simp) (t_isi (t := "bool") (b := true) rfl (.base (.bl b)) (by decide +kernel) (iteT ?_))
      refine e_isi (t := "bool") (b := true) rfl (.base (.bl b)) (by decide +kernel) ⟨_, rfl, iteT ⟨_, rfl, _, rfl, rfl, ?_⟩⟩
      rw [decide_eq_true rfl]; exact k H (Same.refl H)
    | int b =>
      cases hv; cases hu
      refine iteDF (by simp) (t_isi (t := "int") (b := false) rfl (.base (.int b)) (by decide +kernel) (iteF ?_))
      refine t_isi (t := "int") (b := true) rfl (.base (.int b)) (by decide +kernel) (iteT ?_)
      refine e_isi (t := "int") (b := true) rfl (.base (.int b)) (by decide +kernel) ⟨_, rfl, iteT ?_⟩
      refine e_isi (t := "int") (b := false) rfl (.base (.int b)) (by decide +kernel) ⟨_, rfl, _, rfl, iteT ⟨_, rfl, _, rfl, rfl, ?_⟩⟩
      rw [decide_eq_true rfl]; exact k H (Same.refl H)
    | str b =>
      cases hv; cases hu
      refine iteDF (by simp) (t_isi (t := "str") (b := false) rfl (.base (.str b)) (by decide +kernel) (iteF ?_))
      refine t_isi (t := "str") (b := false) rfl (.base (.str b)) (by decide +kernel) (iteF ?_)
      refine t_isi (t := "str") (b := true) rfl (.base (.str b)) (by decide +kernel) (iteT ?_)
      refine e_isi (t := "str") (b := true) rfl (.base (.str b)) (by decide +kernel) ⟨_, rfl, iteT ⟨_, rfl, _, rfl, rfl, ?_⟩⟩
      rw [decide_eq_true rfl]; exact k H (Same.refl H)
    | list ds =>
      obtain ⟨a, xs, rfl, hL, hX⟩ := dp_lst hv
      obtain ⟨b, ys, rfl, hM, hY⟩ := dp_lst hu
      have ta := ty_lst hL
      have tb := ty_lst hM
      have lx := dpa_length hX
      have ly := dpa_length hY
      refine iteDF (by simp) (t_isi (t := "list") (b := false) rfl tb (by decide +kernel) (iteF ?_))
      refine t_isi (t := "list") (b := false) rfl tb (by decide +kernel) (iteF ?_)
      refine t_isi (t := "list") (b := false) rfl tb (by decide +kernel) (iteF ?_)
      refine t_isi2 (t := "list") (b := false) rfl rfl tb ta (by decide +kernel) (iteF ?_)
      refine t_isi2 (t := "list") (b := true) rfl rfl tb ta (by decide +kernel) (iteF ?_)
      refine ⟨_, rfl, a, xs, rfl, .inl hL, _, rfl, b, ys, rfl, .inl hM, rfl, _, rfl, iteNS (vint_eq (by omega)) ?_⟩
      match n, hN, c__law_alike, hr with
      | n + 1, hN, c__law_alike, hr =>
      obtain ⟨hl, hN⟩ := hN
      refine ⟨_, rfl, b, ys, rfl, .inl hM, _, rfl, by omega, by omega, fun D hD => lc_range (lo := 0) (n := ((ys.length : Nat) : Int).toNat) (fun i H' => Same H H' ∧ H' D = some (.lst (List.replicate i (V.bl true)))) ⟨same_new hD, upd_same⟩ ?_ ?_⟩
      · rintro i H1 hi ⟨hs, hd1⟩
        have hiy : i < ys.length := by omega
        have hix : i < xs.length := by omega
        obtain ⟨d1, e1, q1⟩ := dpa_get hX (List.getElem?_eq_getElem hix)
        obtain ⟨d2, e2, q2⟩ := dpa_get hY (List.getElem?_eq_getElem hiy)
        rw [e1] at e2
        cases e2
        refine ⟨rfl, _, rfl, _, rfl, .inl ⟨a, xs, _, _, rfl, rfl, hs.seq hL, at_of (j := i) (by omega) (List.getElem?_eq_getElem hix), _, rfl, _, rfl, .inl ⟨b, ys, _, _, rfl, rfl, hs.seq hM, at_of (j := i) (by omega) (List.getElem?_eq_getElem hiy), ?_⟩⟩⟩
        refine ⟨_, _, d1, rfl, dp_same hs q1, dp_same hs q2, hN d1 (List.mem_of_getElem? e1), fun H2 hs2 => ?_⟩
        refine ⟨_, hs2 _ _ hd1, small1000 (by rw [List.length_replicate]; omega), same_put hD (hs.trans hs2), ?_⟩
        rw [upd_same, List.replicate_succ']
      · rintro H1 ⟨hs, hd1⟩
        refine ⟨D, List.replicate ((ys.length : Nat) : Int).toNat true, rfl, SqL.of (by rw [hd1, List.map_replicate]), ?_⟩
        rw [List.all_replicate]
        show Q (.bl (if _ then true else true)) _
        rw [ite_self]
        exact k _ hs
    | tuple ds =>
      obtain ⟨a, xs, rfl, hL, hX⟩ := dp_tup hv
      obtain ⟨b, ys, rfl, hM, hY⟩ := dp_tup hu
      have ta := ty_tup hL
      have tb := ty_tup hM
      have lx := dpa_length hX
      have ly := dpa_length hY
      refine iteDF (by simp) (t_isi (t := "tuple") (b := false) rfl tb (by decide +kernel) (iteF ?_))
      refine t_isi (t := "tuple") (b := false) rfl tb (by decide +kernel) (iteF ?_)
      refine t_isi (t := "tuple") (b := false) rfl tb (by decide +kernel) (iteF ?_)
      refine t_isi2 (t := "tuple") (b := true) rfl rfl tb ta (by decide +kernel) (iteF ?_)
      refine t_isi2 (t := "tuple") (b := false) rfl rfl tb ta (by decide +kernel) (iteF ?_)
      refine ⟨_, rfl, a, xs, rfl, .inr hL, _, rfl, b, ys, rfl, .inr hM, rfl, _, rfl, iteNS (vint_eq (by omega)) ?_⟩
      match n, hN, c__law_alike, hr with
      | n + 1, hN, c__law_alike, hr =>
      obtain ⟨hl, hN⟩ := hN
      refine ⟨_, rfl, b, ys, rfl, .inr hM, _, rfl, by omega, by omega, fun D hD => lc_range (lo := 0) (n := ((ys.length : Nat) : Int).toNat) (fun i H' => Same H H' ∧ H' D = some (.lst (List.replicate i (V.bl true)))) ⟨same_new hD, upd_same⟩ ?_ ?_⟩
      · rintro i H1 hi ⟨hs, hd1⟩
        have hiy : i < ys.length := by omega
        have hix : i < xs.length := by omega
        obtain ⟨d1, e1, q1⟩ := dpa_get hX (List.getElem?_eq_getElem hix)
        obtain ⟨d2, e2, q2⟩ := dpa_get hY (List.getElem?_eq_getElem hiy)
        rw [e1] at e2
        cases e2
        refine ⟨rfl, _, rfl, _, rfl, .inr (.inl ⟨a, xs, _, _, rfl, rfl, same_seqT hs hL, at_of (j := i) (by omega) (List.getElem?_eq_getElem hix), _, rfl, _, rfl, .inr (.inl ⟨b, ys, _, _, rfl, rfl, same_seqT hs hM, at_of (j := i) (by omega) (List.getElem?_eq_getElem hiy), ?_⟩)⟩)⟩
        refine ⟨_, _, d1, rfl, dp_same hs q1, dp_same hs q2, hN d1 (List.mem_of_getElem? e1), fun H2 hs2 => ?_⟩
        refine ⟨_, hs2 _ _ hd1, small1000 (by rw [List.length_replicate]; omega), same_put hD (hs.trans hs2), ?_⟩
        rw [upd_same, List.replicate_succ']
      · rintro H1 ⟨hs, hd1⟩
        refine ⟨D, List.replicate ((ys.length : Nat) : Int).toNat true, rfl, SqL.of (by rw [hd1, List.map_replicate]), ?_⟩
        rw [List.all_replicate]
        show Q (.bl (if _ then true else true)) _
        rw [ite_self]
        exact k _ hs
    | dict _ => cases hv
end
/-! ### what is alike itself by == -/
theorem lay_nest : ∀ (n : Nat) (d : PyData), Nest n d → d.canLay0 = true ∧ d.depth ≤ n := by
  have all : ∀ (n : Nat) (ds : List PyData), (∀ d ∈ ds, d.canLay0 = true ∧ d.depth ≤ n) → PyData.canLayAll0 ds = true ∧ PyData.depthAll ds ≤ n := by
    intro n ds
    induction ds with
    | nil => intro _; exact ⟨rfl, Nat.zero_le _⟩
    | cons d ds ih =>
      intro h
      obtain ⟨h1, h2⟩ := h d (by simp)
      obtain ⟨h3, h4⟩ := ih fun x hx => h x (by simp [hx])
      refine ⟨by simp [PyData.canLayAll0, h1, h3], ?_⟩
      show max d.depth (PyData.depthAll ds) ≤ n
      omega
  intro n
  induction n with
  | zero =>
    intro d h
    cases d with
    | none => exact ⟨rfl, Nat.le_refl _⟩
    | bool _ => exact ⟨rfl, Nat.le_refl _⟩
    | int _ => exact ⟨rfl, Nat.le_refl _⟩
    | str _ => exact ⟨h, Nat.le_refl _⟩
    | list _ => exact h.elim
    | tuple _ => exact h.elim
    | dict _ => exact h.elim
  | succ n ih =>
    intro d h
    cases d with
    | none => exact ⟨rfl, Nat.zero_le _⟩
    | bool _ => exact ⟨rfl, Nat.zero_le _⟩
    | int _ => exact ⟨rfl, Nat.zero_le _⟩
    | str _ => exact ⟨h, Nat.zero_le _⟩
    | list ds =>
      obtain ⟨h1, h2⟩ := all n ds fun d hd => ih d (h.2 d hd)
      exact ⟨by simpa [PyData.canLay0] using h1, Nat.succ_le_succ h2⟩
    | tuple ds =>
      obtain ⟨h1, h2⟩ := all n ds fun d hd => ih d (h.2 d hd)
      exact ⟨by simpa [PyData.canLay0] using h1, Nat.succ_le_succ h2⟩
    | dict _ => exact h.elim
theorem shaped_nest {n : Nat} {d : PyData} (h : Nest n d) (hn : n ≤ 64) : SeqAt.shaped d = true := by
  obtain ⟨h1, h2⟩ := lay_nest n d h
  unfold SeqAt.shaped
  rw [h1, decide_eq_true (Nat.le_trans h2 hn)]
  rfl
theorem eqv_nest {n : Nat} {d : PyData} (h : Nest n d) : PyData.eqv d d = true := SeqAt.eqv_refl d (lay_nest n d h).1
theorem nest_row {row : List Mv} (h : row.length ≤ 1000) : Nest 2 (rowD row) := by
  refine ⟨by rw [List.length_map]; exact h, fun d hd => ?_⟩
  obtain ⟨m, _, rfl⟩ := List.mem_map.mp hd
  refine ⟨by show 2 ≤ 1000; decide, fun x hx => ?_⟩
  simp at hx
  rcases hx with rfl | rfl <;> trivial
theorem nest_pairs {l : List (Int × Int)} (h : l.length ≤ 1000) : Nest 2 (.list (l.map ppD)) := by
  refine ⟨by rw [List.length_map]; exact h, fun d hd => ?_⟩
  obtain ⟨m, _, rfl⟩ := List.mem_map.mp hd
  refine ⟨by show 2 ≤ 1000; decide, fun x hx => ?_⟩
  simp at hx
  rcases hx with rfl | rfl <;> trivial
/-! ### PAIRS -/
structure PairsK (K : PySem.W.Frag) (aP p0 p1 p2 p3 : Addr) : Prop where
  ty : ∃ o, K.lookup aP = some o ∧ o.cls = .type "tuple" ∧ o.dict = none
  all : ∀ H, SqT K H aP [.ref p0, .ref p1, .ref p2, .ref p3]
  q0 : ∀ H, SqT K H p0 [.int 0, .int 0]
  q1 : ∀ H, SqT K H p1 [.int 0, .int 1]
  q2 : ∀ H, SqT K H p2 [.int 1, .int 1]
  q3 : ∀ H, SqT K H p3 [.int 1, .int 0]
theorem PairsK.at {K : PySem.W.Frag} {aP p0 p1 p2 p3 : Addr} (k : PairsK K aP p0 p1 p2 p3) (z : Int) : ∃ p, atI [V.ref p0, .ref p1, .ref p2, .ref p3] (z % 4) = some (.ref p) ∧ ∀ H, Dp K H (.ref p) (ppD (pr z)) := by
  unfold pr
  rcases mod4 z with h | h | h | h <;> rw [h]
  · exact ⟨p0, rfl, fun H => .tup (k.q0 H) (dpa_ii 0 0)⟩
  · exact ⟨p1, rfl, fun H => .tup (k.q1 H) (dpa_ii 0 1)⟩
  · exact ⟨p2, rfl, fun H => .tup (k.q2 H) (dpa_ii 1 1)⟩
  · exact ⟨p3, rfl, fun H => .tup (k.q3 H) (dpa_ii 1 0)⟩
theorem knT_of {K : PySem.W.Frag} {aP : Addr} {oc : Value} {od : Option Addr} {its : Array Value} {n : Nat} {sl : Array (Option Value)} {xs : List V} (h : K.lookup aP = some ⟨oc, od, .seq its n, sl⟩) (c : oc = .type "tuple") (z : its.size ≤ sizeLine) (r : Vals xs its.toList) (H : Hp) : SqT K H aP xs :=
  .inr ⟨_, its, n, h, c, rfl, z, r⟩
/-! ### counters -/
/-- what a counter holds: pairs by one of their places -/
structure CS where
  same : Int
  kept : Int
  met : Option Int
  many : Int
  total : Int
  lost : Int
def tells (z : Int) : Int := if z % 4 = 0 then 0 else if z % 4 = 1 then 1 else if z % 4 = 2 then 2 else -1
def seenAs (m : Option Int) (z : Int) : Bool := match m with
  | none => false
  | some m => decide (m % 4 = z % 4)
def manyOf (s : CS) (z : Int) : Int := if seenAs s.met z = true then s.many + 1 else 1
def lookC (s : CS) (z : Int) : CS :=
  if manyOf s z < s.same ∨ s.kept % 4 = z % 4 then { s with met := some z, many := manyOf s z }
  else if (z - s.kept) % 4 = 2 then { s with met := some z, many := manyOf s z, kept := z, lost := s.lost + 1 }
  else { s with met := some z, many := manyOf s z, kept := z, total := s.total + tells (z - s.kept) }
def saysC (s : CS) (z : Int) : Int := if manyOf s z < s.same then 0 else tells (z - s.kept)
def newC (same : Int) : CS := ⟨same, 0, none, 0, 0, 0⟩
def metD : Option Int → PyData
  | none => .none
  | some m => ppD (pr m)
theorem pr_eq {y z : Int} : pr y = pr z ↔ y % 4 = z % 4 := by
  unfold pr
  rcases mod4 y with h | h | h | h <;> rcases mod4 z with h' | h' | h' | h' <;> rw [h, h'] <;> decide
theorem eqv_pp (p q : Int × Int) : PyData.eqv (ppD p) (ppD q) = decide (p = q) := by
  obtain ⟨a, b⟩ := p
  obtain ⟨c, d⟩ := q
  have e : PyData.eqv (ppD (a, b)) (ppD (c, d)) = ((a == c) && ((b == d) && true)) := by simp only [ppD, PyData.eqv, PyData.eqvAll]
  rw [e]
  by_cases h1 : a = c
  · by_cases h2 : b = d
    · subst h1; subst h2; simp
    · have : ¬ ((a, b) = (c, d)) := fun z => h2 (congrArg Prod.snd z)
      rw [decide_eq_false this, beq_eq_false_iff_ne.mpr h2]; simp
  · have : ¬ ((a, b) = (c, d)) := fun z => h1 (congrArg Prod.fst z)
    rw [decide_eq_false this, beq_eq_false_iff_ne.mpr h1]; simp
theorem shaped_pp (p : Int × Int) : SeqAt.shaped (ppD p) = true := by
  obtain ⟨a, b⟩ := p
  rfl
theorem shaped_met (m : Option Int) : SeqAt.shaped (metD m) = true := by
  cases m with
  | none => rfl
  | some m => exact shaped_pp _
theorem eqv_met (m : Option Int) (z : Int) : PyData.eqv (ppD (pr z)) (metD m) = seenAs m z := by
  cases m with
  | none => rfl
  | some m =>
    show PyData.eqv (ppD (pr z)) (ppD (pr m)) = decide (m % 4 = z % 4)
    rw [eqv_pp]
    by_cases h : m % 4 = z % 4
    · rw [decide_eq_true h, decide_eq_true (pr_eq.mpr h.symm)]
    · rw [decide_eq_false h, decide_eq_false (fun e => h (pr_eq.mp e).symm)]
theorem eqv_pr (y z : Int) : PyData.eqv (ppD (pr z)) (ppD (pr y)) = decide (y % 4 = z % 4) := eqv_met (some y) z
def pairsD : List PyData := [ppD (pr 0), ppD (pr 1), ppD (pr 2), ppD (pr 3)]
theorem PairsK.dp {K : PySem.W.Frag} {aP p0 p1 p2 p3 : Addr} (k : PairsK K aP p0 p1 p2 p3) (H : Hp) : Dp K H (.ref aP) (.tuple pairsD) :=
  .tup (k.all H) (.cons (.tup (k.q0 H) (dpa_ii 0 0)) (.cons (.tup (k.q1 H) (dpa_ii 0 1)) (.cons (.tup (k.q2 H) (dpa_ii 1 1)) (.cons (.tup (k.q3 H) (dpa_ii 1 0)) .nil))))
theorem pairs_index (z : Int) : ∃ j : Nat, (j : Int) = z % 4 ∧ pairsD[j]? = some (ppD (pr z)) ∧ ∀ (m : Nat) (z' : PyData), m < j → pairsD[m]? = some z' → PyData.eqv z' (ppD (pr z)) = false := by
  have hp : ∀ y, pr y = pr (y % 4) := fun y => pr_eq.mpr (by omega)
  have hz := mod4 z
  refine ⟨(z % 4).toNat, by omega, ?_, ?_⟩
  · rw [hp z]
    rcases hz with h | h | h | h <;> rw [h] <;> rfl
  · intro m z' hm hz'
    have hq : pairsD[m]? = some (ppD (pr m)) := by
      have : m = 0 ∨ m = 1 ∨ m = 2 ∨ m = 3 := by omega
      rcases this with rfl | rfl | rfl | rfl <;> rfl
    rw [hq] at hz'
    cases hz'
    rw [eqv_pr]
    exact decide_eq_false (by omega)
/-- the counter at p, p among the hidden places -/
def CtrAt (K : PySem.W.Frag) (C : Addr) (ps : List Addr) (H : Hp) (p : Addr) (s : CS) : Prop :=
  ∃ dx kv mv, H p = some (.ins C dx [("same", .int s.same), ("kept", kv), ("met", mv), ("many", .int s.many), ("total", .int s.total), ("lost", .int s.lost)]) ∧ Dp K (Fz ps H) kv (ppD (pr s.kept)) ∧ Dp K (Fz ps H) mv (metD s.met)
theorem CtrAt.frm {K : PySem.W.Frag} {C : Addr} {ps qs : List Addr} {H H' : Hp} {p : Addr} {s : CS} (h : CtrAt K C ps H p s) (e : Same (Fz ps H) (Fz qs H')) (hp : ∀ o, H p = some o → H' p = some o) : CtrAt K C qs H' p s := by
  obtain ⟨dx, kv, mv, h1, h2, h3⟩ := h
  exact ⟨dx, kv, mv, hp _ h1, dp_same e h2, dp_same e h3⟩
/-- a new counter -/
def NewAt (K : PySem.W.Frag) (C : Addr) (H : Hp) (p : Addr) (s : Int) : Prop :=
  ∃ dx kv, H p = some (.ins C dx [("same", .int s), ("kept", kv), ("met", .non), ("many", .int 0), ("total", .int 0), ("lost", .int 0)]) ∧ ∀ H', Dp K H' kv (ppD (pr 0))
theorem NewAt.ctr {K : PySem.W.Frag} {C : Addr} {ps : List Addr} {H : Hp} {p : Addr} {s : Int} (h : NewAt K C H p s) : CtrAt K C ps H p (newC s) := by
  obtain ⟨dx, kv, h1, h2⟩ := h
  exact ⟨dx, kv, .non, h1, h2 _, .non⟩
theorem NewAt.mono {K : PySem.W.Frag} {C : Addr} {H H' : Hp} {p : Addr} {s : Int} (h : NewAt K C H p s) (e : ∀ o, H p = some o → H' p = some o) : NewAt K C H' p s := by
  obtain ⟨dx, kv, h1, h2⟩ := h
  exact ⟨dx, kv, e _ h1, h2⟩
theorem NewAt.live {K : PySem.W.Frag} {C : Addr} {H : Hp} {p : Addr} {s : Int} (h : NewAt K C H p s) : ∃ o, H p = some o := by
  obtain ⟨dx, kv, h1, h2⟩ := h
  exact ⟨_, h1⟩
/-- the class Counter, its attributes -/
structure CtrK (K : PySem.W.Frag) (C : Addr) : Prop where
  cl : Cls K C
  same : NoAttr K C "same"
  kept : NoAttr K C "kept"
  met : NoAttr K C "met"
  many : NoAttr K C "many"
  total : NoAttr K C "total"
  lost : NoAttr K C "lost"
def spNeedReader (K : PySem.W.Frag) : Sp := fun vs H Q _ => ∃ (v : V) (a s : Int), vs = [v] ∧ Dp K H v (knD a s) ∧ 1 ≤ a ∧ a ≤ 6 ∧ 1 ≤ s ∧ s ≤ 3 ∧ Q .non H
def spCtr (K : PySem.W.Frag) (C : Addr) : Sp := fun vs H Q _ => ∃ (x dx : Addr) (v : V) (a s : Int), vs = [.ref x, v] ∧ H x = some (.ins C dx []) ∧ Dp K H v (knD a s) ∧ 1 ≤ a ∧ a ≤ 6 ∧ 1 ≤ s ∧ s ≤ 3 ∧
  ∀ H', Frm [x] H H' → NewAt K C H' x s → Q .non H'
def spLook (K : PySem.W.Frag) (C : Addr) : Sp := fun vs H Q _ => ∃ (p : Addr) (v : V) (s : CS) (z : Int) (ps : List Addr), vs = [.ref p, v] ∧ CtrAt K C ps H p s ∧ p ∈ ps ∧ Dp K (Fz ps H) v (ppD (pr z)) ∧
  ∀ H', Frm [p] H H' → CtrAt K C ps H' p (lookC s z) → Q (.int (saysC s z)) H'
def spCount (K : PySem.W.Frag) (C : Addr) : Sp := fun vs H Q _ => ∃ (p : Addr) (s : CS) (ps : List Addr), vs = [.ref p] ∧ CtrAt K C ps H p s ∧ Q (.int s.total) H
def spMissed (K : PySem.W.Frag) (C : Addr) : Sp := fun vs H Q _ => ∃ (p : Addr) (s : CS) (ps : List Addr), vs = [.ref p] ∧ CtrAt K C ps H p s ∧ Q (.int s.lost) H
section
variable {P : Program} {w : World} {K : PySem.W.Frag} {mg : Str → Option Value} {base : Heap}
theorem sc_need_reader : FnScope ["reader", "apart", "same"] ["reader"] (defScope (top 7)) := ⟨rfl, rfl, rfl, by decide +kernel, rfl, by decide +kernel, by decide +kernel⟩
theorem ok_need_reader {f : Addr} {fd : FuncData} {t1 t2 : Tok} (F : Fun K "need_reader" "need_reader" (top 7) f fd) (g_MOST_APART : mg "MOST_APART" = some (.int 6 t1)) (g_MOST_SAME : mg "MOST_SAME" = some (.int 3 t2)) : FnOk P w K mg base CX0 1 f fd ["reader"] (spNeedReader K) := by
  have sc := sc_need_reader
  refine F.ok sc (fun vs H Q E h => ?_) (fun cdv A outer s H vs Q E hr h => ?_)
  · obtain ⟨v, g, b, rfl, _⟩ := h
    rfl
  · obtain ⟨v, g, b, rfl, hd, g1, g6, b0, b1, k⟩ := h
    obtain ⟨a, rfl, hT⟩ := dp_ii hd
    refine ⟨_, (pss_cons (ps_asg (pv 0) (pg_tup rfl (pgs_cons (pg_name (i := 1) sc.nd rfl (Or.inl rfl)) (pgs_cons (pg_name (i := 2) sc.nd rfl (Or.inl rfl)) pgs_nil))))
(pss_cons (ps_if (pt_not (pt_chain op_le op_le pe_int (pv 1) (pe_glob (v := .int 6) rfl g_MOST_APART ⟨_, rfl⟩)))
(pss_one ps_never)
pss_nil)
(pss_one (ps_if (pt_not (pt_chain op_le op_le pe_int (pv 2) (pe_glob (v := .int 3) rfl g_MOST_SAME ⟨_, rfl⟩)))
(pss_one ps_never)
pss_nil)))), ?_⟩
    refine ⟨_, rfl, a, _, rfl, hT, rfl, _, _, rfl, _, _, rfl, rfl, ?_⟩
    refine ⟨_, rfl, _, _, rfl, rfl, _, rfl, ?_⟩
    rw [decide_eq_true g1]
    refine iteT ⟨_, _, rfl, rfl, _, rfl, ?_⟩
    rw [decide_eq_true g6]
    refine iteF ?_
    refine ⟨_, rfl, _, _, rfl, rfl, _, rfl, ?_⟩
    rw [decide_eq_true b0]
    refine iteT ⟨_, _, rfl, rfl, _, rfl, ?_⟩
    rw [decide_eq_true b1]
    exact iteF k
theorem sc_cinit : FnScope ["self", "reader"] ["self", "reader"] (defScope (inClass (top 10) 0)) := ⟨rfl, rfl, rfl, by decide +kernel, rfl, by decide +kernel, by decide +kernel⟩
theorem ok_cinit {f C a_PAIRS p0 p1 p2 p3 : Addr} {fd : FuncData} (F : Fun K "__init__" "Counter.__init__" (inClass (top 10) 0) f fd) (ck : CtrK K C) (g_PAIRS : mg "PAIRS" = some (.ref a_PAIRS)) (pk : PairsK K a_PAIRS p0 p1 p2 p3)
    (c_need_reader : Cal P w K mg base 1 "need_reader" ["reader"] (spNeedReader K)) : FnOk P w K mg base CX0 2 f fd ["self", "reader"] (spCtr K C) := by
  have sc := sc_cinit
  refine F.ok sc (fun vs H Q E h => ?_) (fun cdv A outer s H vs Q E hr h => ?_)
  · obtain ⟨x, dx, v, a, s, rfl, _⟩ := h
    rfl
  · obtain ⟨x, dx, v, a, sm, rfl, hx, hv, a1, a6, s1, s3, k⟩ := h
    obtain ⟨q, rfl, hT⟩ := dp_ii hv
    refine ⟨_, (pss_cons (ps_expr (pe_cal c_need_reader (hr.mono (by first | decide | omega)) (pa_cons (pv 1) pa_nil)))
(pss_cons (ps_fld (pv 0) (pe_ix (r := rIxT K) ix_tup (pv 1) pe_int (fun _ _ => rfl)) rfl)
(pss_cons (ps_fld (pv 0) (pe_ix (r := rIxT K) ix_tup (pe_glob (v := .ref a_PAIRS) rfl g_PAIRS rfl) pe_int (fun _ _ => rfl)) rfl)
(pss_cons (ps_fld (pv 0) pe_non rfl)
(pss_cons (ps_fld (pv 0) pe_int rfl)
(pss_cons (ps_fld (pv 0) pe_int rfl)
(pss_one (ps_fld (pv 0) pe_int rfl)))))))), ?_⟩
    refine ⟨_, rfl, _, a, sm, rfl, hv, a1, a6, s1, s3, ?_⟩
    refine ⟨_, rfl, q, _, _, _, rfl, rfl, hT, at_of (j := 1) rfl rfl, _, rfl, x, C, dx, _, rfl, hx, ck.cl, ck.same, few 0 rfl, ?_⟩
    refine ⟨a_PAIRS, _, _, .ref p0, rfl, rfl, pk.all _, at_of (j := 0) rfl rfl, _, rfl, x, C, dx, _, rfl, upd_same, ck.cl, ck.kept, few 1 rfl, ?_⟩
    refine ⟨_, rfl, x, C, dx, _, rfl, upd_same, ck.cl, ck.met, few 2 rfl, ?_⟩
    refine ⟨_, rfl, x, C, dx, _, rfl, upd_same, ck.cl, ck.many, few 3 rfl, ?_⟩
    refine ⟨_, rfl, x, C, dx, _, rfl, upd_same, ck.cl, ck.total, few 4 rfl, ?_⟩
    refine ⟨_, rfl, x, C, dx, _, rfl, upd_same, ck.cl, ck.lost, few 5 rfl, ?_⟩
    simp only [upd_upd]
    exact k _ (Frm.set (by simp)) ⟨dx, .ref p0, upd_same, fun _ => .tup (pk.q0 _) (dpa_ii 0 0)⟩
theorem sc_look : FnScope ["self", "pair", "by", "told"] ["self", "pair"] (defScope (inClass (top 10) 1)) := ⟨rfl, rfl, rfl, by decide +kernel, rfl, by decide +kernel, by decide +kernel⟩
theorem ok_look {f C a_PAIRS p0 p1 p2 p3 : Addr} {fd : FuncData} {t1 : Tok} (F : Fun K "look" "Counter.look" (inClass (top 10) 1) f fd) (ck : CtrK K C) (g_PAIRS : mg "PAIRS" = some (.ref a_PAIRS)) (pk : PairsK K a_PAIRS p0 p1 p2 p3) (g_MISSED : mg "MISSED" = some (.int 2 t1)) :
    FnOk P w K mg base CX0 1 f fd ["self", "pair"] (spLook K C) := by
  have sc := sc_look
  refine F.ok sc (fun vs H Q E h => ?_) (fun cdv A outer s H vs Q E hr h => ?_)
  · obtain ⟨x, v, s, z, ps, rfl, _⟩ := h
    rfl
  · obtain ⟨p, v, cs, z, ps, rfl, hc, pps, hv, k⟩ := h
    obtain ⟨dx, kv, mv, hp, hk, hm⟩ := hc
    refine ⟨_, (pss_cons (ps_fld (pv 0) (pe_ifExp (pt_cmpR (r := rEqD K) (op_eqD hr.units) (pv 1) (pe_fldK (K := K) rfl (pv 0)) (nomark _)) (pe_op op_add (pe_fldK (K := K) rfl (pv 0)) pe_int) pe_int) rfl)
(pss_cons (ps_fld (pv 0) (pv 1) rfl)
(pss_cons (ps_if (PW.pt (pw_or (pt_cmpR op_lt (pe_fldK (K := K) rfl (pv 0)) (pe_fldK (K := K) rfl (pv 0)) (nomark _)) (pw_or1 (pt_cmpR (r := rEqD K) (op_eqD hr.units) (pv 1) (pe_fldK (K := K) rfl (pv 0)) (nomark _)))))
(pss_one (ps_ret pe_int))
pss_nil)
(pss_cons (ps_set (i := 2) sc.nd rfl (Or.inl rfl) (pe_op op_mod (pe_op op_sub (pe_bm PySem.F.plainAttrs_tuple PySem.F.slot_tuple_index PySem.F.type_tuple_index (mt_tup_indexD (hu65 hr)) (pe_glob (v := .ref a_PAIRS) rfl g_PAIRS rfl) (pa_cons (pv 1) pa_nil)) (pe_bm PySem.F.plainAttrs_tuple PySem.F.slot_tuple_index PySem.F.type_tuple_index (mt_tup_indexD (hu65 hr)) (pe_glob (v := .ref a_PAIRS) rfl g_PAIRS rfl) (pa_cons (pe_fldK (K := K) rfl (pv 0)) pa_nil))) pe_int))
(pss_cons (ps_fld (pv 0) (pv 1) rfl)
(pss_cons (ps_if (pt_cmpR op_eq (pv 2) pe_int (nomark _))
(pss_cons (ps_fld (pv 0) (pe_op op_add (pe_fldK (K := K) rfl (pv 0)) pe_int) rfl)
(pss_one (ps_ret (pe_glob (v := .int 2) rfl g_MISSED ⟨_, rfl⟩))))
pss_nil)
(pss_cons (ps_set (i := 3) sc.nd rfl (Or.inl rfl) (pe_ifExp (pt_cmpR op_eq (pv 2) pe_int (nomark _)) (pv 2) (pe_un un_neg pe_int)))
(pss_cons (ps_fld (pv 0) (pe_op op_add (pe_fldK (K := K) rfl (pv 0)) (pv 3)) rfl)
(pss_one (ps_ret (pv 3))))))))))), ?_⟩
    have hmany : ∀ {Q : VK}, Q (.int (manyOf cs z)) H → tIf (tTest (tOp (rEqD K) (tVar 1) (tFld K (tVar 0) "met"))) (tOp rAdd (tFld K (tVar 0) "many") (tC (.int 1))) (tC (.int 1)) [some (.ref p), some v, none, none] H Q := by
      intro Q hQ
      refine ⟨_, rfl, _, rfl, p, C, dx, _, _, rfl, hp, ck.cl, ck.met, rfl, _, _, dp_fz hv, dp_fz hm, shaped_pp _, shaped_met _, _, rfl, ?_⟩
      rw [eqv_met]
      unfold manyOf at hQ
      refine iteB (fun e => ?_) (fun e => ?_)
      · rw [if_pos e] at hQ
        exact ⟨_, rfl, p, C, dx, _, _, rfl, hp, ck.cl, ck.many, rfl, _, _, rfl, rfl, hQ⟩
      · rw [if_neg (by rw [e]; decide)] at hQ
        exact hQ
    refine hmany ⟨_, rfl, p, C, dx, _, rfl, hp, ck.cl, ck.many, few 6 rfl, ?_⟩
    refine ⟨_, rfl, _, rfl, p, C, dx, _, rfl, upd_same, ck.cl, ck.met, few 6 rfl, ?_⟩
    rw [upd_upd]
    refine ⟨_, rfl, p, C, dx, _, _, rfl, upd_same, ck.cl, ck.many, rfl, _, rfl, p, C, dx, _, _, rfl, upd_same, ck.cl, ck.same, rfl, _, _, rfl, rfl, _, rfl, ?_⟩
    have fin : ∀ (kv' : V) (kz t l : Int), Dp K (Fz ps H) kv' (ppD (pr kz)) → lookC cs z = ⟨cs.same, kz, some z, manyOf cs z, t, l⟩ →
        Q (.int (saysC cs z)) (upd H p (.ins C dx [("same", .int cs.same), ("kept", kv'), ("met", v), ("many", .int (manyOf cs z)), ("total", .int t), ("lost", .int l)])) := by
      intro kv' kz t l h e
      refine k _ (Frm.set (by simp)) ?_
      rw [e]
      exact ⟨dx, kv', v, upd_same, by rw [fz_set pps]; exact h, by rw [fz_set pps]; exact hv⟩
    have up : ∀ {o : HO} {v' : V} {d : PyData}, Dp K (Fz ps H) v' d → Dp K (upd H p o) v' d := fun {o v' d} h => dp_fz (ps := ps) (by rw [fz_set pps]; exact h)
    have ret0 : (manyOf cs z < cs.same ∨ cs.kept % 4 = z % 4) → Q (.int 0) (upd H p (.ins C dx [("same", .int cs.same), ("kept", kv), ("met", v), ("many", .int (manyOf cs z)), ("total", .int cs.total), ("lost", .int cs.lost)])) := by
      intro c
      have q := fin kv cs.kept cs.total cs.lost hk (if_pos c)
      have e : saysC cs z = 0 := by
        unfold saysC
        by_cases c1 : manyOf cs z < cs.same
        · exact if_pos c1
        · have c2 := c.resolve_left c1
          rw [if_neg c1]
          exact if_pos (by omega)
      rw [e] at q
      exact q
    refine iteD (fun c1 => ret0 (.inl c1)) (fun c1 => ?_)
    refine ⟨_, rfl, _, rfl, p, C, dx, _, _, rfl, upd_same, ck.cl, ck.kept, rfl, _, _, up hv, up hk, shaped_pp _, shaped_pp _, _, rfl, ?_⟩
    rw [eqv_pr]
    refine iteD (fun c2 => ret0 (.inr c2)) (fun c2 => ?_)
    obtain ⟨j1, e1, h1, n1⟩ := pairs_index z
    obtain ⟨j2, e2, h2, n2⟩ := pairs_index cs.kept
    refine ⟨.inr (.inl ⟨rfl, pk.ty⟩), _, rfl, a_PAIRS, _, _, _, j1, _, rfl, rfl, pk.dp _, up hv, rfl, shaped_pp _, h1, (by rw [eqv_pr]; exact decide_eq_true rfl), n1, ?_⟩
    refine ⟨.inr (.inl ⟨rfl, pk.ty⟩), _, rfl, p, C, dx, _, _, rfl, upd_same, ck.cl, ck.kept, rfl, a_PAIRS, _, _, _, j2, _, rfl, rfl, pk.dp _, up hk, rfl, shaped_pp _, h2, (by rw [eqv_pr]; exact decide_eq_true rfl), n2, ?_⟩
    refine ⟨_, _, rfl, rfl, _, _, rfl, rfl, (by show (0 : Int) < 4; decide), ?_⟩
    have e3 : ((j1 : Int) - (j2 : Int)) % 4 = (z - cs.kept) % 4 := by omega
    refine ⟨_, rfl, _, rfl, p, C, dx, _, rfl, upd_same, ck.cl, ck.kept, few 6 rfl, ?_⟩
    rw [upd_upd]
    have nn : ¬ (manyOf cs z < cs.same ∨ cs.kept % 4 = z % 4) := fun h => h.elim c1 c2
    have says : saysC cs z = tells (z - cs.kept) := if_neg c1
    refine ⟨_, rfl, rfl, _, rfl, ?_⟩
    by_cases c3 : ((j1 : Int) - (j2 : Int)) % 4 = 2
    · refine iteDT (vint_eq c3) ?_
      rw [e3] at c3
      refine ⟨_, rfl, p, C, dx, _, _, rfl, upd_same, ck.cl, ck.lost, rfl, _, _, rfl, rfl, _, rfl, p, C, dx, _, rfl, upd_same, ck.cl, ck.lost, few 6 rfl, ?_⟩
      rw [upd_upd]
      have q := fin v z cs.total (cs.lost + 1) hv (by unfold lookC; rw [if_neg nn, if_pos c3])
      rw [says, show tells (z - cs.kept) = 2 by unfold tells; rw [c3]; decide] at q
      exact q
    · refine iteDF (vint_ne c3) ?_
      refine ⟨_, rfl, rfl, _, rfl, ?_⟩
      by_cases c4 : ((j1 : Int) - (j2 : Int)) % 4 = 1
      · have tl : tells (z - cs.kept) = ((j1 : Int) - (j2 : Int)) % 4 := by unfold tells; rw [← e3, c4]; decide
        have q := fin v z (cs.total + tells (z - cs.kept)) cs.lost hv (by unfold lookC; rw [if_neg nn, if_neg (by rw [← e3]; exact c3)])
        rw [says, tl] at q
        refine iteDT (vint_eq c4) ⟨_, rfl, _, rfl, p, C, dx, _, _, rfl, upd_same, ck.cl, ck.total, rfl, _, rfl, _, _, rfl, rfl, _, rfl, p, C, dx, _, rfl, upd_same, ck.cl, ck.total, few 6 rfl, _, rfl, ?_⟩
        rw [upd_upd]
        exact q
      · have c5 : (z - cs.kept) % 4 = 3 := by omega
        have q := fin v z (cs.total + tells (z - cs.kept)) cs.lost hv (by unfold lookC; rw [if_neg nn, if_neg (by rw [← e3]; exact c3)])
        rw [says, show tells (z - cs.kept) = -1 by unfold tells; rw [c5]; decide] at q
        refine iteDF (vint_ne c4) ⟨_, rfl, _, rfl, p, C, dx, _, _, rfl, upd_same, ck.cl, ck.total, rfl, _, rfl, _, _, rfl, rfl, _, rfl, p, C, dx, _, rfl, upd_same, ck.cl, ck.total, few 6 rfl, _, rfl, ?_⟩
        rw [upd_upd]
        exact q
theorem sc_count : FnScope ["self"] ["self"] (defScope (inClass (top 10) 2)) := ⟨rfl, rfl, rfl, by decide +kernel, rfl, by decide +kernel, by decide +kernel⟩
theorem ok_count {f C : Addr} {fd : FuncData} (F : Fun K "count" "Counter.count" (inClass (top 10) 2) f fd) (ck : CtrK K C) : FnOk P w K mg base CX0 1 f fd ["self"] (spCount K C) := by
  have sc := sc_count
  refine F.ok sc (fun vs H Q E h => ?_) (fun cdv A outer s H vs Q E hr h => ?_)
  · obtain ⟨x, s, ps, rfl, _⟩ := h
    rfl
  · obtain ⟨p, cs, ps, rfl, ⟨dx, kv, mv, hp, _, _⟩, k⟩ := h
    exact ⟨_, (pss_one (ps_ret (pe_fldK (K := K) rfl (pv 0)))), _, rfl, p, C, dx, _, _, rfl, hp, ck.cl, ck.total, rfl, k⟩
theorem sc_missed : FnScope ["self"] ["self"] (defScope (inClass (top 10) 3)) := ⟨rfl, rfl, rfl, by decide +kernel, rfl, by decide +kernel, by decide +kernel⟩
theorem ok_missed {f C : Addr} {fd : FuncData} (F : Fun K "missed" "Counter.missed" (inClass (top 10) 3) f fd) (ck : CtrK K C) : FnOk P w K mg base CX0 1 f fd ["self"] (spMissed K C) := by
  have sc := sc_missed
  refine F.ok sc (fun vs H Q E h => ?_) (fun cdv A outer s H vs Q E hr h => ?_)
  · obtain ⟨x, s, ps, rfl, _⟩ := h
    rfl
  · obtain ⟨p, cs, ps, rfl, ⟨dx, kv, mv, hp, _, _⟩, k⟩ := h
    exact ⟨_, (pss_one (ps_ret (pe_fldK (K := K) rfl (pv 0)))), _, rfl, p, C, dx, _, _, rfl, hp, ck.cl, ck.lost, rfl, k⟩
end
/-! ### a reader -/
def spReader : Sp := fun vs H Q _ => ∃ (d : Addr) (ns : List Int), vs = [.ref d] ∧ H d = some (.lst (ns.map V.int)) ∧ Dice ns ∧
  ∀ (a s : Int) (ms : List Int) (p : Addr), 1 ≤ a → a ≤ 6 → 1 ≤ s → s ≤ 3 → Dice ms → H p = none → Q (.ref p) (upd (upd H d (.lst (ms.map V.int))) p (.tup [.int a, .int s]))
section
variable {P : Program} {w : World} {K : PySem.W.Frag} {mg : Str → Option Value} {base : Heap}
theorem sc_reader : FnScope ["_law_d"] ["_law_d"] (defScope (top 15)) := ⟨rfl, rfl, rfl, by decide +kernel, rfl, by decide +kernel, by decide +kernel⟩
theorem ok_reader {f : Addr} {fd : FuncData} (F : Fun K "_law_reader" "_law_reader" (top 15) f fd) (c__law_off : Cal P w K mg base 1 "_law_off" ["_law_d", "_law_most"] spOff) : FnOk P w K mg base CX0 2 f fd ["_law_d"] spReader := by
  have sc := sc_reader
  refine F.ok sc (fun vs H Q E h => ?_) (fun cdv A outer s H vs Q E hr h => ?_)
  · obtain ⟨d, ns, rfl, _⟩ := h
    rfl
  · obtain ⟨d, ns, rfl, hd, hD, k⟩ := h
    refine ⟨_, (pss_one (ps_ret (pe_tup (pa_cons (pe_op op_add pe_int (pe_cal c__law_off (hr.mono (by first | decide | omega)) (pa_cons (pv 0) (pa_cons pe_int pa_nil)))) (pa_cons (pe_op op_add pe_int (pe_cal c__law_off (hr.mono (by first | decide | omega)) (pa_cons (pv 0) (pa_cons pe_int pa_nil)))) pa_nil))))), ?_⟩
    refine ⟨_, rfl, d, ns, 6, rfl, hd, hD, by decide, by decide, fun v ms v0 v1 hD1 => ?_⟩
    refine ⟨_, _, rfl, rfl, _, rfl, d, ms, 3, rfl, upd_same, hD1, by decide, by decide, fun u ms2 u0 u1 hD2 => ?_⟩
    refine ⟨_, _, rfl, rfl, (by show 2 ≤ sizeLine; decide), fun p hp => ?_⟩
    rw [upd_upd] at hp ⊢
    exact k (1 + v) (1 + u) ms2 p (by omega) (by omega) (by omega) (by omega) hD2 (by
      have n : p ≠ d := fun z => by rw [z, upd_same] at hp; cases hp
      rw [upd_ne n] at hp; exact hp)
end
/-! ### what a look tells -/
def spTells : Sp := fun vs H Q _ => ∃ z : Int, vs = [.int z] ∧ ∀ H', Same H H' → Q (.int (tells z)) H'
section
variable {P : Program} {w : World} {K : PySem.W.Frag} {mg : Str → Option Value} {base : Heap}
theorem sc_tells : FnScope ["_law_by"] ["_law_by"] (defScope (top 17)) := ⟨rfl, rfl, rfl, by decide +kernel, rfl, by decide +kernel, by decide +kernel⟩
theorem ok_tells {f : Addr} {fd : FuncData} (F : Fun K "_law_tells" "_law_tells" (top 17) f fd) : FnOk P w K mg base CX0 1 f fd ["_law_by"] spTells := by
  have sc := sc_tells
  refine F.ok sc (fun vs H Q E h => ?_) (fun cdv A outer s H vs Q E hr h => ?_)
  · obtain ⟨z, rfl, _⟩ := h
    rfl
  · obtain ⟨z, rfl, k⟩ := h
    refine ⟨_, (pss_one (ps_ret (pe_ix (r := rIxL K) ix_list (pe_lst (pa_cons pe_int (pa_cons pe_int (pa_cons pe_int (pa_cons (pe_un un_neg pe_int) pa_nil))))) (pe_op op_mod (pv 0) pe_int) (fun _ _ => rfl)))), ?_⟩
    refine ⟨_, rfl, (by show 4 ≤ sizeLine; decide), fun l hl => ?_⟩
    refine ⟨_, rfl, _, _, rfl, rfl, (by show (0 : Int) < 4; decide), l, _, _, .int (tells z), rfl, rfl, SqL.of upd_same, ?_, k _ (same_new hl)⟩
    show atI [V.int 0, V.int 1, V.int 2, V.int (-1)] (z % 4) = some (.int (tells z))
    unfold tells
    rcases mod4 z with h | h | h | h <;> rw [h] <;> decide
end
/-! ### the last looks, all alike by 4 -/
def LastSame (k : Nat) (l : List Int) : Prop := k ≤ l.length ∧ ∀ x ∈ l.drop (l.length - k), x % 4 = (l.getLast?.getD 0) % 4
instance (k : Nat) (l : List Int) : Decidable (LastSame k l) := by unfold LastSame; infer_instance
/-- a counter that saw these places, in order -/
structure Saw (l : List Int) (s : CS) : Prop where
  met : s.met = l.getLast?
  many : ∀ k : Nat, 1 ≤ k → ((k : Int) ≤ s.many ↔ LastSame k l)
theorem saw_new (n : Int) : Saw [] (newC n) := ⟨rfl, fun k hk => by
  constructor
  · intro h
    have : (k : Int) ≤ 0 := h
    omega
  · intro h
    have := h.1
    simp at this
    omega⟩
theorem lastSame_snoc {l : List Int} {z : Int} {k : Nat} (hk : 1 ≤ k) : LastSame (k + 1) (l ++ [z]) ↔ LastSame k l ∧ seenAs l.getLast? z = true := by
  unfold LastSame
  rw [List.length_append, List.length_singleton, show l.length + 1 - (k + 1) = l.length - k by omega]
  cases e : l.getLast? with
  | none =>
    have : l = [] := List.getLast?_eq_none_iff.mp e
    subst this
    simp [seenAs]
    omega
  | some y =>
    have hy : y ∈ l.drop (l.length - k) ∨ l.length < k := by
      by_cases h : l.length < k
      · exact .inr h
      · refine .inl ?_
        have hne : l ≠ [] := fun z => by rw [z] at e; cases e
        have hpos := List.length_pos_iff.mpr hne
        have h2 : (l.drop (l.length - k)).getLast? = some y := by
          rw [List.getLast?_drop, if_neg (by omega)]
          exact e
        exact List.mem_of_getLast? h2
    rw [List.drop_append_of_le_length (by omega), List.getLast?_append]
    simp only [List.getLast?_singleton, Option.some_or, Option.getD_some, List.mem_append, List.mem_singleton, seenAs, decide_eq_true_eq]
    constructor
    · rintro ⟨h1, h2⟩
      have hl : k ≤ l.length := by omega
      have hyz := h2 y (.inl (hy.resolve_right (by omega)))
      exact ⟨⟨hl, fun x hx => (h2 x (.inl hx)).trans hyz.symm⟩, hyz⟩
    · rintro ⟨⟨h1, h2⟩, h3⟩
      refine ⟨by omega, fun x hx => ?_⟩
      rcases hx with hx | rfl
      · exact (h2 x hx).trans h3
      · rfl
theorem lastSame_one {l : List Int} {z : Int} : LastSame 1 (l ++ [z]) := by
  unfold LastSame
  rw [List.length_append, List.length_singleton, Nat.add_sub_cancel]
  refine ⟨by omega, fun x hx => ?_⟩
  simp at hx
  simp [hx]
theorem Saw.many_snoc {l : List Int} {s : CS} (h : Saw l s) (z : Int) (k : Nat) (hk : 1 ≤ k) : (k : Int) ≤ manyOf s z ↔ LastSame k (l ++ [z]) := by
  unfold manyOf
  rw [h.met]
  match k, hk with
  | 1, _ =>
    refine ⟨fun _ => lastSame_one, fun _ => ?_⟩
    by_cases c : seenAs l.getLast? z = true
    · rw [if_pos c]
      have : 1 ≤ l.length := by
        cases l with
        | nil => simp [seenAs] at c
        | cons _ _ => simp
      have h1 := (h.many 1 (Nat.le_refl _)).mpr (by
        obtain ⟨l', y, e⟩ : ∃ l' y, l = l' ++ [y] := ⟨l.dropLast, l.getLast (by intro z; rw [z] at this; simp at this), (List.dropLast_concat_getLast _).symm⟩
        rw [e]; exact lastSame_one)
      omega
    · rw [if_neg c]; omega
  | k + 2, _ =>
    rw [lastSame_snoc (by omega)]
    by_cases c : seenAs l.getLast? z = true
    · rw [if_pos c, ← h.many (k + 1) (by omega)]
      constructor
      · intro q; exact ⟨by omega, c⟩
      · intro q; have := q.1; omega
    · rw [if_neg c]
      constructor
      · intro q; omega
      · intro q; exact (c q.2).elim
theorem look_met (s : CS) (z : Int) : (lookC s z).met = some z := by unfold lookC; split <;> (try split) <;> rfl
theorem look_many (s : CS) (z : Int) : (lookC s z).many = manyOf s z := by unfold lookC; split <;> (try split) <;> rfl
theorem look_same (s : CS) (z : Int) : (lookC s z).same = s.same := by unfold lookC; split <;> (try split) <;> rfl
theorem Saw.look {l : List Int} {s : CS} (h : Saw l s) (z : Int) : Saw (l ++ [z]) (lookC s z) := by
  refine ⟨by rw [look_met]; simp, fun k hk => ?_⟩
  rw [look_many]
  exact h.many_snoc z k hk
/-- what is told of the last looks -/
def toldOf (same : Nat) (l : List Int) (bel : Int) : Int := if LastSame same l then tells (l.getLast?.getD 0 - bel) else 0
theorem tells_mod {y z : Int} (h : y % 4 = z % 4) : tells y = tells z := by unfold tells; rw [h]
theorem Saw.says {l : List Int} {s : CS} (h : Saw l s) (z : Int) (k : Nat) (hk : 1 ≤ k) (hs : s.same = k) : saysC s z = toldOf k (l ++ [z]) s.kept := by
  unfold saysC toldOf
  have q := h.many_snoc z k hk
  rw [hs]
  by_cases c : LastSame k (l ++ [z])
  · rw [if_neg (by have := q.mpr c; omega), if_pos c]
    simp
  · rw [if_pos (Int.not_le.mp fun w => c (q.mp w)), if_neg c]
theorem look_next (s : CS) (z : Int) : (lookC s z).kept = (if saysC s z ≠ 0 then z else s.kept) ∧ (lookC s z).total = s.total + (if saysC s z ≠ 2 then saysC s z else 0) ∧ (lookC s z).lost = s.lost + (if saysC s z = 2 then 1 else 0) := by
  unfold lookC saysC
  by_cases c1 : manyOf s z < s.same
  · rw [if_pos (Or.inl c1), if_pos c1]; simp
  · rw [if_neg c1]
    by_cases c2 : s.kept % 4 = z % 4
    · have : tells (z - s.kept) = 0 := if_pos (by omega)
      rw [if_pos (Or.inr c2), this]; simp
    · rw [if_neg (by intro h; exact h.elim c1 c2)]
      unfold tells
      rw [if_neg (show ¬ (z - s.kept) % 4 = 0 by omega)]
      by_cases c3 : (z - s.kept) % 4 = 2
      · rw [if_pos c3, if_neg (show ¬ (z - s.kept) % 4 = 1 by omega), if_pos c3]; simp
      · rw [if_neg c3]
        by_cases c4 : (z - s.kept) % 4 = 1
        · rw [if_pos c4]; simp
        · rw [if_neg c4, if_neg c3]; simp
/-! ### slices, lists of ints as data -/
theorem cut_from {xs : List V} {i : Int} (h : 0 ≤ i) : cutV xs (some i) none = xs.drop i.toNat := by
  unfold cutV
  obtain ⟨n, rfl⟩ := Int.eq_ofNat_of_zero_le h
  rw [show (some (n : Int)) = some ((n : Nat) : Int) from rfl, HT.sIx_nat, HT.sIx_none, Int.toNat_natCast]
  by_cases q : n ≤ xs.length
  · rw [Nat.min_eq_left q, List.take_of_length_le (by rw [List.length_drop]; omega)]
  · rw [Nat.min_eq_right (by omega), Nat.sub_self, List.take_zero, List.drop_eq_nil_of_le (by omega)]
theorem cut_last {xs : List V} {i : Int} (h : 0 < i) : cutV xs (some (0 - i)) none = xs.drop (xs.length - i.toNat) := by
  unfold cutV
  have e : HT.sIx xs.length 0 (some (0 - i)) = xs.length - i.toNat := by
    show (if (0 - i) < 0 then ((0 - i) + (xs.length : Int)).toNat else _) = _
    rw [if_pos (by omega)]; omega
  rw [e, HT.sIx_none, List.take_of_length_le (by rw [List.length_drop]; omega)]
theorem cut_to {xs : List V} {i : Int} (h : 0 ≤ i) : cutV xs none (some i) = xs.take i.toNat := by
  unfold cutV
  obtain ⟨n, rfl⟩ := Int.eq_ofNat_of_zero_le h
  rw [show (some (n : Int)) = some ((n : Nat) : Int) from rfl, HT.sIx_nat, HT.sIx_none, Int.toNat_natCast, Nat.sub_zero, List.drop_zero]
  by_cases q : n ≤ xs.length
  · rw [Nat.min_eq_left q]
  · rw [Nat.min_eq_right (by omega), List.take_of_length_le (by omega), List.take_of_length_le (by omega)]
theorem cut_mid {xs : List V} {i j : Int} (h : 0 ≤ i) (hj : 0 ≤ j) : cutV xs (some i) (some j) = (xs.drop i.toNat).take (j.toNat - i.toNat) := by
  unfold cutV
  obtain ⟨n, rfl⟩ := Int.eq_ofNat_of_zero_le h
  obtain ⟨m, rfl⟩ := Int.eq_ofNat_of_zero_le hj
  rw [show (some (n : Int)) = some ((n : Nat) : Int) from rfl, show (some (m : Int)) = some ((m : Nat) : Int) from rfl, HT.sIx_nat, HT.sIx_nat, Int.toNat_natCast, Int.toNat_natCast]
  by_cases q : n ≤ xs.length
  · rw [Nat.min_eq_left q]
    by_cases q2 : m ≤ xs.length
    · rw [Nat.min_eq_left q2]
    · rw [Nat.min_eq_right (by omega), List.take_of_length_le (by rw [List.length_drop]; omega), List.take_of_length_le (by rw [List.length_drop]; omega)]
  · rw [show min n xs.length = xs.length by omega, List.drop_eq_nil_of_le (Nat.le_refl _), List.drop_eq_nil_of_le (show xs.length ≤ n by omega)]; simp
theorem nest_ints {ns : List Int} (h : ns.length ≤ 1000) : Nest 1 (.list (ns.map PyData.int)) := by
  refine ⟨by rw [List.length_map]; exact h, fun d hd => ?_⟩
  obtain ⟨m, _, rfl⟩ := List.mem_map.mp hd
  trivial
theorem eqv_nil (ds : List PyData) : PyData.eqv (.list ds) (.list []) = ds.isEmpty := by
  cases ds with
  | nil => rfl
  | cons d ds => rfl
theorem dp_ints {K : PySem.W.Frag} {H : Hp} {a : Addr} {ns : List Int} (h : SqL K H a (ns.map V.int)) : Dp K H (.ref a) (.list (ns.map PyData.int)) := .lst h (dpa_ints ns)
theorem dp_nilL {K : PySem.W.Frag} {H : Hp} {a : Addr} (h : SqL K H a []) : Dp K H (.ref a) (.list []) := .lst h .nil
/-! ### what the latest of some looks tells -/
def spTold (K : PySem.W.Frag) : Sp := fun vs H Q _ => ∃ (v : V) (l : Addr) (a s : Int) (ns : List Int) (bel : Int), vs = [v, .ref l, .int bel] ∧ Dp K H v (knD a s) ∧ 1 ≤ s ∧ s ≤ 3 ∧ H l = some (.lst (ns.map V.int)) ∧ ns.length ≤ 1000 ∧
  ∀ H', Same H H' → Q (.int (toldOf s.toNat ns bel)) H'
section
variable {P : Program} {w : World} {K : PySem.W.Frag} {mg : Str → Option Value} {base : Heap}
theorem sc_told : FnScope ["_law_reader_here", "_law_places", "_law_believed", "_law_looks", "_law_one"] ["_law_reader_here", "_law_places", "_law_believed"] (defScope (top 18)) := ⟨rfl, rfl, rfl, by decide +kernel, rfl, by decide +kernel, by decide +kernel⟩
theorem ok_told {f : Addr} {fd : FuncData} (F : Fun K "_law_told" "_law_told" (top 18) f fd) (n_len : mg "len" = none) (c__law_tells : Cal P w K mg base 1 "_law_tells" ["_law_by"] spTells) : FnOk P w K mg base CX0 2 f fd ["_law_reader_here", "_law_places", "_law_believed"] (spTold K) := by
  have sc := sc_told
  refine F.ok sc (fun vs H Q E h => ?_) (fun cdv A outer s H vs Q E hr h => ?_)
  · obtain ⟨v, l, a, s, ns, bel, rfl, _⟩ := h
    rfl
  · obtain ⟨v, l, a, sm, ns, bel, rfl, hv, s1, s3, hl, hlen, k⟩ := h
    obtain ⟨q, rfl, hT⟩ := dp_ii hv
    refine ⟨_, (pss_cons (ps_set (i := 3) sc.nd rfl (Or.inr rfl) (pe_slice (r := rSlL K) sl_list (pv 1) (po_some (pe_op op_sub pe_int (pe_ix (r := rIxT K) ix_tup (pv 0) pe_int (fun _ _ => rfl)))) po_none))
(pss_cons (ps_if (PW.pt (pw_or (pt_cmpR op_lt (pe_callB (r := rLenQ K) call_lenQ (by rfl) n_len PySem.boot_len (pa_cons (pv 3) pa_nil)) (pe_ix (r := rIxT K) ix_tup (pv 0) pe_int (fun _ _ => rfl)) (nomark _)) (pw_or1 (pt_cmpR (r := rNeD K) (op_neD hr.units) (pe_lc (own := [("_law_one", 4)]) (g := gName 4) rfl sc.nd (pi_list (pv 3)) (blkOk_by (own := [("_law_one", 4)]) (N := ["_law_reader_here", "_law_places", "_law_believed", "_law_looks", "_law_one"]) (sc := defScope (top 18)) (by decide +kernel)) (fun _ _ _ _ _ => (pg_name (i := 4) sc.nd rfl (Or.inl rfl))) (fun _ _ _ _ _ => (pts_one (pt_cmpR op_ne (pe_op op_mod (pv 4) pe_int) (pe_op op_mod (pe_ix (r := rIxL K) ix_list (pv 3) pe_int (fun _ _ => rfl)) pe_int) (nomark _)))) (fun _ _ _ _ _ => (pv 4))) (pe_lst pa_nil) (nomark _)))))
(pss_one (ps_ret pe_int))
pss_nil)
(pss_one (ps_ret (pe_cal c__law_tells (hr.mono (by first | decide | omega)) (pa_cons (pe_op op_sub (pe_ix (r := rIxL K) ix_list (pv 3) pe_int (fun _ _ => rfl)) (pv 2)) pa_nil)))))), ?_⟩
    refine ⟨_, rfl, _, rfl, q, _, _, _, rfl, rfl, hT, at_of (j := 1) rfl rfl, _, _, rfl, rfl, _, rfl, l, _, rfl, SqL.of hl, fun p hp => ?_⟩
    rw [cut_last (by omega), List.length_map, ← List.map_drop]
    generalize hL : ns.drop (ns.length - sm.toNat) = L
    have hLl : L.length = min ns.length sm.toNat := by rw [← hL, List.length_drop]; omega
    have sp : Same H (upd H p (.lst (L.map V.int))) := same_new hp
    refine ⟨_, rfl, p, _, rfl, .inl (SqL.of upd_same), _, rfl, q, _, _, _, rfl, rfl, same_seqT sp hT, at_of (j := 1) rfl rfl, _, _, rfl, rfl, _, rfl, ?_⟩
    rw [List.length_map]
    refine iteD (fun c => ?_) (fun c => ?_)
    · have := k _ sp
      rw [show toldOf sm.toNat ns bel = 0 from if_neg (fun h => by have := h.1; omega)] at this
      exact this
    · have hn : sm.toNat ≤ ns.length := by omega
      have hL0 : L.length = sm.toNat := by omega
      obtain ⟨x, L', e⟩ : ∃ x L', L = x :: L' := by
        cases L with
        | nil => simp at hL0; omega
        | cons x L' => exact ⟨x, L', rfl⟩
      have hx : L[0]? = some x := by rw [e]; rfl
      refine ⟨_, rfl, p, rfl, ⟨_, SqL.of upd_same⟩, fun D hD => lc_it (walk_list (xs := L.map V.int)) (fun i H' => H' = upd (upd H p (.lst (L.map V.int))) D (.lst (((L.take i).filter fun y => decide (y % 4 ≠ x % 4)).map V.int)))
        rfl (fun i H' _ e' => ?_) ?_ ?_⟩
      · rw [e']; exact SqL.of ((same_new hD) _ _ upd_same)
      · rintro i y H1 H2 hi rfl ⟨rfl, hy⟩
        obtain ⟨z, hz, rfl⟩ := int_at hy
        have hpD : (upd (upd H p (.lst (L.map V.int))) D (.lst (((L.take i).filter fun y => decide (y % 4 ≠ x % 4)).map V.int))) p = some (.lst (L.map V.int)) := (same_new hD) _ _ upd_same
        refine ⟨rfl, _, rfl, _, _, rfl, rfl, (by show (0 : Int) < 4; decide), _, rfl, p, _, _, .int x, rfl, rfl, SqL.of hpD, at_of (j := 0) (by simp) (by rw [List.getElem?_map, hx]; rfl), _, _, rfl, rfl, (by show (0 : Int) < 4; decide), rfl, _, rfl, ?_⟩
        rw [take_snoc hz, List.filter_append]
        by_cases c2 : z % 4 = x % 4
        · refine iteNS (vint_eq c2) ?_
          rw [List.filter_cons_of_neg (by simp [c2]), List.filter_nil, List.append_nil]
        · refine iteNT (vint_ne c2) ⟨_, rfl, _, upd_same, ?_, ?_⟩
          · rw [List.length_map]
            refine small1000 (Nat.le_trans (List.length_filter_le _ _) ?_)
            rw [List.length_take]; omega
          · rw [upd_upd, List.filter_cons_of_pos (by simp [c2]), List.filter_nil, List.map_append]; rfl
      · rintro H1 rfl
        rw [List.length_map, List.take_length]
        generalize hF : (L.filter fun y => decide (y % 4 ≠ x % 4)) = Fl
        have hFl : Fl.length ≤ 1000 := by rw [← hF]; exact Nat.le_trans (List.length_filter_le _ _) (by omega)
        refine ⟨Nat.zero_le _, fun em hE => ?_⟩
        have s3 : Same H (upd (upd (upd H p (.lst (L.map V.int))) D (.lst (Fl.map V.int))) em (.lst [])) := (sp.trans (same_new hD)).trans (same_new hE)
        refine ⟨_, _, dp_ints (ns := Fl) (SqL.of ((same_new hE) _ _ upd_same)), dp_nilL (SqL.of upd_same), shaped_nest (nest_ints hFl) (by decide), rfl, _, rfl, ?_⟩
        rw [eqv_nil]
        have hlast : ns.getLast?.getD 0 % 4 = L.getLast?.getD 0 % 4 := by
          rw [← hL, List.getLast?_drop, if_neg (by omega)]
        have iff : LastSame sm.toNat ns ↔ Fl = [] := by
          unfold LastSame
          rw [hL, ← hF]
          have hlx : L.getLast?.getD 0 ∈ L := by
            have : L ≠ [] := by rw [e]; simp
            rw [List.getLast?_eq_some_getLast this]; exact List.getLast_mem this
          constructor
          · rintro ⟨_, h2⟩
            rw [List.filter_eq_nil_iff]
            intro y hy
            have h3 := h2 y hy
            have h4 := h2 x (by rw [e]; simp)
            simp [h3, h4]
          · intro h
            rw [List.filter_eq_nil_iff] at h
            refine ⟨hn, fun y hy => ?_⟩
            have h3 := h y hy
            have h4 := h _ hlx
            simp at h3 h4
            rw [hlast, h3, h4]
        cases Fl with
        | nil =>
          have hy := iff.mpr rfl
          refine iteF ⟨_, rfl, p, _, _, .int x, rfl, rfl, SqL.of ((same_new hE) _ _ ((same_new hD) _ _ upd_same)), at_of (j := 0) (by simp) (by rw [List.getElem?_map, hx]; rfl), _, rfl, _, _, rfl, rfl, _, rfl, fun H4 s4 => ?_⟩
          have := k H4 (s3.trans s4)
          have e2 : toldOf sm.toNat ns bel = tells (x - bel) := by
            unfold toldOf
            rw [if_pos hy]
            refine tells_mod ?_
            have := hy.2 x (by rw [hL, e]; simp)
            omega
          rw [e2] at this
          exact this
        | cons y Fl =>
          have hy : ¬ LastSame sm.toNat ns := fun h => by have := iff.mp h; cases this
          refine iteT ?_
          have := k _ s3
          rw [show toldOf sm.toNat ns bel = 0 from if_neg hy] at this
          exact this
end
/-! ### the law -/
def spLaw (K : PySem.W.Frag) : Sp := fun vs H Q _ => ∃ (a : Addr) (ns : List Int), vs = [.ref a] ∧ SqL K H a (ns.map V.int) ∧ ns.length ≤ 63 ∧ ∀ H', Q (.bl true) H'
def nk (k : Bool) : Nat := if k then 1 else 0
theorem at2 {x : Bool → V} (k : Bool) {z : Int} (h : z = (nk k : Int)) : atI [x false, x true] z = some (x k) := by
  subst h
  cases k <;> rfl
/-- the places that change: newest first -/
structure Ad4 where
  d : Addr
  be : Addr
  l : Bool → Addr
  s : Bool → Addr
  c : Bool → Addr
  nd : [s true, s false, be, l true, l false, c true, c false, d].Nodup
def Ad4.ps (a : Ad4) : List Addr := [a.s true, a.s false, a.be, a.l true, a.l false, a.c true, a.c false, a.d]
structure Ne4 (a : Ad4) : Prop where
  sl : ∀ j k, a.s j ≠ a.l k
  sc : ∀ j k, a.s j ≠ a.c k
  lc : ∀ j k, a.l j ≠ a.c k
  sb : ∀ j, a.s j ≠ a.be
  lb : ∀ j, a.l j ≠ a.be
  cb : ∀ j, a.c j ≠ a.be
  sd : ∀ j, a.s j ≠ a.d
  ld : ∀ j, a.l j ≠ a.d
  cd : ∀ j, a.c j ≠ a.d
  bd : a.be ≠ a.d
  ss : ∀ j, a.s j ≠ a.s (!j)
  ll : ∀ j, a.l j ≠ a.l (!j)
  cc : ∀ j, a.c j ≠ a.c (!j)
theorem Ad4.ne (a : Ad4) : Ne4 a := by
  obtain ⟨d, be, l, s, c, nd⟩ := a
  simp only [List.nodup_cons, List.mem_cons, List.not_mem_nil, or_false, not_or] at nd
  obtain ⟨⟨h1, h2, h3, h4, h5, h6, h7⟩, ⟨h8, h9, h10, h11, h12, h13⟩, ⟨h14, h15, h16, h17, h18⟩, ⟨h19, h20, h21, h22⟩, ⟨h23, h24, h25⟩, ⟨h26, h27⟩, h28, _⟩ := nd
  constructor
  · intro j k; cases j <;> cases k <;> assumption
  · intro j k; cases j <;> cases k <;> assumption
  · intro j k; cases j <;> cases k <;> assumption
  · intro j; cases j <;> assumption
  · intro j; cases j <;> first | assumption | exact Ne.symm (by assumption)
  · intro j; cases j <;> first | assumption | exact Ne.symm (by assumption)
  · intro j; cases j <;> assumption
  · intro j; cases j <;> assumption
  · intro j; cases j <;> assumption
  · assumption
  · intro j; cases j <;> first | assumption | exact Ne.symm (by assumption)
  · intro j; cases j <;> first | assumption | exact Ne.symm (by assumption)
  · intro j; cases j <;> first | assumption | exact Ne.symm (by assumption)
structure Hold4 (K : PySem.W.Frag) (C : Addr) (a : Ad4) (R Cs Pl Su : Addr) (r : Bool → Addr) (ap sm : Bool → Int) (H : Hp) (ms : List Int) (n : Bool → List Int) (b t m : Bool → Int) (z : Bool → CS) : Prop where
  d : H a.d = some (.lst (ms.map V.int))
  be : H a.be = some (.lst [.int (b false), .int (b true)])
  l : ∀ k, H (a.l k) = some (.lst ((n k).map V.int))
  s : ∀ k, H (a.s k) = some (.lst [.int (t k), .int (m k)])
  c : ∀ k, CtrAt K C a.ps H (a.c k) (z k)
  fR : Fz a.ps H R = some (.lst [.ref (r false), .ref (r true)])
  fr : ∀ k, Fz a.ps H (r k) = some (.tup [.int (ap k), .int (sm k)])
  fC : Fz a.ps H Cs = some (.lst [.ref (a.c false), .ref (a.c true)])
  fP : Fz a.ps H Pl = some (.lst [.ref (a.l false), .ref (a.l true)])
  fS : Fz a.ps H Su = some (.lst [.ref (a.s false), .ref (a.s true)])
def upB {α : Type} (f : Bool → α) (k : Bool) (v : α) : Bool → α := fun j => if j = k then v else f j
theorem upB_same {α : Type} {f : Bool → α} {k : Bool} {v : α} : upB f k v k = v := if_pos rfl
theorem upB_ne {α : Type} {f : Bool → α} {j k : Bool} {v : α} (h : j ≠ k) : upB f k v j = f j := if_neg h
theorem not_of_ne {j k : Bool} (h : j ≠ k) : k = !j := by cases j <;> cases k <;> first | rfl | exact (h rfl).elim
section
variable {K : PySem.W.Frag} {C : Addr} {a : Ad4} {R Cs Pl Su : Addr} {r : Bool → Addr} {ap sm : Bool → Int} {H H' : Hp} {ms : List Int} {n : Bool → List Int} {b t m : Bool → Int} {z : Bool → CS}
theorem Hold4.same (h : Hold4 K C a R Cs Pl Su r ap sm H ms n b t m z) (e : Same H H') : Hold4 K C a R Cs Pl Su r ap sm H' ms n b t m z :=
  ⟨e _ _ h.d, e _ _ h.be, fun k => e _ _ (h.l k), fun k => e _ _ (h.s k), fun k => (h.c k).frm (fz_mono e) (e _), fz_mono e _ _ h.fR, fun k => fz_mono e _ _ (h.fr k), fz_mono e _ _ h.fC, fz_mono e _ _ h.fP, fz_mono e _ _ h.fS⟩
theorem Hold4.setD (h : Hold4 K C a R Cs Pl Su r ap sm H ms n b t m z) (ms' : List Int) : Hold4 K C a R Cs Pl Su r ap sm (upd H a.d (.lst (ms'.map V.int))) ms' n b t m z := by
  have e := a.ne
  have q : Fz a.ps (upd H a.d (.lst (ms'.map V.int))) = Fz a.ps H := fz_set (by simp [Ad4.ps])
  exact ⟨upd_same, by rw [upd_ne e.bd]; exact h.be, fun k => by rw [upd_ne (e.ld k)]; exact h.l k, fun k => by rw [upd_ne (e.sd k)]; exact h.s k, fun k => (h.c k).frm (by rw [q]; exact Same.refl _) (fun o ho => by rw [upd_ne (e.cd k)]; exact ho),
    by rw [q]; exact h.fR, fun k => by rw [q]; exact h.fr k, by rw [q]; exact h.fC, by rw [q]; exact h.fP, by rw [q]; exact h.fS⟩
theorem Hold4.setL (h : Hold4 K C a R Cs Pl Su r ap sm H ms n b t m z) (k : Bool) (n' : List Int) : Hold4 K C a R Cs Pl Su r ap sm (upd H (a.l k) (.lst (n'.map V.int))) ms (upB n k n') b t m z := by
  have e := a.ne
  have q : Fz a.ps (upd H (a.l k) (.lst (n'.map V.int))) = Fz a.ps H := fz_set (by cases k <;> simp [Ad4.ps])
  refine ⟨by rw [upd_ne (e.ld k).symm]; exact h.d, by rw [upd_ne (e.lb k).symm]; exact h.be, fun j => ?_, fun j => by rw [upd_ne (e.sl j k)]; exact h.s j, fun j => (h.c j).frm (by rw [q]; exact Same.refl _) (fun o ho => by rw [upd_ne (e.lc k j).symm]; exact ho),
    by rw [q]; exact h.fR, fun k => by rw [q]; exact h.fr k, by rw [q]; exact h.fC, by rw [q]; exact h.fP, by rw [q]; exact h.fS⟩
  by_cases c : j = k
  · subst c; rw [upB_same, upd_same]
  · rw [upB_ne c, upd_ne (by rw [not_of_ne c]; exact e.ll j)]; exact h.l j
theorem Hold4.setB (h : Hold4 K C a R Cs Pl Su r ap sm H ms n b t m z) (b' : Bool → Int) : Hold4 K C a R Cs Pl Su r ap sm (upd H a.be (.lst [.int (b' false), .int (b' true)])) ms n b' t m z := by
  have e := a.ne
  have q : Fz a.ps (upd H a.be (.lst [.int (b' false), .int (b' true)])) = Fz a.ps H := fz_set (by simp [Ad4.ps])
  exact ⟨by rw [upd_ne e.bd.symm]; exact h.d, upd_same, fun k => by rw [upd_ne (e.lb k)]; exact h.l k, fun k => by rw [upd_ne (e.sb k)]; exact h.s k, fun k => (h.c k).frm (by rw [q]; exact Same.refl _) (fun o ho => by rw [upd_ne (e.cb k)]; exact ho),
    by rw [q]; exact h.fR, fun k => by rw [q]; exact h.fr k, by rw [q]; exact h.fC, by rw [q]; exact h.fP, by rw [q]; exact h.fS⟩
theorem Hold4.setS (h : Hold4 K C a R Cs Pl Su r ap sm H ms n b t m z) (k : Bool) (t' m' : Int) : Hold4 K C a R Cs Pl Su r ap sm (upd H (a.s k) (.lst [.int t', .int m'])) ms n b (upB t k t') (upB m k m') z := by
  have e := a.ne
  have q : Fz a.ps (upd H (a.s k) (.lst [.int t', .int m'])) = Fz a.ps H := fz_set (by cases k <;> simp [Ad4.ps])
  refine ⟨by rw [upd_ne (e.sd k).symm]; exact h.d, by rw [upd_ne (e.sb k).symm]; exact h.be, fun j => by rw [upd_ne (e.sl k j).symm]; exact h.l j, fun j => ?_, fun j => (h.c j).frm (by rw [q]; exact Same.refl _) (fun o ho => by rw [upd_ne (e.sc k j).symm]; exact ho),
    by rw [q]; exact h.fR, fun k => by rw [q]; exact h.fr k, by rw [q]; exact h.fC, by rw [q]; exact h.fP, by rw [q]; exact h.fS⟩
  by_cases c : j = k
  · subst c; rw [upB_same, upB_same, upd_same]
  · rw [upB_ne c, upB_ne c, upd_ne (by rw [not_of_ne c]; exact e.ss j)]; exact h.s j
theorem Hold4.setC (h : Hold4 K C a R Cs Pl Su r ap sm H ms n b t m z) (k : Bool) {z' : CS} (f : Frm [a.c k] H H') (hc : CtrAt K C a.ps H' (a.c k) z') : Hold4 K C a R Cs Pl Su r ap sm H' ms n b t m (upB z k z') := by
  have e := a.ne
  have q : Same (Fz a.ps H) (Fz a.ps H') := Frm.fz (Frm.mono (by intro x hx; rw [List.mem_singleton.mp hx]; cases k <;> simp [Ad4.ps]) f)
  have g : ∀ {x o}, x ≠ a.c k → H x = some o → H' x = some o := fun {x o} ne ho => f x o (by simpa using ne) ho
  refine ⟨g (e.cd k).symm h.d, g (e.cb k).symm h.be, fun j => g (e.lc j k) (h.l j), fun j => g (e.sc j k) (h.s j), fun j => ?_, q _ _ h.fR, fun k => q _ _ (h.fr k), q _ _ h.fC, q _ _ h.fP, q _ _ h.fS⟩
  by_cases c : j = k
  · subst c; rw [upB_same]; exact hc
  · rw [upB_ne c]; exact (h.c j).frm q (fun o ho => g (by rw [not_of_ne c]; exact e.cc j) ho)
theorem Hold4.live (h : Hold4 K C a R Cs Pl Su r ap sm H ms n b t m z) : Live a.ps H := by
  have hc : ∀ k, ∃ o, H (a.c k) = some o := fun k => let ⟨_, _, _, q, _⟩ := h.c k; ⟨_, q⟩
  obtain ⟨o1, e1⟩ := hc true
  obtain ⟨o0, e0⟩ := hc false
  exact live_cons (h.s true) (live_cons (h.s false) (live_cons h.be (live_cons (h.l true) (live_cons (h.l false) (live_cons e1 (live_cons e0 (live_cons h.d live_nil)))))))
end
section
variable {P : Program} {w : World} {K : PySem.W.Frag} {mg : Str → Option Value} {base : Heap}
theorem sc_law : FnScope ["_law_script", "_law_d", "_law_readers", "_law_counters", "_law_places", "_law_believed", "_law_sums", "_law_turn", "_law_k", "_law_latest", "_law_place", "_law_due", "_law_told_here", "_law_reader_here", "_law_counter"] ["_law_script"] (defScope (top 19)) := ⟨rfl, rfl, rfl, by decide +kernel, rfl, by decide +kernel, by decide +kernel⟩
set_option maxHeartbeats 2000000 in
theorem ok_law {f C : Addr} {fd : FuncData} (F : Fun K "law" "law" (top 19) f fd) (ck : CtrK K C) (n_range : mg "range" = none) (n_int : mg "int" = none)
    (c__law_dice : Cal P w K mg base 1 "_law_dice" ["_law_script", "_law_k"] (spDice K)) (c__law_off : Cal P w K mg base 1 "_law_off" ["_law_d", "_law_most"] spOff) (c__law_reader : Cal P w K mg base 2 "_law_reader" ["_law_d"] spReader)
    (c__law_pair : Cal P w K mg base 1 "_law_pair" ["_law_place"] (spPair K)) (c__law_told : Cal P w K mg base 2 "_law_told" ["_law_reader_here", "_law_places", "_law_believed"] (spTold K))
    (c__law_alike : Cal P w K mg base 4 "_law_alike" ["_law_found", "_law_due"] (spAlike K 3)) (m_Counter : Mkr P w K mg base 2 C "Counter" ["self", "reader"] (spCtr K C))
    (m_look : Mtd P w K mg base 1 C "look" ["self", "pair"] (spLook K C)) (m_count : Mtd P w K mg base 1 C "count" ["self"] (spCount K C)) (m_missed : Mtd P w K mg base 1 C "missed" ["self"] (spMissed K C)) :
    FnOk P w K mg base CX0 5 f fd ["_law_script"] (spLaw K) := by
  have sc := sc_law
  have cl := ck.cl
  refine F.ok sc (fun vs H Q E h => ?_) (fun cdv A outer s H vs Q E hr h => ?_)
  · obtain ⟨a, ns, rfl, _⟩ := h
    rfl
  · obtain ⟨sa, ns, rfl, hS, hlen, k⟩ := h
    refine ⟨_, (pss_cons (ps_set (i := 1) sc.nd rfl (Or.inl rfl) (pe_cal c__law_dice (hr.mono (by first | decide | omega)) (pa_cons (pv 0) (pa_cons pe_int pa_nil))))
(pss_cons (ps_set (i := 2) sc.nd rfl (Or.inl rfl) (pe_lst (pa_cons (pe_cal c__law_reader (hr.mono (by first | decide | omega)) (pa_cons (pv 1) pa_nil)) (pa_cons (pe_cal c__law_reader (hr.mono (by first | decide | omega)) (pa_cons (pv 1) pa_nil)) pa_nil))))
(pss_cons (ps_setLc (i := 3) (own := [("_law_reader_here", 13)]) (g := gName 13) rfl sc.nd rfl rfl (sw_true rfl rfl rfl (by decide +kernel)) (pi_list (pv 2)) (blkOk_by (own := [("_law_reader_here", 13)]) (N := ["_law_script", "_law_d", "_law_readers", "_law_counters", "_law_places", "_law_believed", "_law_sums", "_law_turn", "_law_k", "_law_latest", "_law_place", "_law_due", "_law_told_here", "_law_reader_here", "_law_counter"]) (sc := defScope (top 19)) (by decide +kernel)) (fun _ _ _ _ _ => (pg_name (i := 13) sc.nd rfl (Or.inl rfl))) (fun _ _ _ _ _ => pts_nil) (fun _ _ _ _ _ => (pe_mkr m_Counter (hr.mono (by first | decide | omega)) (pa_cons (pv 13) pa_nil))))
(pss_cons (ps_set (i := 4) sc.nd rfl (Or.inl rfl) (pe_lst (pa_cons (pe_lst pa_nil) (pa_cons (pe_lst pa_nil) pa_nil))))
(pss_cons (ps_set (i := 5) sc.nd rfl (Or.inl rfl) (pe_lst (pa_cons pe_int (pa_cons pe_int pa_nil))))
(pss_cons (ps_set (i := 6) sc.nd rfl (Or.inl rfl) (pe_lst (pa_cons (pe_lst (pa_cons pe_int (pa_cons pe_int pa_nil))) (pa_cons (pe_lst (pa_cons pe_int (pa_cons pe_int pa_nil))) pa_nil))))
(pss_cons (ps_for PassesOwn.never rfl (pi_range1 rfl n_range (pa_cons (pe_cal c__law_off (hr.mono (by first | decide | omega)) (pa_cons (pv 1) (pa_cons (pe_ix (r := rIxL K) ix_list (pe_lst (pa_cons pe_int (pa_cons pe_int pa_nil))) (pe_callTy call_int1 (by rfl) n_int (by decide +kernel) (pa_cons (pe_cmpR op_eq (pe_op op_mod (pe_op op_fdiv (pe_ix (r := rIxL K) ix_list (pv 1) pe_int (fun _ _ => rfl)) pe_int) pe_int) pe_int (nomark _)) pa_nil)) (fun _ _ => rfl)) pa_nil))) pa_nil)) (pg_name (i := 7) sc.nd rfl (Or.inl rfl))
(pss_cons (ps_set (i := 8) sc.nd rfl (Or.inl rfl) (pe_cal c__law_off (hr.mono (by first | decide | omega)) (pa_cons (pv 1) (pa_cons pe_int pa_nil))))
(pss_cons (ps_set (i := 9) sc.nd rfl (Or.inl rfl) (pe_cut (pe_ifExp (pt_cmpR (r := rNeD K) (op_neD hr.units) (pe_ix (r := rIxL K) ix_list (pv 4) (pv 8) (fun _ _ => rfl)) (pe_lst pa_nil) (nomark _)) (pe_ix (r := rIxL K) ix_list (pe_ix (r := rIxL K) ix_list (pv 4) (pv 8) (fun _ _ => rfl)) (pe_un un_neg pe_int) (fun _ _ => rfl)) pe_int)))
(pss_cons (ps_set (i := 10) sc.nd rfl (Or.inl rfl) (pe_cut (pe_op op_mod (pe_ix (r := rIxL K) ix_list (pe_lst (pa_cons (pv 9) (pa_cons (pe_op op_add (pv 9) pe_int) (pa_cons (pe_op op_sub (pv 9) pe_int) (pa_cons (pv 9) (pa_cons (pe_cal c__law_off (hr.mono (by first | decide | omega)) (pa_cons (pv 1) (pa_cons pe_int pa_nil))) pa_nil)))))) (pe_cal c__law_off (hr.mono (by first | decide | omega)) (pa_cons (pv 1) (pa_cons pe_int pa_nil))) (fun _ _ => rfl)) pe_int)))
(pss_cons (ps_expr (pe_bm PySem.F.plainAttrs_list PySem.F.slot_list_append PySem.F.type_list_append mt_append (pe_ix (r := rIxL K) ix_list (pv 4) (pv 8) (fun _ _ => rfl)) (pa_cons (pv 10) pa_nil)))
(pss_cons (ps_set (i := 11) sc.nd rfl (Or.inl rfl) (pe_cal c__law_told (hr.mono (by first | decide | omega)) (pa_cons (pe_ix (r := rIxL K) ix_list (pv 2) (pv 8) (fun _ _ => rfl)) (pa_cons (pe_ix (r := rIxL K) ix_list (pv 4) (pv 8) (fun _ _ => rfl)) (pa_cons (pe_ix (r := rIxL K) ix_list (pv 5) (pv 8) (fun _ _ => rfl)) pa_nil)))))
(C8.pss_cut (ps_if (pt_cmpR op_ne (pv 11) pe_int (nomark _))
(pss_cons (ps_asg (pv 10) (pg_sub (pv 5) (pv 8) set_list))
(pss_cons (ps_asg (pe_cut (pe_op op_add (pe_ix (r := rIxL K) ix_list (pe_ix (r := rIxL K) ix_list (pv 6) (pv 8) (fun _ _ => rfl)) pe_int (fun _ _ => rfl)) (pe_op op_mul (pv 11) (pe_callTy call_int1 (by rfl) n_int (by decide +kernel) (pa_cons (pe_cmpR op_ne (pv 11) pe_int (nomark _)) pa_nil))))) (pg_sub (pe_ix (r := rIxL K) ix_list (pv 6) (pv 8) (fun _ _ => rfl)) pe_int set_list))
(pss_one (ps_asg (pe_cut (pe_op op_add (pe_ix (r := rIxL K) ix_list (pe_ix (r := rIxL K) ix_list (pv 6) (pv 8) (fun _ _ => rfl)) pe_int (fun _ _ => rfl)) (pe_callTy call_int1 (by rfl) n_int (by decide +kernel) (pa_cons (pe_cmpR op_eq (pv 11) pe_int (nomark _)) pa_nil)))) (pg_sub (pe_ix (r := rIxL K) ix_list (pv 6) (pv 8) (fun _ _ => rfl)) pe_int set_list)))))
pss_nil)
(pss_cons (ps_if (pt_not (pt_val (pe_cal c__law_alike (hr.mono (by first | decide | omega)) (pa_cons (pe_mtd m_look cl (hr.mono (by first | decide | omega)) (pe_ix (r := rIxL K) ix_list (pv 3) (pv 8) (fun _ _ => rfl)) (pa_cons (pe_cal c__law_pair (hr.mono (by first | decide | omega)) (pa_cons (pv 10) pa_nil)) pa_nil)) (pa_cons (pv 11) pa_nil)))))
(pss_one (ps_ret pe_bl))
pss_nil)
(pss_cons (ps_setLc (i := 12) (own := [("_law_counter", 14)]) (g := gName 14) rfl sc.nd rfl rfl (sw_true rfl rfl rfl (by decide +kernel)) (pi_list (pv 3)) (blkOk_by (own := [("_law_counter", 14)]) (N := ["_law_script", "_law_d", "_law_readers", "_law_counters", "_law_places", "_law_believed", "_law_sums", "_law_turn", "_law_k", "_law_latest", "_law_place", "_law_due", "_law_told_here", "_law_reader_here", "_law_counter"]) (sc := defScope (top 19)) (by decide +kernel)) (fun _ _ _ _ _ => (pg_name (i := 14) sc.nd rfl (Or.inl rfl))) (fun _ _ _ _ _ => pts_nil) (fun _ _ _ _ _ => (pe_lst (pa_cons (pe_mtd0 m_count cl (hr.mono (by first | decide | omega)) (pv 14)) (pa_cons (pe_mtd0 m_missed cl (hr.mono (by first | decide | omega)) (pv 14)) pa_nil)))))
(pss_one (ps_if (pt_not (pt_val (pe_cal c__law_alike (hr.mono (by first | decide | omega)) (pa_cons (pv 12) (pa_cons (pv 6) pa_nil)))))
(pss_one (ps_ret pe_bl))
pss_nil)))))))))))
(pss_one (ps_ret pe_bl))))))))), ?_⟩
    -- the dice, the readers
    refine ⟨_, rfl, sa, ns, rfl, hS, hlen, fun d ms H1 hd0 s1 hd1 hD1 => ?_⟩
    refine ⟨_, rfl, d, ms, rfl, hd1, hD1, fun ap0 sm0 ms2 r0 ap01 ap06 sm01 sm03 hD2 hr0 => ?_⟩
    have n0 : d ≠ r0 := ne_of_none hd1 hr0
    have hd2 : (upd (upd H1 d (.lst (ms2.map V.int))) r0 (.tup [.int ap0, .int sm0])) d = some (.lst (ms2.map V.int)) := by rw [upd_ne n0, upd_same]
    have ht0 : (upd (upd H1 d (.lst (ms2.map V.int))) r0 (.tup [.int ap0, .int sm0])) r0 = some (.tup [.int ap0, .int sm0]) := upd_same
    revert hd2 ht0
    generalize upd (upd H1 d (.lst (ms2.map V.int))) r0 (.tup [.int ap0, .int sm0]) = H2
    intro hd2 ht0
    refine ⟨_, rfl, d, ms2, rfl, hd2, hD2, fun ap1 sm1 ms3 r1 ap11 ap16 sm11 sm13 hD3 hr1 => ?_⟩
    have n1 : d ≠ r1 := ne_of_none hd2 hr1
    have n01 : r0 ≠ r1 := ne_of_none ht0 hr1
    refine ⟨(by show 2 ≤ sizeLine; decide), fun R hR => ?_⟩
    have nRd : R ≠ d := (ne_of_none (H := upd (upd H2 d (.lst (ms3.map V.int))) r1 (.tup [.int ap1, .int sm1])) (by rw [upd_ne n1]; exact upd_same) hR).symm
    have hd3 : (upd (upd (upd H2 d (.lst (ms3.map V.int))) r1 (.tup [.int ap1, .int sm1])) R (.lst [.ref r0, .ref r1])) d = some (.lst (ms3.map V.int)) := same_new hR _ _ (by rw [upd_ne n1, upd_same])
    have ht03 : (upd (upd (upd H2 d (.lst (ms3.map V.int))) r1 (.tup [.int ap1, .int sm1])) R (.lst [.ref r0, .ref r1])) r0 = some (.tup [.int ap0, .int sm0]) := same_new hR _ _ (by rw [upd_ne n01, upd_ne n0.symm]; exact ht0)
    have ht13 : (upd (upd (upd H2 d (.lst (ms3.map V.int))) r1 (.tup [.int ap1, .int sm1])) R (.lst [.ref r0, .ref r1])) r1 = some (.tup [.int ap1, .int sm1]) := same_new hR _ _ upd_same
    have hR3 : (upd (upd (upd H2 d (.lst (ms3.map V.int))) r1 (.tup [.int ap1, .int sm1])) R (.lst [.ref r0, .ref r1])) R = some (.lst [.ref r0, .ref r1]) := upd_same
    revert hd3 ht03 ht13 hR3
    generalize upd (upd (upd H2 d (.lst (ms3.map V.int))) r1 (.tup [.int ap1, .int sm1])) R (.lst [.ref r0, .ref r1]) = H3
    intro hd3 ht03 ht13 hR3
    -- the counters
    refine ⟨_, rfl, R, rfl, ⟨_, SqL.of hR3⟩, fun D hD => lc_it (walk_list (xs := [.ref r0, .ref r1])) (fun i H' => ∃ cs : List Addr, cs.length = i ∧ H' D = some (.lst (cs.map V.ref)) ∧ Same H3 H' ∧ (∀ c ∈ cs, H3 c = none) ∧ cs.Nodup ∧ ∀ (j : Nat) (c : Addr), cs[j]? = some c → NewAt K C H' c (if j = 0 then sm0 else sm1))
      ⟨[], rfl, upd_same, same_new hD, by simp, by simp, by simp⟩ (fun i H' _ ⟨cs, _, _, e, _⟩ => SqL.of (e _ _ hR3)) ?_ ?_⟩
    · rintro i x H4 H5 hi ⟨cs, hcl, hD4, s4, hcn, hnd, hct⟩ ⟨rfl, hx⟩
      obtain ⟨rx, ax, sx, rfl, hrx, b1, b2, b3, b4, esx⟩ : ∃ rx ax sx, x = .ref rx ∧ Dp K H5 (.ref rx) (knD ax sx) ∧ 1 ≤ ax ∧ ax ≤ 6 ∧ 1 ≤ sx ∧ sx ≤ 3 ∧ sx = (if i = 0 then sm0 else sm1) := by
        match i, hx with
        | 0, hx => cases hx; exact ⟨r0, ap0, sm0, rfl, .tup (SqT.of (s4 _ _ ht03)) (dpa_ii _ _), ap01, ap06, sm01, sm03, rfl⟩
        | 1, hx => cases hx; exact ⟨r1, ap1, sm1, rfl, .tup (SqT.of (s4 _ _ ht13)) (dpa_ii _ _), ap11, ap16, sm11, sm13, rfl⟩
      refine ⟨rfl, _, rfl, fun c dx hc hdx nec => ?_⟩
      have sA : Same H5 (upd (upd H5 dx (.own c)) c (.ins C dx [])) := (same_new hdx).trans (same_new (by rw [upd_ne nec.symm]; exact hc))
      refine ⟨c, dx, _, ax, sx, rfl, upd_same, dp_same sA hrx, b1, b2, b3, b4, fun H6 fr6 hct6 => ⟨rfl, ?_⟩⟩
      have s56 : Same H5 H6 := fun b o e => fr6 b o (by simpa using ne_of_none e hc) (sA b o e)
      have ncD : c ≠ D := (ne_of_none hD4 hc).symm
      refine ⟨cs.map V.ref, s56 _ _ hD4, small1000 (by rw [List.length_map, hcl]; simp at hi; omega), cs ++ [c], by rw [List.length_append, List.length_singleton, hcl], by rw [upd_same, List.map_append]; rfl, same_put hD (s4.trans s56), ?_, ?_, ?_⟩
      · intro y hy
        rcases List.mem_append.mp hy with h | h
        · exact hcn y h
        · rw [List.mem_singleton.mp h]; exact s4.free hc
      · refine List.nodup_append.mpr ⟨hnd, by simp, ?_⟩
        intro y hy u hu e
        rw [List.mem_singleton.mp hu] at e
        subst e
        obtain ⟨j, hj⟩ := List.mem_iff_getElem?.mp hy
        obtain ⟨o, ho⟩ := (hct j y hj).live
        rw [ho] at hc; cases hc
      · intro j y hy
        by_cases hjl : j < cs.length
        · rw [List.getElem?_append_left hjl] at hy
          have q := hct j y hy
          refine q.mono fun o ho => ?_
          have nyD : y ≠ D := fun e => by
            have := hcn y (List.mem_of_getElem? hy)
            rw [e] at ho
            rw [hD4] at ho
            obtain ⟨dx', kv', h1, _⟩ := q
            rw [e, hD4] at h1
            cases h1
          rw [upd_ne nyD]; exact s56 _ _ ho
        · have hj2 : j = cs.length := by
            have := (List.getElem?_eq_some_iff.mp hy).1
            rw [List.length_append, List.length_singleton] at this
            omega
          subst hj2
          simp at hy
          subst hy
          rw [hcl, ← esx]
          exact hct6.mono fun o ho => by rw [upd_ne ncD]; exact ho
    · rintro H4 ⟨cs, hcl, hD4, s4, hcn, hnd, hct⟩
      match cs, hcl with
      | [c0, c1], _ =>
      have hc0 := hct 0 c0 rfl
      have hc1 := hct 1 c1 rfl
      simp only [if_true, if_false] at hc0 hc1
      have n01' : c0 ≠ c1 := by simpa using hnd
      -- places, believed, sums
      refine ⟨Nat.zero_le _, fun l0 hl0 => ⟨Nat.zero_le _, fun l1 hl1 => ⟨(by show 2 ≤ sizeLine; decide), fun Pl hPl => ?_⟩⟩⟩
      refine ⟨(by show 2 ≤ sizeLine; decide), fun be hbe => ?_⟩
      refine ⟨(by show 2 ≤ sizeLine; decide), fun s0 hs0 => ⟨(by show 2 ≤ sizeLine; decide), fun s1 hs1 => ⟨(by show 2 ≤ sizeLine; decide), fun Su hSu => ?_⟩⟩⟩
      have e1 := same_new hl0 (o := .lst [])
      have e2 := same_new hl1 (o := .lst [])
      have e3 := same_new hPl (o := .lst [.ref l0, .ref l1])
      have e4 := same_new hbe (o := .lst [.int 0, .int 0])
      have e5 := same_new hs0 (o := .lst [.int 0, .int 0])
      have e6 := same_new hs1 (o := .lst [.int 0, .int 0])
      have e7 := same_new hSu (o := .lst [.ref s0, .ref s1])
      have f7 := e7
      have f6 := e6.trans f7
      have f5 := e5.trans f6
      have f4 := e4.trans f5
      have f3 := e3.trans f4
      have f2 := e2.trans f3
      have f1 := e1.trans f2
      have gl0 := f2 _ _ (upd_same (a := l0) (o := .lst []))
      have gl1 := f3 _ _ (upd_same (a := l1) (o := .lst []))
      have gPl := f4 _ _ (upd_same (a := Pl) (o := .lst [.ref l0, .ref l1]))
      have gbe := f5 _ _ (upd_same (a := be) (o := .lst [.int 0, .int 0]))
      have gs0 := f6 _ _ (upd_same (a := s0) (o := .lst [.int 0, .int 0]))
      have gs1 := f7 _ _ (upd_same (a := s1) (o := .lst [.int 0, .int 0]))
      have gSu := upd_same (H := upd (upd (upd (upd (upd (upd H4 l0 (.lst [])) l1 (.lst [])) Pl (.lst [.ref l0, .ref l1])) be (.lst [.int 0, .int 0])) s0 (.lst [.int 0, .int 0])) s1 (.lst [.int 0, .int 0])) (a := Su) (o := .lst [.ref s0, .ref s1])
      obtain ⟨oc0, lc0⟩ := hc0.live
      obtain ⟨oc1, lc1⟩ := hc1.live
      have hd4 := s4 _ _ hd3
      have L0 : Live [c1, c0, d] H4 := live_cons lc1 (live_cons lc0 (live_cons hd4 live_nil))
      have L1 : Live [l0, c1, c0, d] (upd H4 l0 (.lst [])) := live_cons upd_same (L0.mono e1)
      have L2' : Live [l1, l0, c1, c0, d] (upd (upd H4 l0 (.lst [])) l1 (.lst [])) := live_cons upd_same (L1.mono e2)
      have L3 : Live [be, l1, l0, c1, c0, d] _ := live_cons (upd_same (a := be) (o := .lst [.int 0, .int 0])) (L2'.mono (e3.trans e4))
      have L4 : Live [s0, be, l1, l0, c1, c0, d] _ := live_cons (upd_same (a := s0) (o := .lst [.int 0, .int 0])) (L3.mono e5)
      have Lf : Live [s1, s0, be, l1, l0, c1, c0, d] _ := live_cons (upd_same (a := s1) (o := .lst [.int 0, .int 0])) (L4.mono e6)
      have nd : [s1, s0, be, l1, l0, c1, c0, d].Nodup := by
        refine List.nodup_cons.mpr ⟨L4.new hs1, List.nodup_cons.mpr ⟨L3.new hs0, List.nodup_cons.mpr ⟨(L2'.mono e3).new hbe, List.nodup_cons.mpr ⟨L1.new hl1, List.nodup_cons.mpr ⟨L0.new hl0, ?_⟩⟩⟩⟩⟩
        have x0 : c0 ≠ d := fun z => by have := hcn c0 (by simp); rw [z, hd3] at this; cases this
        have x1 : c1 ≠ d := fun z => by have := hcn c1 (by simp); rw [z, hd3] at this; cases this
        simp [x0, x1, n01'.symm]
      -- what does not change is none of these
      have nR : ∀ {x o}, H3 x = some o → x ≠ d → x ∉ [s1, s0, be, l1, l0, c1, c0, d] := fun {x o} hx nd' hm => by
        have h4 := s4 _ _ hx
        simp only [List.mem_cons, List.not_mem_nil, or_false] at hm
        rcases hm with rfl | rfl | rfl | rfl | rfl | rfl | rfl | rfl
        · rw [((((e1.trans e2).trans e3).trans e4).trans e5) _ _ h4] at hs1; cases hs1
        · rw [(((e1.trans e2).trans e3).trans e4) _ _ h4] at hs0; cases hs0
        · rw [((e1.trans e2).trans e3) _ _ h4] at hbe; cases hbe
        · rw [e1 _ _ h4] at hl1; cases hl1
        · rw [h4] at hl0; cases hl0
        · have := hcn x (by simp); rw [hx] at this; cases this
        · have := hcn x (by simp); rw [hx] at this; cases this
        · exact nd' rfl
      have nD4 : D ∉ [s1, s0, be, l1, l0, c1, c0, d] := fun hm => by
        have hDd : D ≠ d := (ne_of_none hd3 hD).symm
        have kC : ∀ {x sx}, NewAt K C H4 x sx → D ≠ x := fun {x sx} ⟨dx', kv', h1, _⟩ e => by rw [← e, hD4] at h1; cases h1
        simp only [List.mem_cons, List.not_mem_nil, or_false] at hm
        rcases hm with e | e | e | e | e | e | e | e
        · rw [← e, ((((e1.trans e2).trans e3).trans e4).trans e5) _ _ hD4] at hs1; cases hs1
        · rw [← e, (((e1.trans e2).trans e3).trans e4) _ _ hD4] at hs0; cases hs0
        · rw [← e, ((e1.trans e2).trans e3) _ _ hD4] at hbe; cases hbe
        · rw [← e, e1 _ _ hD4] at hl1; cases hl1
        · rw [← e, hD4] at hl0; cases hl0
        · exact kC hc1 e
        · exact kC hc0 e
        · exact hDd e
      have nPl : Pl ∉ [s1, s0, be, l1, l0, c1, c0, d] := fun hm => by
        have q := (L2'.new hPl)
        simp only [List.mem_cons, List.not_mem_nil, or_false, not_or] at q hm
        rcases hm with e | e | e | e | e | e | e | e
        · rw [← e, (e4.trans e5) _ _ (upd_same (a := Pl))] at hs1; cases hs1
        · rw [← e, e4 _ _ (upd_same (a := Pl))] at hs0; cases hs0
        · rw [← e, upd_same] at hbe; cases hbe
        · exact q.1 e
        · exact q.2.1 e
        · exact q.2.2.1 e
        · exact q.2.2.2.1 e
        · exact q.2.2.2.2 e
      have nSu : Su ∉ [s1, s0, be, l1, l0, c1, c0, d] := Lf.new hSu
      let ad : Ad4 := ⟨d, be, fun k => if k then l1 else l0, fun k => if k then s1 else s0, fun k => if k then c1 else c0, nd⟩
      have hps : ad.ps = [s1, s0, be, l1, l0, c1, c0, d] := rfl
      have hold : Hold4 K C ad R D Pl Su (fun k => if k then r1 else r0) (fun k => if k then ap1 else ap0) (fun k => if k then sm1 else sm0) _ ms3 (fun _ => []) (fun _ => 0) (fun _ => 0) (fun _ => 0) (fun k => newC (if k then sm1 else sm0)) :=
        ⟨f1 _ _ hd4, gbe, fun k => by cases k; exact gl0; exact gl1, fun k => by cases k; exact gs0; exact gs1,
          fun k => by cases k; exact (hc0.mono (f1 _)).ctr; exact (hc1.mono (f1 _)).ctr,
          by rw [hps, fz_out (nR hR3 nRd)]; exact f1 _ _ (s4 _ _ hR3),
          fun k => by
            rw [hps]
            cases k
            · show Fz _ _ r0 = _
              rw [fz_out (nR ht03 (fun z => by rw [z, hd3] at ht03; cases ht03))]; exact f1 _ _ (s4 _ _ ht03)
            · show Fz _ _ r1 = _
              rw [fz_out (nR ht13 (fun z => by rw [z, hd3] at ht13; cases ht13))]; exact f1 _ _ (s4 _ _ ht13),
          by rw [hps, fz_out nD4]; exact f1 _ _ hD4, by rw [hps, fz_out nPl]; exact gPl, by rw [hps, fz_out nSu]; exact gSu⟩
      have hsm : ∀ k : Bool, 1 ≤ (if k then sm1 else sm0) ∧ (if k then sm1 else sm0) ≤ 3 := fun k => by cases k; exact ⟨sm01, sm03⟩; exact ⟨sm11, sm13⟩
      clear gl0 gl1 gPl gbe gs0 gs1 gSu L0 L1 L2' L3 L4 Lf nR nD4 nPl nSu
      revert hold hsm
      generalize (fun k : Bool => if k then r1 else r0) = r
      generalize (fun k : Bool => if k then ap1 else ap0) = ap
      intro hold hsm
      revert hold
      generalize upd (upd (upd (upd (upd (upd (upd H4 l0 (.lst [])) l1 (.lst [])) Pl (.lst [.ref l0, .ref l1])) be (.lst [.int 0, .int 0])) s0 (.lst [.int 0, .int 0])) s1 (.lst [.int 0, .int 0])) Su (.lst [.ref s0, .ref s1]) = H5
      intro hold
      clear e1 e2 e3 e4 e5 e6 e7 f1 f2 f3 f4 f5 f6 f7
      obtain ⟨a, rfl, rfl, hA4⟩ : ∃ a : Ad4, a.d = d ∧ a.be = be ∧ Hold4 K C a R D Pl Su r ap (fun k => if k then sm1 else sm0) H5 ms3 (fun _ => []) (fun _ => 0) (fun _ => 0) (fun _ => 0) (fun k => newC (if k then sm1 else sm0)) := ⟨ad, rfl, rfl, hold⟩
      have hold := hA4
      clear hA4

      revert hold
      generalize hsmE : (fun k : Bool => if k then sm1 else sm0) = sm
      intro hold
      have hnew : ∀ k : Bool, newC (if k then sm1 else sm0) = newC (sm k) := fun k => by rw [← hsmE]
      have hsm : ∀ k, 1 ≤ sm k ∧ sm k ≤ 3 := fun k => by rw [← hsmE]; exact hsm k
      rw [show (fun k : Bool => newC (if k then sm1 else sm0)) = fun k => newC (sm k) from funext hnew] at hold
      -- how many turns
      refine ⟨_, rfl, (by show 2 ≤ sizeLine; decide), fun q hq => ?_⟩
      have hold1 := hold.same (same_new hq (o := .lst [.int 61, .int 401]))
      obtain ⟨x0, xb, xr, exs, _⟩ := id hD3
      refine ⟨_, rfl, a.d, _, _, .int x0, rfl, rfl, SqL.of hold1.d, at_of (j := 0) rfl (by rw [exs]; rfl), _, _, rfl, rfl, ⟨by decide, by decide⟩, _, _, rfl, rfl, (by show (0 : Int) < 6; decide), rfl, .inr ⟨_, rfl, ?_⟩⟩
      obtain ⟨M, hM, hM1, hM2⟩ : ∃ M : Int, atI [V.int 61, V.int 401] (if decide (V.int (x0 / 7 % 6) = V.int 0) = true then 1 else 0) = some (.int M) ∧ 0 < M ∧ M ≤ 401 := by
        split
        · exact ⟨401, by decide, by decide, by decide⟩
        · exact ⟨61, by decide, by decide, by decide⟩
      refine ⟨q, _, _, .int M, rfl, rfl, SqL.of upd_same, hM, ?_⟩
      refine ⟨a.d, ms3, M, rfl, hold1.d, hD3, by omega, by omega, fun N ms4 N0 N1 hD4 => ?_⟩
      have hold2 := hold1.setD ms4
      refine ⟨N, rfl, by omega, by omega, for_range (lo := 0) (n := N.toNat) (fun i σ H' => ∃ (ms : List Int) (n : Bool → List Int) (b t m : Bool → Int) (z : Bool → CS) (u7 u8 u9 u10 u11 u12 u13 u14 : Option V),
        σ = [some (.ref sa), some (.ref a.d), some (.ref R), some (.ref D), some (.ref Pl), some (.ref a.be), some (.ref Su), u7, u8, u9, u10, u11, u12, u13, u14] ∧ Dice ms ∧ Hold4 K C a R D Pl Su r ap sm H' ms n b t m z ∧
        (∀ k, Saw (n k) (z k)) ∧ (∀ k, (z k).same = sm k) ∧ (∀ k, b k = (z k).kept ∧ t k = (z k).total ∧ m k = (z k).lost) ∧ ∀ k, (n k).length ≤ i) ?_ ?_ ?_⟩
      · exact ⟨ms4, _, _, _, _, _, _, _, _, _, _, _, _, _, rfl, hD4, hold2, fun k => saw_new _, fun k => rfl, fun k => ⟨rfl, rfl, rfl⟩, fun k => Nat.le_refl _⟩
      · rintro i σ H6 hi ⟨ms, n, b, t, m, z, u7, u8, u9, u10, u11, u12, u13, u14, rfl, hDm, hd, saw, same, eqs, hlen⟩
        refine ⟨_, rfl, a.d, ms, 2, rfl, hd.d, hDm, by decide, by decide, fun kv ms1 k0 k1 hDa => ?_⟩
        have h1 := hd.setD ms1
        obtain ⟨k, rfl⟩ : ∃ k : Bool, kv = (nk k : Int) := by
          have : kv = 0 ∨ kv = 1 := by omega
          rcases this with rfl | rfl
          · exact ⟨false, rfl⟩
          · exact ⟨true, rfl⟩
        have nl : (n k).length ≤ 999 := by have := hlen k; omega
        -- the latest
        refine ⟨fun v H' => ∃ y : Int, v = .int y ∧ Same (upd H6 a.d (.lst (ms1.map V.int))) H', ?_, ?_⟩
        · refine ⟨_, rfl, _, rfl, Pl, _, _, .ref (a.l k), rfl, rfl, SqL.of (fz_le _ _ h1.fP), at2 (x := fun k => .ref (a.l k)) k rfl, Nat.zero_le _, fun e he => ?_⟩
          have se := same_new he (o := .lst [])
          refine ⟨_, _, dp_ints (ns := n k) (SqL.of (se _ _ (h1.l k))), dp_nilL (SqL.of upd_same), shaped_nest (nest_ints (by omega)) (by decide), rfl, _, rfl, ?_⟩
          rw [eqv_nil]
          rcases List.eq_nil_or_concat (n k) with hn | ⟨l', y, hn⟩
          · rw [hn]
            exact iteF ⟨0, rfl, se⟩
          · rw [hn, List.concat_eq_append]
            refine iteBT ?_ ⟨_, rfl, _, rfl, Pl, _, _, .ref (a.l k), rfl, rfl, SqL.of (se _ _ (fz_le _ _ h1.fP)), at2 (x := fun k => .ref (a.l k)) k rfl, _, rfl, a.l k, _, _, .int y, rfl, rfl, SqL.of (se _ _ (h1.l k)), ?_, y, rfl, se⟩
            · cases l' <;> rfl
            · rw [hn, List.concat_eq_append, List.map_append]
              exact atI_last _ _
        rintro v H7 ⟨y, rfl, s7⟩
        have h2 := h1.same s7
        -- the place
        refine ⟨fun v H' => ∃ (Z : Int) (ms5 : List Int), v = .int Z ∧ Dice ms5 ∧ Hold4 K C a R D Pl Su r ap sm H' ms5 n b t m z, ?_, ?_⟩
        · refine ⟨_, rfl, _, rfl, _, _, rfl, rfl, _, rfl, _, _, rfl, rfl, _, rfl, _, rfl, a.d, ms1, 4, rfl, h2.d, hDa, by decide, by decide, fun w ms2 w0 w1 hDb => ?_⟩
          have h3 := h2.setD ms2
          refine ⟨(by show 5 ≤ sizeLine; decide), fun q5 hq5 => ?_⟩
          have h4 := h3.same (same_new hq5 (o := .lst [.int y, .int (y + 1), .int (y - 1), .int y, .int w]))
          refine ⟨_, rfl, a.d, ms2, 5, rfl, h4.d, hDb, by decide, by decide, fun w2 ms5 w20 w21 hDc => ?_⟩
          have h5 := h4.setD ms5
          have nq5 : q5 ≠ a.d := (ne_of_none h3.d hq5).symm
          obtain ⟨pl, hpl⟩ : ∃ p : Int, atI [V.int y, V.int (y + 1), V.int (y - 1), V.int y, V.int w] w2 = some (.int p) := by
            have : w2 = 0 ∨ w2 = 1 ∨ w2 = 2 ∨ w2 = 3 ∨ w2 = 4 := by omega
            rcases this with rfl | rfl | rfl | rfl | rfl <;> exact ⟨_, rfl⟩
          exact ⟨q5, _, _, .int pl, rfl, rfl, SqL.of (by rw [upd_ne nq5]; exact upd_same), hpl, _, _, rfl, rfl, (by show (0 : Int) < 4; decide), _, ms5, rfl, hDc, h5⟩
        rintro v H8 ⟨Z, ms5, rfl, hDc, h5⟩
        -- append
        refine ⟨_, rfl, _, rfl, Pl, _, _, .ref (a.l k), rfl, rfl, SqL.of (fz_le _ _ h5.fP), at2 (x := fun k => .ref (a.l k)) k rfl, .inl ⟨rfl, _, SqL.of (h5.l k)⟩, _, rfl, a.l k, _, _, rfl, rfl, h5.l k, small1000 (by rw [List.length_map]; omega), ?_⟩
        have h6 : Hold4 K C a R D Pl Su r ap sm (upd H8 (a.l k) (.lst ((n k).map V.int ++ [V.int Z]))) ms5 (upB n k (n k ++ [Z])) b t m z := by
          have := h5.setL k (n k ++ [Z])
          rw [List.map_append] at this
          exact this
        have sayE : saysC (z k) Z = toldOf (sm k).toNat (n k ++ [Z]) (b k) := by
          rw [(eqs k).1]
          have := hsm k
          exact (saw k).says Z (sm k).toNat (by omega) (by rw [same k]; omega)
        -- due
        refine ⟨_, rfl, _, rfl, R, _, _, .ref (r k), rfl, rfl, SqL.of (fz_le _ _ h6.fR), at2 (x := fun k => .ref (r k)) k rfl, _, rfl, _, rfl, Pl, _, _, .ref (a.l k), rfl, rfl, SqL.of (fz_le _ _ h6.fP), at2 (x := fun k => .ref (a.l k)) k rfl,
          _, rfl, _, rfl, a.be, _, _, .int (b k), rfl, rfl, SqL.of h6.be, at2 (x := fun k => .int (b k)) k rfl, ?_⟩
        refine ⟨.ref (r k), a.l k, ap k, sm k, n k ++ [Z], b k, rfl, .tup (SqT.of (fz_le _ _ (h6.fr k))) (dpa_ii _ _), (hsm k).1, (hsm k).2, (by rw [h6.l k, upB_same]), by rw [List.length_append, List.length_singleton]; omega, fun H9 s9 => ?_⟩
        rw [← sayE]
        have h7 := h6.same s9
        have nx := look_next (z k) Z
        generalize hu : saysC (z k) Z = u at nx ⊢
        refine ⟨fun σ H' => σ = [some (.ref sa), some (.ref a.d), some (.ref R), some (.ref D), some (.ref Pl), some (.ref a.be), some (.ref Su), some (.int (0 + (i : Int))), some (.int (nk k)), some (.int y), some (.int Z), some (.int u), u12, u13, u14] ∧
          Hold4 K C a R D Pl Su r ap sm H' ms5 (upB n k (n k ++ [Z])) (upB b k (lookC (z k) Z).kept) (upB t k (lookC (z k) Z).total) (upB m k (lookC (z k) Z).lost) z, ?_, ?_⟩
        · refine ⟨_, rfl, rfl, _, rfl, ?_⟩
          by_cases c : u = 0
          · refine iteNS (vint_eq c) ⟨rfl, ?_⟩
            obtain ⟨e1, e2, e3⟩ := nx
            rw [if_neg (by simp [c])] at e1
            rw [c, if_pos (by decide)] at e2
            rw [c, if_neg (by decide)] at e3
            have q1 : upB b k (lookC (z k) Z).kept = b := by
              funext j
              by_cases cj : j = k
              · subst cj; rw [upB_same, e1, (eqs j).1]
              · rw [upB_ne cj]
            have q2 : upB t k (lookC (z k) Z).total = t := by
              funext j
              by_cases cj : j = k
              · subst cj; rw [upB_same, e2, (eqs j).2.1, Int.add_zero]
              · rw [upB_ne cj]
            have q3 : upB m k (lookC (z k) Z).lost = m := by
              funext j
              by_cases cj : j = k
              · subst cj; rw [upB_same, e3, (eqs j).2.2, Int.add_zero]
              · rw [upB_ne cj]
            rw [q1, q2, q3]
            exact h7
          · obtain ⟨e1, e2, e3⟩ := nx
            rw [if_pos c] at e1
            refine iteNT (vint_ne c) ?_
            refine ⟨_, rfl, _, rfl, _, rfl, a.be, _, (nk k : Int), nk k, rfl, rfl, h7.be, ixN_nat (by cases k <;> simp [nk]), ?_⟩
            have h8 : Hold4 K C a R D Pl Su r ap sm (upd H9 a.be (.lst ([V.int (b false), V.int (b true)].set (nk k) (.int Z)))) ms5 (upB n k (n k ++ [Z])) (upB b k Z) t m z := by
              have := h7.setB (upB b k Z)
              rw [show [V.int (upB b k Z false), V.int (upB b k Z true)] = [V.int (b false), V.int (b true)].set (nk k) (.int Z) by cases k <;> rfl] at this
              exact this
            revert h8
            generalize upd H9 a.be (.lst ([V.int (b false), V.int (b true)].set (nk k) (.int Z))) = H10
            intro h8
            -- the sums
            refine ⟨fun v H' => v = .int (lookC (z k) Z).total ∧ H' = H10, ?_, ?_⟩
            · refine ⟨_, rfl, _, rfl, Su, _, _, .ref (a.s k), rfl, rfl, SqL.of (fz_le _ _ h8.fS), at2 (x := fun k => .ref (a.s k)) k rfl, a.s k, _, _, _, rfl, rfl, SqL.of (h8.s k), at_of (j := 0) rfl rfl, _, rfl, _, rfl, rfl, .inr ⟨_, rfl, _, _, rfl, rfl, .inr ⟨?_, ?_⟩, _, _, rfl, rfl, ?_, rfl⟩⟩
              · split <;> decide
              · split <;> decide
              · show V.int (t k + u * (if (!decide (V.int u = V.int 2)) = true then 1 else 0)) = _
                refine vint_eq ?_
                rw [e2, (eqs k).2.1]
                by_cases c2 : u = 2
                · rw [decide_eq_true (vint_eq c2), if_neg (by decide), if_neg (by simp [c2])]; simp
                · rw [decide_eq_false (vint_ne c2), if_pos (by decide), if_pos c2]; simp
            rintro v H11 ⟨rfl, rfl⟩
            refine ⟨_, rfl, _, rfl, Su, _, _, .ref (a.s k), rfl, rfl, SqL.of (fz_le _ _ h8.fS), at2 (x := fun k => .ref (a.s k)) k rfl, a.s k, _, 0, 0, rfl, rfl, h8.s k, rfl, ?_⟩
            have h9 : Hold4 K C a R D Pl Su r ap sm (upd H11 (a.s k) (.lst ([V.int (t k), V.int (m k)].set 0 (V.int (lookC (z k) Z).total)))) ms5 (upB n k (n k ++ [Z])) (upB b k Z) (upB t k (lookC (z k) Z).total) (upB m k (m k)) z := h8.setS k _ (m k)
            revert h9
            generalize upd H11 (a.s k) (.lst ([V.int (t k), V.int (m k)].set 0 (V.int (lookC (z k) Z).total))) = H12
            intro h9
            have hs9 := h9.s k
            rw [upB_same, upB_same] at hs9
            refine ⟨fun v H' => v = .int (lookC (z k) Z).lost ∧ H' = H12, ?_, ?_⟩
            · refine ⟨_, rfl, _, rfl, Su, _, _, .ref (a.s k), rfl, rfl, SqL.of (fz_le _ _ h9.fS), at2 (x := fun k => .ref (a.s k)) k rfl, a.s k, _, _, _, rfl, rfl, SqL.of hs9, at_of (j := 1) rfl rfl, _, rfl, rfl, .inr ⟨_, rfl, _, _, rfl, rfl, ?_, rfl⟩⟩
              show V.int (m k + (if decide (V.int u = V.int 2) = true then 1 else 0)) = _
              refine vint_eq ?_
              rw [e3, (eqs k).2.2]
              by_cases c2 : u = 2
              · rw [decide_eq_true (vint_eq c2), if_pos rfl, if_pos c2]
              · rw [decide_eq_false (vint_ne c2), if_neg (by decide), if_neg c2]
            rintro v H13 ⟨rfl, rfl⟩
            refine ⟨_, rfl, _, rfl, Su, _, _, .ref (a.s k), rfl, rfl, SqL.of (fz_le _ _ h9.fS), at2 (x := fun k => .ref (a.s k)) k rfl, a.s k, _, 1, 1, rfl, rfl, hs9, rfl, rfl, ?_⟩
            have h10 : Hold4 K C a R D Pl Su r ap sm (upd H13 (a.s k) (.lst ([V.int (lookC (z k) Z).total, V.int (m k)].set 1 (V.int (lookC (z k) Z).lost)))) ms5 (upB n k (n k ++ [Z])) (upB b k Z) (upB (upB t k (lookC (z k) Z).total) k (lookC (z k) Z).total) (upB (upB m k (m k)) k (lookC (z k) Z).lost) z := h9.setS k _ _
            have uu : ∀ {α : Type} (g : Bool → α) (x y : α), upB (upB g k x) k y = upB g k y := fun g x y => by
              funext j
              by_cases cj : j = k
              · subst cj; rw [upB_same, upB_same]
              · rw [upB_ne cj, upB_ne cj, upB_ne cj]
            rw [uu, uu] at h10
            rw [e1]
            exact h10
        -- the look
        rintro σ H9' ⟨rfl, h8⟩
        refine ⟨_, rfl, _, rfl, D, _, _, .ref (a.c k), rfl, rfl, SqL.of (fz_le _ _ h8.fC), at2 (x := fun k => .ref (a.c k)) k rfl, ?_⟩
        obtain ⟨dx, kv', mv', hck, _⟩ := id (h8.c k)
        refine ⟨a.c k, dx, _, rfl, hck, rfl, _, rfl, Z, rfl, fun p H10 hp s10 hp10 => ?_⟩
        have h9 := h8.same s10
        refine ⟨a.c k, .ref p, z k, Z, a.ps, rfl, h9.c k, by cases k <;> simp [Ad4.ps], .tup (SqT.of (by rw [fz_out (h8.live.new hp)]; exact hp10)) (dpa_ii _ _), fun H11 fr11 hc11 => ?_⟩
        rw [hu]
        have h10 := h9.setC k fr11 hc11
        refine ⟨_, rfl, .int u, .int u, .int u, rfl, .int _, .int _, trivial, fun H12 s12 => ⟨_, rfl, iteF ?_⟩⟩
        have h11 := h10.same s12
        -- counts and missed
        refine ⟨_, rfl, D, rfl, ⟨_, SqL.of (fz_le _ _ h11.fC)⟩, fun T hT => lc_it (walk_list (xs := [.ref (a.c false), .ref (a.c true)])) (fun i H' => ∃ acc, Same H12 H' ∧ H' T = some (.lst acc) ∧ acc.length = i ∧
            DpAll K (Fz [T] H') acc (([false, true].map fun j => PyData.list [.int (upB z k (lookC (z k) Z) j).total, .int (upB z k (lookC (z k) Z) j).lost]).take i))
          ⟨[], same_new hT, upd_same, rfl, .nil⟩ (fun i H' _ ⟨_, e, _⟩ => SqL.of (e _ _ (fz_le _ _ h11.fC))) ?_ ?_⟩
        · rintro i x H13 H14 hi' ⟨acc, s13, hT13, hal, hA⟩ ⟨rfl, hx⟩
          obtain ⟨j, rfl, ej⟩ : ∃ j : Bool, x = .ref (a.c j) ∧ [false, true][i]? = some j := by
            match i, hx with
            | 0, hx => cases hx; exact ⟨false, rfl, rfl⟩
            | 1, hx => cases hx; exact ⟨true, rfl, rfl⟩
          have h12 := h11.same s13
          obtain ⟨dx2, kv2, mv2, hcj, _⟩ := id (h12.c j)
          refine ⟨rfl, ⟨_, rfl, a.c j, dx2, _, rfl, hcj, rfl, a.c j, _, a.ps, rfl, h12.c j, _, rfl, a.c j, dx2, _, rfl, hcj, rfl, a.c j, _, a.ps, rfl, h12.c j, (by show 2 ≤ sizeLine; decide), fun e he => ?_⟩⟩
          have neT : T ≠ e := ne_of_none hT13 he
          have se := same_new he (o := .lst [.int (upB z k (lookC (z k) Z) j).total, .int (upB z k (lookC (z k) Z) j).lost])
          refine ⟨acc, se _ _ hT13, small1000 (by rw [hal]; simp at hi'; omega), acc ++ [.ref e], same_put hT (s13.trans se), upd_same, by rw [List.length_append, List.length_singleton, hal], ?_⟩
          have e1 : ([false, true].map fun j => PyData.list [.int (upB z k (lookC (z k) Z) j).total, .int (upB z k (lookC (z k) Z) j).lost])[i]? = some (PyData.list [.int (upB z k (lookC (z k) Z) j).total, .int (upB z k (lookC (z k) Z) j).lost]) := by
            rw [List.getElem?_map, ej]; rfl
          rw [take_snoc e1]
          refine dpa_put (dpa_same (fz_mono se) hA) ?_
          exact dp_newL (live_cons hT13 live_nil) he (.cons (.int _) (.cons (.int _) .nil))
        · rintro H13 ⟨acc, s13, hT13, hal, hA⟩
          have h12 := h11.same s13
          have q1 : ∀ j, upB t k (lookC (z k) Z).total j = (upB z k (lookC (z k) Z) j).total := fun j => by
            by_cases cj : j = k
            · subst cj; rw [upB_same, upB_same]
            · rw [upB_ne cj, upB_ne cj]; exact (eqs j).2.1
          have q2 : ∀ j, upB m k (lookC (z k) Z).lost j = (upB z k (lookC (z k) Z) j).lost := fun j => by
            by_cases cj : j = k
            · subst cj; rw [upB_same, upB_same]
            · rw [upB_ne cj, upB_ne cj]; exact (eqs j).2.2
          have q3 : ∀ j, upB b k (lookC (z k) Z).kept j = (upB z k (lookC (z k) Z) j).kept := fun j => by
            by_cases cj : j = k
            · subst cj; rw [upB_same, upB_same]
            · rw [upB_ne cj, upB_ne cj]; exact (eqs j).1
          have hsd : ∀ j, Dp K H13 (.ref (a.s j)) (PyData.list [.int (upB z k (lookC (z k) Z) j).total, .int (upB z k (lookC (z k) Z) j).lost]) := fun j => by
            rw [← q1, ← q2]
            exact .lst (SqL.of (h12.s j)) (.cons (.int _) (.cons (.int _) .nil))
          refine ⟨_, rfl, _, rfl, .ref T, .ref Su, _, rfl, .lst (SqL.of hT13) (dpa_same fz_le hA), .lst (SqL.of (fz_le _ _ h12.fS)) (.cons (hsd false) (.cons (hsd true) .nil)), ?_, fun H14 s14 => ⟨_, rfl, iteF ?_⟩⟩
          · refine ⟨by show 2 ≤ 1000; decide, fun d hd => ?_⟩
            simp at hd
            rcases hd with rfl | rfl <;> exact ⟨by show 2 ≤ 1000; decide, fun x hx => by simp at hx; rcases hx with rfl | rfl <;> trivial⟩
          refine ⟨ms5, _, _, _, _, upB z k (lookC (z k) Z), _, _, _, _, _, _, _, _, rfl, hDc, h12.same s14, fun j => ?_, fun j => ?_, fun j => ⟨q3 j, q1 j, q2 j⟩, fun j => ?_⟩
          · by_cases cj : j = k
            · subst cj; rw [upB_same, upB_same]; exact (saw j).look Z
            · rw [upB_ne cj, upB_ne cj]; exact saw j
          · by_cases cj : j = k
            · subst cj; rw [upB_same, look_same]; exact same j
            · rw [upB_ne cj]; exact same j
          · by_cases cj : j = k
            · subst cj; rw [upB_same, List.length_append, List.length_singleton]; have := hlen j; omega
            · rw [upB_ne cj]; have := hlen j; omega
      · rintro σ H6 ⟨ms, n, b, t, m, z, u7, u8, u9, u10, u11, u12, u13, u14, rfl, hDm, hd, saw, same, eqs, hlen⟩
        exact k H6
end
theorem all_mk {l : PySem.W.OpenLaw} {w : World} {K : PySem.W.Frag} {h : Heap} {mg : Str → Option Value} {fa : Addr} (X : K.In h) (G : h.Ns mainGlobals mg) (hfa : mg "law" = some (.ref fa))
    {f1 : Addr} {od1 an1 : Option Addr} {sl1 : Array (Option Value)} {oc1 kV1 dc1 pm1 cd1 ct1 : Value}
    {f2 : Addr} {od2 an2 : Option Addr} {sl2 : Array (Option Value)} {oc2 kV2 dc2 pm2 cd2 ct2 : Value}
    {f3 : Addr} {od3 an3 : Option Addr} {sl3 : Array (Option Value)} {oc3 kV3 dc3 pm3 cd3 ct3 : Value}
    {f4 : Addr} {od4 an4 : Option Addr} {sl4 : Array (Option Value)} {oc4 kV4 dc4 pm4 cd4 ct4 : Value}
    {f5 : Addr} {od5 an5 : Option Addr} {sl5 : Array (Option Value)} {oc5 kV5 dc5 pm5 cd5 ct5 : Value}
    {f6 : Addr} {od6 an6 : Option Addr} {sl6 : Array (Option Value)} {oc6 kV6 dc6 pm6 cd6 ct6 : Value}
    {f7 : Addr} {od7 an7 : Option Addr} {sl7 : Array (Option Value)} {oc7 kV7 dc7 pm7 cd7 ct7 : Value}
    {f8 : Addr} {od8 an8 : Option Addr} {sl8 : Array (Option Value)} {oc8 kV8 dc8 pm8 cd8 ct8 : Value}
    {f9 : Addr} {od9 an9 : Option Addr} {sl9 : Array (Option Value)} {oc9 kV9 dc9 pm9 cd9 ct9 : Value}
    {tg_MISSED : Tok}
    {tg_MOST_APART : Tok}
    {tg_MOST_SAME : Tok}
    {aP p0 p1 p2 p3 : Addr}
    {nP0 : Nat} {slP0 : Array (Option Value)}
    {odP1 : Option Addr} {nP1 : Nat} {slP1 : Array (Option Value)}
    {u00 u01 : Tok}
    {odP2 : Option Addr} {nP2 : Nat} {slP2 : Array (Option Value)}
    {u10 u11 : Tok}
    {odP3 : Option Addr} {nP3 : Nat} {slP3 : Array (Option Value)}
    {u20 u21 : Tok}
    {odP4 : Option Addr} {nP4 : Nat} {slP4 : Array (Option Value)}
    {u30 u31 : Tok}
    {C_Counter : Addr}
    {fCounterxinitx : Addr} {odCounterxinitx anCounterxinitx : Option Addr} {slCounterxinitx : Array (Option Value)} {ocCounterxinitx kVCounterxinitx dcCounterxinitx pmCounterxinitx cdCounterxinitx ctCounterxinitx : Value}
    {fCounterlook : Addr} {odCounterlook anCounterlook : Option Addr} {slCounterlook : Array (Option Value)} {ocCounterlook kVCounterlook dcCounterlook pmCounterlook cdCounterlook ctCounterlook : Value}
    {fCountercount : Addr} {odCountercount anCountercount : Option Addr} {slCountercount : Array (Option Value)} {ocCountercount kVCountercount dcCountercount pmCountercount cdCountercount ctCountercount : Value}
    {fCountermissed : Addr} {odCountermissed anCountermissed : Option Addr} {slCountermissed : Array (Option Value)} {ocCountermissed kVCountermissed dcCountermissed pmCountermissed cdCountermissed ctCountermissed : Value}
    (a1 : PySem.W.nsIn K mainGlobals "_law_dice" = some (some (.ref f1)))
    (l1 : K.lookup f1 = some ⟨oc1, od1, .func (PySem.W.fnOf "_law_dice" "_law_dice" (defArgs (top 12)) (defBody (top 12)) (defScope (top 12)) .none kV1 dc1 pm1 an1 cd1 ct1), sl1⟩)
    (c1 : PySem.W.codeIn K cd1 "_law_dice" = true)
    (k1 : PySem.W.keepIn K (.ref f1) = true)
    (a2 : PySem.W.nsIn K mainGlobals "_law_off" = some (some (.ref f2)))
    (l2 : K.lookup f2 = some ⟨oc2, od2, .func (PySem.W.fnOf "_law_off" "_law_off" (defArgs (top 13)) (defBody (top 13)) (defScope (top 13)) .none kV2 dc2 pm2 an2 cd2 ct2), sl2⟩)
    (c2 : PySem.W.codeIn K cd2 "_law_off" = true)
    (k2 : PySem.W.keepIn K (.ref f2) = true)
    (a3 : PySem.W.nsIn K mainGlobals "_law_reader" = some (some (.ref f3)))
    (l3 : K.lookup f3 = some ⟨oc3, od3, .func (PySem.W.fnOf "_law_reader" "_law_reader" (defArgs (top 15)) (defBody (top 15)) (defScope (top 15)) .none kV3 dc3 pm3 an3 cd3 ct3), sl3⟩)
    (c3 : PySem.W.codeIn K cd3 "_law_reader" = true)
    (k3 : PySem.W.keepIn K (.ref f3) = true)
    (a4 : PySem.W.nsIn K mainGlobals "_law_pair" = some (some (.ref f4)))
    (l4 : K.lookup f4 = some ⟨oc4, od4, .func (PySem.W.fnOf "_law_pair" "_law_pair" (defArgs (top 16)) (defBody (top 16)) (defScope (top 16)) .none kV4 dc4 pm4 an4 cd4 ct4), sl4⟩)
    (c4 : PySem.W.codeIn K cd4 "_law_pair" = true)
    (k4 : PySem.W.keepIn K (.ref f4) = true)
    (a5 : PySem.W.nsIn K mainGlobals "_law_tells" = some (some (.ref f5)))
    (l5 : K.lookup f5 = some ⟨oc5, od5, .func (PySem.W.fnOf "_law_tells" "_law_tells" (defArgs (top 17)) (defBody (top 17)) (defScope (top 17)) .none kV5 dc5 pm5 an5 cd5 ct5), sl5⟩)
    (c5 : PySem.W.codeIn K cd5 "_law_tells" = true)
    (k5 : PySem.W.keepIn K (.ref f5) = true)
    (a6 : PySem.W.nsIn K mainGlobals "_law_told" = some (some (.ref f6)))
    (l6 : K.lookup f6 = some ⟨oc6, od6, .func (PySem.W.fnOf "_law_told" "_law_told" (defArgs (top 18)) (defBody (top 18)) (defScope (top 18)) .none kV6 dc6 pm6 an6 cd6 ct6), sl6⟩)
    (c6 : PySem.W.codeIn K cd6 "_law_told" = true)
    (k6 : PySem.W.keepIn K (.ref f6) = true)
    (a7 : PySem.W.nsIn K mainGlobals "need_reader" = some (some (.ref f7)))
    (l7 : K.lookup f7 = some ⟨oc7, od7, .func (PySem.W.fnOf "need_reader" "need_reader" (defArgs (top 7)) (defBody (top 7)) (defScope (top 7)) .none kV7 dc7 pm7 an7 cd7 ct7), sl7⟩)
    (c7 : PySem.W.codeIn K cd7 "need_reader" = true)
    (k7 : PySem.W.keepIn K (.ref f7) = true)
    (a8 : PySem.W.nsIn K mainGlobals "_law_alike" = some (some (.ref f8)))
    (l8 : K.lookup f8 = some ⟨oc8, od8, .func (PySem.W.fnOf "_law_alike" "_law_alike" (defArgs (top 14)) (defBody (top 14)) (defScope (top 14)) .none kV8 dc8 pm8 an8 cd8 ct8), sl8⟩)
    (c8 : PySem.W.codeIn K cd8 "_law_alike" = true)
    (k8 : PySem.W.keepIn K (.ref f8) = true)
    (a9 : PySem.W.nsIn K mainGlobals "law" = some (some (.ref f9)))
    (l9 : K.lookup f9 = some ⟨oc9, od9, .func (PySem.W.fnOf "law" "law" (defArgs (top 19)) (defBody (top 19)) (defScope (top 19)) .none kV9 dc9 pm9 an9 cd9 ct9), sl9⟩)
    (c9 : PySem.W.codeIn K cd9 "law" = true)
    (k9 : PySem.W.keepIn K (.ref f9) = true)
    (zg_MISSED : PySem.W.nsIn K mainGlobals "MISSED" = some (some (.int 2 tg_MISSED)))
    (zg_MOST_APART : PySem.W.nsIn K mainGlobals "MOST_APART" = some (some (.int 6 tg_MOST_APART)))
    (zg_MOST_SAME : PySem.W.nsIn K mainGlobals "MOST_SAME" = some (some (.int 3 tg_MOST_SAME)))
    (zP : PySem.W.nsIn K mainGlobals "PAIRS" = some (some (.ref aP)))
    (zP0 : K.lookup aP = some ⟨.type "tuple", none, .seq #[.ref p0, .ref p1, .ref p2, .ref p3] nP0, slP0⟩)
    (zP1 : K.lookup p0 = some ⟨.type "tuple", odP1, .seq #[.int 0 u00, .int 0 u01] nP1, slP1⟩)
    (zP2 : K.lookup p1 = some ⟨.type "tuple", odP2, .seq #[.int 0 u10, .int 1 u11] nP2, slP2⟩)
    (zP3 : K.lookup p2 = some ⟨.type "tuple", odP3, .seq #[.int 1 u20, .int 1 u21] nP3, slP3⟩)
    (zP4 : K.lookup p3 = some ⟨.type "tuple", odP4, .seq #[.int 1 u30, .int 0 u31] nP4, slP4⟩)
    (zn_abs : PySem.W.nsIn K mainGlobals "abs" = some none)
    (zn_all : PySem.W.nsIn K mainGlobals "all" = some none)
    (zn_bool : PySem.W.nsIn K mainGlobals "bool" = some none)
    (zn_int : PySem.W.nsIn K mainGlobals "int" = some none)
    (zn_isinstance : PySem.W.nsIn K mainGlobals "isinstance" = some none)
    (zn_len : PySem.W.nsIn K mainGlobals "len" = some none)
    (zn_list : PySem.W.nsIn K mainGlobals "list" = some none)
    (zn_range : PySem.W.nsIn K mainGlobals "range" = some none)
    (zn_str : PySem.W.nsIn K mainGlobals "str" = some none)
    (zn_tuple : PySem.W.nsIn K mainGlobals "tuple" = some none)
    (zCCounter : PySem.W.nsIn K mainGlobals "Counter" = some (some (.ref C_Counter)))
    (pgCounter : PySem.W.plainGet K C_Counter Str.empty = true)
    (hdCounter : PySem.W.hasDictIn K C_Counter = true)
    (poCounter : PySem.W.plainOver K C_Counter = true)
    (saCounter : PySem.W.findIn K (.ref C_Counter) "__setattr__" = some (some (.builtin "object.__setattr__")))
    (mkCounter : PySem.W.makesIn K C_Counter = true)
    (kcCounter : PySem.W.keepIn K (.ref C_Counter) = true)
    (na_Counter_same : PySem.W.findIn K (.ref C_Counter) "same" = some none)
    (na_Counter_kept : PySem.W.findIn K (.ref C_Counter) "kept" = some none)
    (na_Counter_met : PySem.W.findIn K (.ref C_Counter) "met" = some none)
    (na_Counter_many : PySem.W.findIn K (.ref C_Counter) "many" = some none)
    (na_Counter_total : PySem.W.findIn K (.ref C_Counter) "total" = some none)
    (na_Counter_lost : PySem.W.findIn K (.ref C_Counter) "lost" = some none)
    (aCounterxinitx : PySem.W.findIn K (.ref C_Counter) "__init__" = some (some (.ref fCounterxinitx)))
    (lCounterxinitx : K.lookup fCounterxinitx = some ⟨ocCounterxinitx, odCounterxinitx, .func (PySem.W.fnOf "__init__" "Counter.__init__" (defArgs (inClass (top 10) 0)) (defBody (inClass (top 10) 0)) (defScope (inClass (top 10) 0)) .none kVCounterxinitx dcCounterxinitx pmCounterxinitx anCounterxinitx cdCounterxinitx ctCounterxinitx), slCounterxinitx⟩)
    (cCounterxinitx : PySem.W.codeIn K cdCounterxinitx "Counter.__init__" = true)
    (kCounterxinitx : PySem.W.keepIn K (.ref fCounterxinitx) = true)
    (iCounterxinitx : PySem.W.isFn K (.ref fCounterxinitx) = true)
    (aCounterlook : PySem.W.findIn K (.ref C_Counter) "look" = some (some (.ref fCounterlook)))
    (lCounterlook : K.lookup fCounterlook = some ⟨ocCounterlook, odCounterlook, .func (PySem.W.fnOf "look" "Counter.look" (defArgs (inClass (top 10) 1)) (defBody (inClass (top 10) 1)) (defScope (inClass (top 10) 1)) .none kVCounterlook dcCounterlook pmCounterlook anCounterlook cdCounterlook ctCounterlook), slCounterlook⟩)
    (cCounterlook : PySem.W.codeIn K cdCounterlook "Counter.look" = true)
    (kCounterlook : PySem.W.keepIn K (.ref fCounterlook) = true)
    (iCounterlook : PySem.W.isFn K (.ref fCounterlook) = true)
    (aCountercount : PySem.W.findIn K (.ref C_Counter) "count" = some (some (.ref fCountercount)))
    (lCountercount : K.lookup fCountercount = some ⟨ocCountercount, odCountercount, .func (PySem.W.fnOf "count" "Counter.count" (defArgs (inClass (top 10) 2)) (defBody (inClass (top 10) 2)) (defScope (inClass (top 10) 2)) .none kVCountercount dcCountercount pmCountercount anCountercount cdCountercount ctCountercount), slCountercount⟩)
    (cCountercount : PySem.W.codeIn K cdCountercount "Counter.count" = true)
    (kCountercount : PySem.W.keepIn K (.ref fCountercount) = true)
    (iCountercount : PySem.W.isFn K (.ref fCountercount) = true)
    (aCountermissed : PySem.W.findIn K (.ref C_Counter) "missed" = some (some (.ref fCountermissed)))
    (lCountermissed : K.lookup fCountermissed = some ⟨ocCountermissed, odCountermissed, .func (PySem.W.fnOf "missed" "Counter.missed" (defArgs (inClass (top 10) 3)) (defBody (inClass (top 10) 3)) (defScope (inClass (top 10) 3)) .none kVCountermissed dcCountermissed pmCountermissed anCountermissed cdCountermissed ctCountermissed), slCountermissed⟩)
    (cCountermissed : PySem.W.codeIn K cdCountermissed "Counter.missed" = true)
    (kCountermissed : PySem.W.keepIn K (.ref fCountermissed) = true)
    (iCountermissed : PySem.W.isFn K (.ref fCountermissed) = true)
    : ∃ fd : FuncData, (∀ (s : Shared) (v : Value), BindsTo s fd ⟨[v], []⟩ [("_law_script", v)]) ∧ ∀ base : Heap, K.In base → base.Ns mainGlobals mg → FnOk l.prog w K mg base CX0 5 fa fd ["_law_script"] (spLaw K) := by
  have e := hfa.symm.trans (PySem.W.mg_of X G a9)
  cases e
  have F1 := fun_mk (st := top 12) l1 c1 k1
  have b1 := F1.binds (ps := ["_law_script", "_law_k"]) fun _ _ _ _ _ _ us hl => match us, hl with | [_, _], _ => rfl
  have F2 := fun_mk (st := top 13) l2 c2 k2
  have b2 := F2.binds (ps := ["_law_d", "_law_most"]) fun _ _ _ _ _ _ us hl => match us, hl with | [_, _], _ => rfl
  have F3 := fun_mk (st := top 15) l3 c3 k3
  have b3 := F3.binds (ps := ["_law_d"]) fun _ _ _ _ _ _ us hl => match us, hl with | [_], _ => rfl
  have F4 := fun_mk (st := top 16) l4 c4 k4
  have b4 := F4.binds (ps := ["_law_place"]) fun _ _ _ _ _ _ us hl => match us, hl with | [_], _ => rfl
  have F5 := fun_mk (st := top 17) l5 c5 k5
  have b5 := F5.binds (ps := ["_law_by"]) fun _ _ _ _ _ _ us hl => match us, hl with | [_], _ => rfl
  have F6 := fun_mk (st := top 18) l6 c6 k6
  have b6 := F6.binds (ps := ["_law_reader_here", "_law_places", "_law_believed"]) fun _ _ _ _ _ _ us hl => match us, hl with | [_, _, _], _ => rfl
  have F7 := fun_mk (st := top 7) l7 c7 k7
  have b7 := F7.binds (ps := ["reader"]) fun _ _ _ _ _ _ us hl => match us, hl with | [_], _ => rfl
  have F8 := fun_mk (st := top 14) l8 c8 k8
  have b8 := F8.binds (ps := ["_law_found", "_law_due"]) fun _ _ _ _ _ _ us hl => match us, hl with | [_, _], _ => rfl
  have F9 := fun_mk (st := top 19) l9 c9 k9
  have b9 := F9.binds (ps := ["_law_script"]) fun _ _ _ _ _ _ us hl => match us, hl with | [_], _ => rfl
  have g_MISSED := PySem.W.mg_of X G zg_MISSED
  have g_MOST_APART := PySem.W.mg_of X G zg_MOST_APART
  have g_MOST_SAME := PySem.W.mg_of X G zg_MOST_SAME
  have g_PAIRS := PySem.W.mg_of X G zP
  have pk : PairsK K aP p0 p1 p2 p3 := ⟨⟨_, zP0, rfl, rfl⟩, knT_of zP0 rfl (by show 4 ≤ sizeLine; decide) (.cons rfl (.cons rfl (.cons rfl (.cons rfl .nil)))), knT_of zP1 rfl (by show 2 ≤ sizeLine; decide) (.cons ⟨_, rfl⟩ (.cons ⟨_, rfl⟩ .nil)), knT_of zP2 rfl (by show 2 ≤ sizeLine; decide) (.cons ⟨_, rfl⟩ (.cons ⟨_, rfl⟩ .nil)), knT_of zP3 rfl (by show 2 ≤ sizeLine; decide) (.cons ⟨_, rfl⟩ (.cons ⟨_, rfl⟩ .nil)), knT_of zP4 rfl (by show 2 ≤ sizeLine; decide) (.cons ⟨_, rfl⟩ (.cons ⟨_, rfl⟩ .nil))⟩
  have n_abs := PySem.W.mg_none_of X G zn_abs
  have n_all := PySem.W.mg_none_of X G zn_all
  have n_bool := PySem.W.mg_none_of X G zn_bool
  have n_int := PySem.W.mg_none_of X G zn_int
  have n_isinstance := PySem.W.mg_none_of X G zn_isinstance
  have n_len := PySem.W.mg_none_of X G zn_len
  have n_list := PySem.W.mg_none_of X G zn_list
  have n_range := PySem.W.mg_none_of X G zn_range
  have n_str := PySem.W.mg_none_of X G zn_str
  have n_tuple := PySem.W.mg_none_of X G zn_tuple
  have cl_Counter : Cls K C_Counter := ⟨pgCounter, hdCounter, poCounter, saCounter⟩
  have ck : CtrK K C_Counter := ⟨cl_Counter, na_Counter_same, na_Counter_kept, na_Counter_met, na_Counter_many, na_Counter_total, na_Counter_lost⟩
  have FCounterxinitx := fun_mk (st := inClass (top 10) 0) lCounterxinitx cCounterxinitx kCounterxinitx
  have bCounterxinitx := FCounterxinitx.binds (ps := ["self", "reader"]) fun _ _ _ _ _ _ us hl => match us, hl with | [_, _], _ => rfl
  have FCounterlook := fun_mk (st := inClass (top 10) 1) lCounterlook cCounterlook kCounterlook
  have bCounterlook := FCounterlook.binds (ps := ["self", "pair"]) fun _ _ _ _ _ _ us hl => match us, hl with | [_, _], _ => rfl
  have FCountercount := fun_mk (st := inClass (top 10) 2) lCountercount cCountercount kCountercount
  have bCountercount := FCountercount.binds (ps := ["self"]) fun _ _ _ _ _ _ us hl => match us, hl with | [_], _ => rfl
  have FCountermissed := fun_mk (st := inClass (top 10) 3) lCountermissed cCountermissed kCountermissed
  have bCountermissed := FCountermissed.binds (ps := ["self"]) fun _ _ _ _ _ _ us hl => match us, hl with | [_], _ => rfl
  refine ⟨PySem.W.fnOf "law" "law" (defArgs (top 19)) (defBody (top 19)) (defScope (top 19)) .none kV9 dc9 pm9 an9 cd9 ct9, fun s v => .of_eq rfl, fun base _ _ => ?_⟩
  have c__law_alike : Cal l.prog w K mg base 1 "_law_alike" ["_law_found", "_law_due"] (spAlike K 0) := ⟨f8, _, ok_alike0 F8, PySem.W.mg_of X G a8, k8, b8⟩
  have c__law_alike : Cal l.prog w K mg base 2 "_law_alike" ["_law_found", "_law_due"] (spAlike K 1) := ⟨f8, _, ok_alikeS F8 c__law_alike n_isinstance n_bool n_int n_str n_tuple n_list n_len n_all n_range, PySem.W.mg_of X G a8, k8, b8⟩
  have c__law_alike : Cal l.prog w K mg base 3 "_law_alike" ["_law_found", "_law_due"] (spAlike K 2) := ⟨f8, _, ok_alikeS F8 c__law_alike n_isinstance n_bool n_int n_str n_tuple n_list n_len n_all n_range, PySem.W.mg_of X G a8, k8, b8⟩
  have c__law_alike : Cal l.prog w K mg base 4 "_law_alike" ["_law_found", "_law_due"] (spAlike K 3) := ⟨f8, _, ok_alikeS F8 c__law_alike n_isinstance n_bool n_int n_str n_tuple n_list n_len n_all n_range, PySem.W.mg_of X G a8, k8, b8⟩
  have c__law_dice : Cal l.prog w K mg base 1 "_law_dice" ["_law_script", "_law_k"] (spDice K) := ⟨f1, _, ok_dice F1 n_abs, PySem.W.mg_of X G a1, k1, b1⟩
  have c__law_off : Cal l.prog w K mg base 1 "_law_off" ["_law_d", "_law_most"] (spOff) := ⟨f2, _, ok_off F2 n_len, PySem.W.mg_of X G a2, k2, b2⟩
  have c__law_reader : Cal l.prog w K mg base 2 "_law_reader" ["_law_d"] (spReader) := ⟨f3, _, ok_reader F3 c__law_off, PySem.W.mg_of X G a3, k3, b3⟩
  have c__law_pair : Cal l.prog w K mg base 1 "_law_pair" ["_law_place"] (spPair K) := ⟨f4, _, ok_pair F4 , PySem.W.mg_of X G a4, k4, b4⟩
  have c__law_tells : Cal l.prog w K mg base 1 "_law_tells" ["_law_by"] (spTells) := ⟨f5, _, ok_tells F5 , PySem.W.mg_of X G a5, k5, b5⟩
  have c__law_told : Cal l.prog w K mg base 2 "_law_told" ["_law_reader_here", "_law_places", "_law_believed"] (spTold K) := ⟨f6, _, ok_told F6 n_len c__law_tells, PySem.W.mg_of X G a6, k6, b6⟩
  have c_need_reader : Cal l.prog w K mg base 1 "need_reader" ["reader"] (spNeedReader K) := ⟨f7, _, ok_need_reader F7 g_MOST_APART g_MOST_SAME, PySem.W.mg_of X G a7, k7, b7⟩
  have m_Counter : Mkr l.prog w K mg base 2 C_Counter "Counter" ["self", "reader"] (spCtr K C_Counter) := ⟨fCounterxinitx, _, ok_cinit FCounterxinitx ck g_PAIRS pk c_need_reader, PySem.W.mg_of X G zCCounter, ⟨mkCounter, aCounterxinitx, iCounterxinitx, kcCounter⟩, bCounterxinitx⟩
  have m_look : Mtd l.prog w K mg base 1 C_Counter "look" ["self", "pair"] (spLook K C_Counter) := ⟨fCounterlook, _, ok_look FCounterlook ck g_PAIRS pk g_MISSED, ⟨aCounterlook, iCounterlook, kCounterlook⟩, bCounterlook⟩
  have m_count : Mtd l.prog w K mg base 1 C_Counter "count" ["self"] (spCount K C_Counter) := ⟨fCountercount, _, ok_count FCountercount ck, ⟨aCountercount, iCountercount, kCountercount⟩, bCountercount⟩
  have m_missed : Mtd l.prog w K mg base 1 C_Counter "missed" ["self"] (spMissed K C_Counter) := ⟨fCountermissed, _, ok_missed FCountermissed ck, ⟨aCountermissed, iCountermissed, kCountermissed⟩, bCountermissed⟩
  exact ok_law F9 ck n_range n_int c__law_dice c__law_off c__law_reader c__law_pair c__law_told c__law_alike m_Counter m_look m_count m_missed
theorem walk {l : PySem.W.OpenLaw} {q : Program} {loose : List Str} {XP : (Str → Option Value) → Heap → Prop} {YP : World → Heap → Prop} {d : DefRec} {K : Params → PySem.W.Frag} (hn : l.most = some 63) (hdf : d.params.defaults = []) (hY : ∀ (w : World) (h : Heap), YP w h → (K w.params).In h)
    (F : ∀ (w : World) (mg : Str → Option Value) (fa : Addr) (h : Heap), (K w.params).In h → h.Ns mainGlobals mg → mg d.name = some (.ref fa) → ∃ fd : FuncData, (∀ (s : Shared) (u : Value), BindsTo s fd ⟨[u], []⟩ [("_law_script", u)]) ∧
      ∀ base : Heap, (K w.params).In base → base.Ns mainGlobals mg → FnOk l.prog w (K w.params) mg base CX0 5 fa fd ["_law_script"] (spLaw (K w.params))) :
    PySem.W.WalkO q loose XP YP l.row.toRowW d [] (fun f vs => PySem.call f vs) :=
  L2.walk_of (n := 63) (k := 5) (x := "_law_script") (CX := fun _ => CX0) (sp := fun w => spLaw (K w.params)) hn (by decide) hdf ⟨rfl, by decide, by decide⟩ hY F (fun _ _ a ns hl _ hS => ⟨a, ns, rfl, hS, hl, fun _ => rfl⟩) fun _ _ _ _ _ z => z
end KT
open PySem PySem.W PyProof.Rows in
set_option maxRecDepth 100000 in
set_option maxHeartbeats 0 in
theorem PySem.Challenge.cw_knobturn_k04_counters_by_any_pairs_holds : PySem.Challenge.rw_knobturn_k04_counters_by_any_pairs.Holds := by
  w_on; o_law; k_head; (case hw => w_witness2)
  k_fill
  refine KT.walk (l := PySem.Challenge.rw_knobturn_k04_counters_by_any_pairs) rfl rfl (fun w h Y => PySem.W.kIn_of Y) ?F
  case F =>
    intro w mg fa h KX G hmg
    refine' KT.all_mk KX G hmg ?a1 ?l1 ?c1 ?k1 ?a2 ?l2 ?c2 ?k2 ?a3 ?l3 ?c3 ?k3 ?a4 ?l4 ?c4 ?k4 ?a5 ?l5 ?c5 ?k5 ?a6 ?l6 ?c6 ?k6 ?a7 ?l7 ?c7 ?k7 ?a8 ?l8 ?c8 ?k8 ?a9 ?l9 ?c9 ?k9 ?zg_MISSED ?zg_MOST_APART ?zg_MOST_SAME ?zP ?zP0 ?zP1 ?zP2 ?zP3 ?zP4 ?zn_abs ?zn_all ?zn_bool ?zn_int ?zn_isinstance ?zn_len ?zn_list ?zn_range ?zn_str ?zn_tuple ?zCCounter ?pgCounter ?hdCounter ?poCounter ?saCounter ?mkCounter ?kcCounter ?na_Counter_same ?na_Counter_kept ?na_Counter_met ?na_Counter_many ?na_Counter_total ?na_Counter_lost ?aCounterxinitx ?lCounterxinitx ?cCounterxinitx ?kCounterxinitx ?iCounterxinitx ?aCounterlook ?lCounterlook ?cCounterlook ?kCounterlook ?iCounterlook ?aCountercount ?lCountercount ?cCountercount ?kCountercount ?iCountercount ?aCountermissed ?lCountermissed ?cCountermissed ?kCountermissed ?iCountermissed
    (case a1 => k_is)
    (case l1 => k_is)
    (case c1 => k_is)
    (case k1 => k_is)
    (case a2 => k_is)
    (case l2 => k_is)
    (case c2 => k_is)
    (case k2 => k_is)
    (case a3 => k_is)
    (case l3 => k_is)
    (case c3 => k_is)
    (case k3 => k_is)
    (case a4 => k_is)
    (case l4 => k_is)
    (case c4 => k_is)
    (case k4 => k_is)
    (case a5 => k_is)
    (case l5 => k_is)
    (case c5 => k_is)
    (case k5 => k_is)
    (case a6 => k_is)
    (case l6 => k_is)
    (case c6 => k_is)
    (case k6 => k_is)
    (case a7 => k_is)
    (case l7 => k_is)
    (case c7 => k_is)
    (case k7 => k_is)
    (case a8 => k_is)
    (case l8 => k_is)
    (case c8 => k_is)
    (case k8 => k_is)
    (case a9 => k_is)
    (case l9 => k_is)
    (case c9 => k_is)
    (case k9 => k_is)
    (case zg_MISSED => k_is)
    (case zg_MOST_APART => k_is)
    (case zg_MOST_SAME => k_is)
    (case zP => k_is)
    (case zP0 => k_is)
    (case zP1 => k_is)
    (case zP2 => k_is)
    (case zP3 => k_is)
    (case zP4 => k_is)
    (case zn_abs => k_is)
    (case zn_all => k_is)
    (case zn_bool => k_is)
    (case zn_int => k_is)
    (case zn_isinstance => k_is)
    (case zn_len => k_is)
    (case zn_list => k_is)
    (case zn_range => k_is)
    (case zn_str => k_is)
    (case zn_tuple => k_is)
    (case zCCounter => k_is)
    (case pgCounter => k_is)
    (case hdCounter => k_is)
    (case poCounter => k_is)
    (case saCounter => k_is)
    (case mkCounter => k_is)
    (case kcCounter => k_is)
    (case na_Counter_same => k_is)
    (case na_Counter_kept => k_is)
    (case na_Counter_met => k_is)
    (case na_Counter_many => k_is)
    (case na_Counter_total => k_is)
    (case na_Counter_lost => k_is)
    (case aCounterxinitx => k_is)
    (case lCounterxinitx => k_is)
    (case cCounterxinitx => k_is)
    (case kCounterxinitx => k_is)
    (case iCounterxinitx => k_is)
    (case aCounterlook => k_is)
    (case lCounterlook => k_is)
    (case cCounterlook => k_is)
    (case kCounterlook => k_is)
    (case iCounterlook => k_is)
    (case aCountercount => k_is)
    (case lCountercount => k_is)
    (case cCountercount => k_is)
    (case kCountercount => k_is)
    (case iCountercount => k_is)
    (case aCountermissed => k_is)
    (case lCountermissed => k_is)
    (case cCountermissed => k_is)
    (case kCountermissed => k_is)
    (case iCountermissed => k_is)
