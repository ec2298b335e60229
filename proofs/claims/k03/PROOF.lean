import PyProof.Rows.All
import Wide.All
import OpenK.AllK
import Wide.FinOn
import HandS.ForMost
import HandS.IsInst
import HandS.Codes
import HandS.Walk
import PySem.Challenge.RW_knobturn_k03_what_wires_show
set_option Elab.async false
set_option linter.all false
set_option maxRecDepth 100000
/-! # Heaps with some places hidden, data read off a heap, calls in short -/
namespace KT
open PySem L2

/-! ### heaps with some places hidden -/
def Fz (ps : List Addr) (H : Hp) : Hp := fun a => if a ∈ ps then none else H a
section
variable {ps qs : List Addr} {H H' H1 H2 : Hp} {a b p : Addr} {o : HO} {K : PySem.W.Frag}
theorem fz_out (h : a ∉ ps) : Fz ps H a = H a := if_neg h
theorem fz_in (h : a ∈ ps) : Fz ps H a = none := if_pos h
theorem fz_some : Fz ps H a = some o ↔ a ∉ ps ∧ H a = some o := by
  unfold Fz
  by_cases h : a ∈ ps
  · rw [if_pos h]; simp [h]
  · rw [if_neg h]; simp [h]
theorem fz_nil : Fz [] H = H := by funext a; exact fz_out (by simp)
theorem fz_le : Same (Fz ps H) H := fun b o h => (fz_some.mp h).2
theorem fz_less (h : ∀ a ∈ ps, a ∈ qs) : Same (Fz qs H) (Fz ps H) := fun b o e => by
  obtain ⟨n, e⟩ := fz_some.mp e
  exact fz_some.mpr ⟨fun z => n (h b z), e⟩
theorem fz_tail : Same (Fz (a :: ps) H) (Fz ps H) := fz_less fun _ h => List.mem_cons_of_mem _ h
theorem fz_mono (h : Same H H') : Same (Fz ps H) (Fz ps H') := fun b o e => by
  obtain ⟨n, e⟩ := fz_some.mp e
  exact fz_some.mpr ⟨n, h b o e⟩
/-- a store at a hidden place -/
theorem fz_set (h : a ∈ ps) : Fz ps (upd H a o) = Fz ps H := by
  funext b
  by_cases hb : b ∈ ps
  · rw [fz_in hb, fz_in hb]
  · rw [fz_out hb, fz_out hb, upd_ne (fun z : b = a => hb (by rw [z]; exact h))]
theorem same_new (h : H a = none) : Same H (upd H a o) := fun b u e => by
  rw [upd_ne (ne_of_none e h)]
  exact e
theorem same_put (h : H a = none) (e : Same H H') : Same H (upd H' a o) := fun b u q => by
  rw [upd_ne (ne_of_none q h)]
  exact e b u q
def Live (ps : List Addr) (H : Hp) : Prop := ∀ p ∈ ps, H p ≠ none
theorem live_nil : Live [] H := fun _ h => by cases h
theorem live_cons (h : H a = some o) (l : Live ps H) : Live (a :: ps) H := fun p hp => by
  rcases List.mem_cons.mp hp with rfl | hp
  · rw [h]; exact fun z => by cases z
  · exact l p hp
theorem Live.tail (l : Live (a :: ps) H) : Live ps H := fun p hp => l p (List.mem_cons_of_mem _ hp)
theorem Live.new (l : Live ps H) (h : H a = none) : a ∉ ps := fun z => l a z h
theorem Live.mono (l : Live ps H) (e : Same H H') : Live ps H' := fun p hp z => by
  cases q : H p with
  | none => exact l p hp q
  | some o => rw [e p o q] at z; cases z
theorem Live.upd (l : Live ps H) : Live ps (upd H a o) := fun p hp z => by
  by_cases h : p = a
  · rw [h, upd_same] at z; cases z
  · rw [upd_ne h] at z; exact l p hp z
theorem fz_new (h : a ∉ ps) : Fz ps (upd H a o) = upd (Fz ps H) a o := by
  funext b
  by_cases hb : b = a
  · rw [hb, fz_out h, upd_same, upd_same]
  · rw [upd_ne hb]
    by_cases hp : b ∈ ps
    · rw [fz_in hp, fz_in hp]
    · rw [fz_out hp, fz_out hp, upd_ne hb]
theorem same_fz (h : ∀ p ∈ ps, H p = none) (e : Same H H') : Same H (Fz ps H') := fun b o q => fz_some.mpr ⟨(fun z => by rw [h b z] at q; cases q), e b o q⟩
/-- all but the hidden places is as it was -/
def Frm (ps : List Addr) (H H' : Hp) : Prop := ∀ b o, b ∉ ps → H b = some o → H' b = some o
theorem Frm.refl : Frm ps H H := fun _ _ _ h => h
theorem Frm.trans (a : Frm ps H H1) (b : Frm ps H1 H2) : Frm ps H H2 := fun c o n h => b c o n (a c o n h)
theorem Frm.fz (a : Frm ps H H') : Same (Fz ps H) (Fz ps H') := fun b o e => by
  obtain ⟨n, e⟩ := fz_some.mp e
  exact fz_some.mpr ⟨n, a b o n e⟩
theorem Frm.of_same (a : Same H H') : Frm ps H H' := fun b o _ h => a b o h
theorem Frm.mono (h : ∀ a ∈ ps, a ∈ qs) (a : Frm ps H H') : Frm qs H H' := fun b o n e => a b o (fun z => n (h b z)) e
theorem Frm.set (h : a ∈ ps) : Frm ps H (upd H a o) := fun b u n e => by
  rw [upd_ne (fun z : b = a => n (by rw [z]; exact h))]
  exact e
theorem Frm.new (h : H a = none) : Frm ps H (upd H a o) := Frm.of_same (same_new h)
/-- what is new may change -/
theorem Frm.off (e : Frm (a :: ps) H H') (h : H a = none) : Frm ps H H' := fun b o n q => e b o (fun z => by
  rcases List.mem_cons.mp z with rfl | z
  · rw [h] at q; cases q
  · exact n z) q
theorem Frm.same (e : Frm [] H H') : Same H H' := fun b o h => e b o (by simp) h
theorem same_seqT {xs : List V} (e : Same H H') (h : SqT K H a xs) : SqT K H' a xs := by
  rcases h with (h | ⟨o, h⟩) | h
  · exact .inl (.inl (e _ _ h))
  · exact .inl (.inr ⟨o, e _ _ h⟩)
  · exact .inr h
end

/-! ### lists -/
theorem int_at {ns : List Int} {i : Nat} {y : V} (h : (ns.map V.int)[i]? = some y) : ∃ z, ns[i]? = some z ∧ y = V.int z := by
  rw [List.getElem?_map] at h
  cases e : ns[i]? with
  | none => rw [e] at h; cases h
  | some z => rw [e] at h; exact ⟨z, rfl, (Option.some.inj h).symm⟩
theorem ixN_nat {n j : Nat} (h : j < n) : ixN n (j : Int) = some j := by
  unfold ixN
  simp [h]
theorem seqIndex_nat {n j : Nat} (h : j < n) : seqIndex? (j : Int) n = some j := by
  have e : ¬ ((j : Int) < 0) := by omega
  unfold seqIndex?
  simp [h, e]
theorem upd_id {H : Hp} {a : Addr} {o : HO} (h : H a = some o) : upd H a o = H := by
  funext b
  by_cases e : b = a
  · rw [e, upd_same, h]
  · rw [upd_ne e]
theorem min2 (a b : Int) : min a b = if b < a then b else a := by
  rw [Int.min_def]
  by_cases h : b < a
  · rw [if_pos h, if_neg (by omega)]
  · rw [if_neg h, if_pos (by omega)]
/-! ### tests -/
theorem iteNT {c A B : Prop} [Decidable c] (hc : ¬ c) (h : A) : if (!decide c) = true then A else B := by
  rw [decide_eq_false hc]
  exact iteT h
theorem iteDT {c A B : Prop} [Decidable c] (hc : c) (h : A) : if decide c = true then A else B := by
  rw [decide_eq_true hc]
  exact iteT h
theorem iteDF {c A B : Prop} [Decidable c] (hc : ¬ c) (h : B) : if decide c = true then A else B := by
  rw [decide_eq_false hc]
  exact iteF h
theorem iteBT {b : Bool} {A B : Prop} (hb : b = true) (h : A) : if b = true then A else B := by rw [if_pos hb]; exact h
theorem iteBF {b : Bool} {A B : Prop} (hb : b = false) (h : B) : if b = true then A else B := by rw [hb]; exact iteF h
theorem iteB {b : Bool} {A B : Prop} (h1 : b = true → A) (h2 : b = false → B) : if b = true then A else B := by
  cases b with
  | true => exact iteT (h1 rfl)
  | false => exact iteF (h2 rfl)
theorem vint_ne {i j : Int} (h : i ≠ j) : V.int i ≠ V.int j := fun e => h (V.int.inj e)
theorem vint_eq {i j : Int} (h : i = j) : V.int i = V.int j := congrArg V.int h
/-! ### data -/
section
variable {K : PySem.W.Frag} {H H' : Hp} {ps : List Addr}
mutual
theorem dp_same (e : Same H H') : ∀ {v : V} {d : PyData}, Dp K H v d → Dp K H' v d
  | _, _, .non => .non
  | _, _, .bl b => .bl b
  | _, _, .int i => .int i
  | _, _, .str x => .str x
  | _, _, .lst h a => .lst (e.seq h) (dpa_same e a)
  | _, _, .tup h a => .tup (same_seqT e h) (dpa_same e a)
theorem dpa_same (e : Same H H') : ∀ {vs : List V} {ds : List PyData}, DpAll K H vs ds → DpAll K H' vs ds
  | _, _, .nil => .nil
  | _, _, .cons h t => .cons (dp_same e h) (dpa_same e t)
end
theorem dp_fz {v : V} {d : PyData} (h : Dp K (Fz ps H) v d) : Dp K H v d := dp_same fz_le h
theorem dpa_length : ∀ {vs : List V} {ds : List PyData}, DpAll K H vs ds → vs.length = ds.length
  | _, _, .nil => rfl
  | _, _, .cons _ t => congrArg (· + 1) (dpa_length t)
theorem dpa_get : ∀ {vs : List V} {ds : List PyData} {i : Nat} {v : V}, DpAll K H vs ds → vs[i]? = some v → ∃ d, ds[i]? = some d ∧ Dp K H v d
  | _, _, _, _, .nil, e => by simp at e
  | _, _, 0, _, .cons h _, e => by simp at e; subst e; exact ⟨_, rfl, h⟩
  | _, _, i + 1, v, .cons _ t, e => by
    obtain ⟨d, h1, h2⟩ := dpa_get (i := i) (v := v) t (by simpa using e)
    exact ⟨d, by simpa using h1, h2⟩
theorem dpa_at : ∀ {vs : List V} {ds : List PyData} {i : Nat} {d : PyData}, DpAll K H vs ds → ds[i]? = some d → ∃ v, vs[i]? = some v ∧ Dp K H v d
  | _, _, _, _, .nil, e => by simp at e
  | _, _, 0, _, .cons h _, e => by simp at e; subst e; exact ⟨_, rfl, h⟩
  | _, _, i + 1, d, .cons _ t, e => by
    obtain ⟨v, h1, h2⟩ := dpa_at (i := i) (d := d) t (by simpa using e)
    exact ⟨v, by simpa using h1, h2⟩
theorem dpa_append : ∀ {vs us : List V} {ds es : List PyData}, DpAll K H vs ds → DpAll K H us es → DpAll K H (vs ++ us) (ds ++ es)
  | _, _, _, _, .nil, t => t
  | _, _, _, _, .cons h t, u => .cons h (dpa_append t u)
theorem dpa_snoc {vs : List V} {ds : List PyData} {v : V} {d : PyData} (h : DpAll K H vs ds) (q : Dp K H v d) : DpAll K H (vs ++ [v]) (ds ++ [d]) := dpa_append h (.cons q .nil)
theorem dpa_take : ∀ {vs : List V} {ds : List PyData} (n : Nat), DpAll K H vs ds → DpAll K H (vs.take n) (ds.take n)
  | _, _, 0, _ => by simp; exact .nil
  | _, _, _ + 1, .nil => by simp; exact .nil
  | _, _, n + 1, .cons h t => .cons h (dpa_take n t)
theorem dpa_drop : ∀ {vs : List V} {ds : List PyData} (n : Nat), DpAll K H vs ds → DpAll K H (vs.drop n) (ds.drop n)
  | _, _, 0, h => h
  | _, _, _ + 1, .nil => by simp; exact .nil
  | _, _, n + 1, .cons _ t => dpa_drop n t
theorem dpa_ints : ∀ (ns : List Int), DpAll K H (ns.map V.int) (ns.map PyData.int)
  | [] => .nil
  | n :: r => .cons (.int n) (dpa_ints r)
theorem dpa_ints_eq : ∀ {ns : List Int} {vs : List V}, DpAll K H vs (ns.map PyData.int) → vs = ns.map V.int
  | [], _, h => by cases h; rfl
  | n :: r, _, h => by
    cases h with
    | cons q t => cases q; rw [dpa_ints_eq t]; rfl
theorem dpa_map {α : Type} {f : α → PyData} : ∀ {l : List α} {vs : List V}, (∀ (i : Nat) (v : V), vs[i]? = some v → ∃ x, l[i]? = some x ∧ Dp K H v (f x)) → vs.length = l.length → DpAll K H vs (l.map f)
  | [], [], _, _ => .nil
  | [], _ :: _, _, e => by simp at e
  | _ :: _, [], _, e => by simp at e
  | x :: l, v :: vs, h, e => by
    obtain ⟨y, h1, h2⟩ := h 0 v rfl
    have : x = y := Option.some.inj h1
    subst this
    exact .cons h2 (dpa_map (fun i u q => h (i + 1) u q) (by simpa using e))
theorem dpa_map_at {α : Type} {f : α → PyData} {l : List α} {vs : List V} {i : Nat} {v : V} (h : DpAll K H vs (l.map f)) (e : vs[i]? = some v) : ∃ x, l[i]? = some x ∧ Dp K H v (f x) := by
  obtain ⟨d, h1, h2⟩ := dpa_get h e
  rw [List.getElem?_map] at h1
  cases q : l[i]? with
  | none => rw [q] at h1; cases h1
  | some x => rw [q] at h1; cases h1; exact ⟨x, rfl, h2⟩
theorem dp_int {v : V} {i : Int} (h : Dp K H v (.int i)) : v = .int i := by cases h; rfl
theorem dp_bl {v : V} {b : Bool} (h : Dp K H v (.bool b)) : v = .bl b := by cases h; rfl
theorem dp_str {v : V} {x : Str} (h : Dp K H v (.str x)) : v = .str x := by cases h; rfl
theorem dp_non {v : V} (h : Dp K H v .none) : v = .non := by cases h; rfl
theorem dp_lst {v : V} {ds : List PyData} (h : Dp K H v (.list ds)) : ∃ a xs, v = .ref a ∧ SqL K H a xs ∧ DpAll K H xs ds := by
  cases h with | lst h a => exact ⟨_, _, rfl, h, a⟩
theorem dp_tup {v : V} {ds : List PyData} (h : Dp K H v (.tuple ds)) : ∃ a xs, v = .ref a ∧ SqT K H a xs ∧ DpAll K H xs ds := by
  cases h with | tup h a => exact ⟨_, _, rfl, h, a⟩
/-- a pair of plain things -/
theorem dp_two {v : V} {d e : PyData} (h : Dp K H v (.tuple [d, e])) : ∃ a x y, v = .ref a ∧ SqT K H a [x, y] ∧ Dp K H x d ∧ Dp K H y e := by
  obtain ⟨a, xs, rfl, h, t⟩ := dp_tup h
  cases t with
  | cons h1 t =>
    cases t with
    | cons h2 t => cases t; exact ⟨a, _, _, rfl, h, h1, h2⟩
theorem dp_ii {v : V} {i j : Int} (h : Dp K H v (.tuple [.int i, .int j])) : ∃ a, v = .ref a ∧ SqT K H a [.int i, .int j] := by
  obtain ⟨a, x, y, rfl, h, h1, h2⟩ := dp_two h
  rw [dp_int h1, dp_int h2] at h
  exact ⟨a, rfl, h⟩
theorem dp_ib {v : V} {i : Int} {b : Bool} (h : Dp K H v (.tuple [.int i, .bool b])) : ∃ a, v = .ref a ∧ SqT K H a [.int i, .bl b] := by
  obtain ⟨a, x, y, rfl, h, h1, h2⟩ := dp_two h
  rw [dp_int h1, dp_bl h2] at h
  exact ⟨a, rfl, h⟩
/-- a new tuple, a new list -/
theorem dp_newT {a : Addr} {xs : List V} {ds : List PyData} (l : Live ps H) (h : H a = none) (t : DpAll K (Fz ps H) xs ds) : Dp K (Fz ps (upd H a (.tup xs))) (.ref a) (.tuple ds) := by
  rw [fz_new (l.new h)]
  refine .tup (SqT.of upd_same) (dpa_same (same_new ?_) t)
  rw [fz_out (l.new h)]; exact h
theorem dp_newL {a : Addr} {xs : List V} {ds : List PyData} (l : Live ps H) (h : H a = none) (t : DpAll K (Fz ps H) xs ds) : Dp K (Fz ps (upd H a (.lst xs))) (.ref a) (.list ds) := by
  rw [fz_new (l.new h)]
  refine .lst (SqL.of upd_same) (dpa_same (same_new ?_) t)
  rw [fz_out (l.new h)]; exact h
/-- a list that was being made is let go -/
theorem dp_doneL {a : Addr} {xs : List V} {ds : List PyData} (n : a ∉ ps) (h : H a = some (.lst xs)) (t : DpAll K (Fz (a :: ps) H) xs ds) : Dp K (Fz ps H) (.ref a) (.list ds) :=
  .lst (SqL.of (by rw [fz_out n]; exact h)) (dpa_same fz_tail t)
/-- found.append((..)), found hidden -/
theorem dpa_push {a t : Addr} {o : HO} {xs ys : List V} {ds es : List PyData} (l : Live (a :: ps) H) (ht : H t = none) (h : DpAll K (Fz (a :: ps) H) xs ds) (q : DpAll K (Fz (a :: ps) H) ys es) :
    DpAll K (Fz (a :: ps) (upd (upd H t (.tup ys)) a o)) (xs ++ [.ref t]) (ds ++ [.tuple es]) := by
  rw [fz_set (List.mem_cons_self ..)]
  exact dpa_snoc (dpa_same (fz_mono (same_new ht)) h) (dp_newT l ht q)
theorem dpa_put {a : Addr} {o : HO} {v : V} {d : PyData} {xs : List V} {ds : List PyData} (h : DpAll K (Fz (a :: ps) H) xs ds) (q : Dp K (Fz (a :: ps) H) v d) :
    DpAll K (Fz (a :: ps) (upd H a o)) (xs ++ [v]) (ds ++ [d]) := by
  rw [fz_set (List.mem_cons_self ..)]
  exact dpa_snoc h q
theorem dpa_ii (i j : Int) : DpAll K H [.int i, .int j] [.int i, .int j] := .cons (.int i) (.cons (.int j) .nil)
theorem dpa_ib (i : Int) (b : Bool) : DpAll K H [.int i, .bl b] [.int i, .bool b] := .cons (.int i) (.cons (.bl b) .nil)
/-- the types that isinstance sees -/
theorem ty_lst {a : Addr} {xs : List V} (h : SqL K H a xs) : TyX K H (.ref a) (.type "list") := by
  rcases h with (h | ⟨o, h⟩) | ⟨o, its, n, h, c, _⟩
  · exact .base (.lst h)
  · exact .base (.frz h)
  · exact .kList h c
theorem ty_tup {a : Addr} {xs : List V} (h : SqT K H a xs) : TyX K H (.ref a) (.type "tuple") := by
  rcases h with (h | ⟨o, h⟩) | ⟨o, its, n, h, c, _⟩
  · exact .base (.tup h)
  · exact .fTuple h
  · exact .kTuple h c
end

/-! ### calls in short -/
/-- a def of the module: it keeps sp -/
def Cal (P : Program) (w : World) (K : PySem.W.Frag) (mg : Str → Option Value) (base : Heap) (k : Nat) (x : Str) (ps : List Str) (sp : Sp) : Prop :=
  ∃ f fd, FnOk P w K mg base CX0 k f fd ps sp ∧ mg x = some (.ref f) ∧ PySem.W.keepIn K (.ref f) = true ∧ Binds K fd ps []
/-- a method of the class at C -/
def Mtd (P : Program) (w : World) (K : PySem.W.Frag) (mg : Str → Option Value) (base : Heap) (k : Nat) (C : Addr) (m : Str) (ps : List Str) (sp : Sp) : Prop :=
  ∃ f fd, FnOk P w K mg base CX0 k f fd ps sp ∧ Meth K C m f ∧ Binds K fd ps []
/-- a class that is called -/
def Mkr (P : Program) (w : World) (K : PySem.W.Frag) (mg : Str → Option Value) (base : Heap) (k : Nat) (C : Addr) (x : Str) (ps : List Str) (sp : Sp) : Prop :=
  ∃ f fd, FnOk P w K mg base CX0 k f fd ps sp ∧ mg x = some (.ref C) ∧ Mk K C f ∧ Binds K fd ps []
section
variable {X : Cx} {k : Nat} {C : Addr} {x m : Str} {qs : List Str} {sp : Sp} {p pos apos : Pos} {e o : Expr} {es : List Expr} {t : TA} {ta : TE}
/-! rules whose readings name K plainly (within a comprehension X.K does not do) -/
def rLenQ (K : PySem.W.Frag) : List V → Hp → VK → Prop := fun xs H Q => ∃ p ys, xs = [.ref p] ∧ (SqL K H p ys ∨ SqT K H p ys) ∧ Q (.int ys.length) H
theorem call_lenQ : CallR X (.builtin "len") (rLenQ X.K) := call_len_seq
def rListQ (K : PySem.W.Frag) : List V → Hp → VK → Prop := fun xs H Q => ∃ p ys, xs = [.ref p] ∧ (SqL K H p ys ∨ SqT K H p ys) ∧ ∀ l, H l = none → Q (.ref l) (upd H l (.lst ys))
theorem call_listQ : CallR X (.type "list") (rListQ X.K) := call_list_of
def rTupleQ (K : PySem.W.Frag) : List V → Hp → VK → Prop := fun xs H Q => ∃ p ys, xs = [.ref p] ∧ ((SqL K H p ys ∧ ∀ l, H l = none → Q (.ref l) (upd H l (.tup ys))) ∨ (SqT K H p ys ∧ Q (.ref p) H))
theorem call_tupleQ : CallR X (.type "tuple") (rTupleQ X.K) := call_tuple_of
theorem pe_fldK {K : PySem.W.Frag} {f : Str} (hK : X.K = K) (he : PE X e ta) (hb : attributeBase e f X.env (eval e X.env) = eval e X.env := by rfl) : PE X (.Attribute e f pos) (tFld K ta f) := by
  subst hK
  exact pe_fld he hb
/-- a word between an expression and what follows -/
def tCutE (t : TE) : TE := fun σ H Q => ∃ R : VK, t σ H R ∧ ∀ v H', R v H' → Q v H'
theorem pe_cut {t : TE} (h : PE X e t) : PE X e (tCutE t) := ⟨fun pins s σ H Q I ⟨R, h1, h2⟩ => thn (h.run pins s σ H R I h1) fun v s1 ⟨x, H1, I1, r1, q1⟩ => ⟨x, H1, I1, r1, h2 _ _ q1⟩⟩
def tCutT (t : TT) : TT := fun σ H Q => ∃ R : Bool → Hp → Prop, t σ H R ∧ ∀ v H', R v H' → Q v H'
theorem pt_cut {t : TT} (h : PT X e t) : PT X e (tCutT t) := ⟨fun pins s σ H Q I ⟨R, h1, h2⟩ => thn (h.run pins s σ H R I h1) fun v s1 ⟨H1, I1, q1⟩ => ⟨H1, I1, h2 _ _ q1⟩⟩
theorem pe_cal (c : Cal X.prog X.w X.K X.mg X.base k x qs sp) (hr : Room k X.A) (ha : PA X (e :: es) t) (hg : Gl X x := by rfl) (hdb : (x == ("__debug__" : Str)) = false := by decide)
    (he : starEach (e :: es) X.env = (false, eval e X.env) :: starEach es X.env := by rfl) (hpl : (backTo pos (starEach es X.env)).any (·.1) = false := by rfl) : PE X (.Call (.Name x p) (e :: es) [] pos) (tCall sp [] E0 t) := by
  obtain ⟨f, fd, F, hm, hk, hb⟩ := c
  exact pe_call F hr hg hm hk hb .nil pass0 ha hdb he hpl
theorem pe_cal0 (c : Cal X.prog X.w X.K X.mg X.base k x qs sp) (hr : Room k X.A) (hg : Gl X x := by rfl) (hdb : (x == ("__debug__" : Str)) = false := by decide) : PE X (.Call (.Name x p) [] [] pos) (tCall sp [] E0 tNil) := by
  obtain ⟨f, fd, F, hm, hk, hb⟩ := c
  exact pe_call0 F hr hg hm hk hb .nil pass0 hdb
theorem pe_mtd {pl : Sem Bool} (c : Mtd X.prog X.w X.K X.mg X.base k C m qs sp) (cl : Cls X.K C) (hr : Room k X.A) (he : PE X o ta) (ha : PA X (e :: es) t)
    (hst : starEach (e :: es) X.env = (false, eval e X.env) :: starEach es X.env := by rfl) (hpl : (backTo pos (starEach es X.env)).any (·.1) = false := by rfl)
    (ht : eval (.Call (.Attribute o m apos) (e :: es) [] pos) X.env = (do
      let ov ← eval o X.env
      standAt apos.atName
      let (f, first) ← holding [ov] (getMethod ov m pl)
      callWith pos f first (backTo pos (starEach (e :: es) X.env)) (backToKw pos (keywordEach [] X.env))) := by rfl) :
    PE X (.Call (.Attribute o m apos) (e :: es) [] pos) (tMeth C m sp [] E0 ta t) := by
  obtain ⟨f, fd, F, hm, hb⟩ := c
  exact pe_meth he cl hm F hr hb .nil pass0 ha hst hpl ht
theorem pe_mtd0 {pl : Sem Bool} (c : Mtd X.prog X.w X.K X.mg X.base k C m qs sp) (cl : Cls X.K C) (hr : Room k X.A) (he : PE X o ta)
    (ht : eval (.Call (.Attribute o m apos) [] [] pos) X.env = (do
      let ov ← eval o X.env
      standAt apos.atName
      let (f, first) ← holding [ov] (getMethod ov m pl)
      callWith pos f first (backTo pos (starEach [] X.env)) (backToKw pos (keywordEach [] X.env))) := by rfl) :
    PE X (.Call (.Attribute o m apos) [] [] pos) (tMeth C m sp [] E0 ta tNil) := by
  obtain ⟨f, fd, F, hm, hb⟩ := c
  exact pe_meth0 he cl hm F hr hb .nil pass0 ht
theorem pe_mkr (c : Mkr X.prog X.w X.K X.mg X.base k C x qs sp) (hr : Room (k + 1) X.A) (ha : PA X (e :: es) t) (hg : Gl X x := by rfl) (hdb : (x == ("__debug__" : Str)) = false := by decide)
    (he : starEach (e :: es) X.env = (false, eval e X.env) :: starEach es X.env := by rfl) (hpl : (backTo pos (starEach es X.env)).any (·.1) = false := by rfl) : PE X (.Call (.Name x p) (e :: es) [] pos) (tMake C sp [] E0 t) := by
  obtain ⟨f, fd, F, hm, M, hb⟩ := c
  exact pe_make M F hr hg hm hb .nil pass0 ha hdb he hpl
end
end KT

namespace KT
open PySem L2
def top (i : Nat) : Stmt := PySem.Challenge.pw_knobturn_k03_what_wires_show.main.body.getD i (.Pass ⟨0, 0, 0, 0⟩)
/-! ### rows: what a knob can go -/
abbrev Mv := Int × Bool
/-- moments since the latest turn (at most gap), whether it ever turned; one moment on -/
def stp (gap : Int) (s : Int × Bool) (m : Mv) : Int × Bool := (min gap ((if m.1 = 0 then s.1 else 0) + 1), s.2 || decide (m.1 ≠ 0))
def rst (gap : Int) (row : List Mv) : Int × Bool := row.foldl (stp gap) (gap, false)
structure OkM (gap bounce : Int) (s : Int × Bool) (m : Mv) : Prop where
  turn : m.1 = -1 ∨ m.1 = 0 ∨ m.1 = 1
  soon : m.1 ≠ 0 → gap ≤ s.1
  old : m.2 = true → (s.2 = true ∨ m.1 ≠ 0) ∧ (if m.1 = 0 then s.1 else 0) < bounce
structure Good (gap bounce : Int) (row : List Mv) : Prop where
  len : row.length ≤ 200
  ok : ∀ (i : Nat) (m : Mv), row[i]? = some m → OkM gap bounce (rst gap (row.take i)) m
theorem take_snoc {α : Type} {l : List α} {i : Nat} {x : α} (h : l[i]? = some x) : l.take (i + 1) = l.take i ++ [x] := by
  rw [List.take_add_one, h]
  rfl
theorem rst_snoc {gap : Int} {row : List Mv} {i : Nat} {m : Mv} (h : row[i]? = some m) : rst gap (row.take (i + 1)) = stp gap (rst gap (row.take i)) m := by
  unfold rst
  rw [take_snoc h, List.foldl_append]
  rfl
theorem rst_app {gap : Int} {row : List Mv} {m : Mv} : rst gap (row ++ [m]) = stp gap (rst gap row) m := by
  unfold rst
  rw [List.foldl_append]
  rfl
theorem good_snoc {gap bounce : Int} {row : List Mv} {m : Mv} (h : Good gap bounce row) (hl : row.length < 200) (hm : OkM gap bounce (rst gap row) m) : Good gap bounce (row ++ [m]) := by
  refine ⟨by rw [List.length_append, List.length_singleton]; omega, fun i x hx => ?_⟩
  by_cases hi : i < row.length
  · rw [List.getElem?_append_left hi] at hx
    rw [List.take_append_of_le_length (by omega)]
    exact h.ok i x hx
  · have hi2 : i = row.length := by
      have := (List.getElem?_eq_some_iff.mp hx).1
      rw [List.length_append, List.length_singleton] at this
      omega
    subst hi2
    simp at hx
    subst hx
    rw [List.take_append_of_le_length (Nat.le_refl _), List.take_length]
    exact hm
theorem good_nil {gap bounce : Int} : Good gap bounce [] := ⟨by simp, fun i m h => by simp at h⟩
def mvD (m : Mv) : PyData := .tuple [.int m.1, .bool m.2]
def rowD (row : List Mv) : PyData := .list (row.map mvD)
def knD (g b : Int) : PyData := .tuple [.int g, .int b]
/-- (where the knob is, which the latest turn was) -/
def pst (s : Int × Int) (m : Mv) : Int × Int := (s.1 + m.1, if m.1 = 0 then s.2 else m.1)
def pas (row : List Mv) : Int × Int := row.foldl pst (0, 0)
/-- what is told of a moment: where the knob is, where it is seen to be -/
def seenOf (s : Int × Int) (old : Bool) : Int × Int := (s.1, if old then s.1 - s.2 else s.1)
def plcs (row : List Mv) : List (Int × Int) := (List.range row.length).map fun i => match row[i]? with
  | some m => seenOf (pas (row.take (i + 1))) m.2
  | none => (0, 0)
theorem pas_snoc {row : List Mv} {i : Nat} {m : Mv} (h : row[i]? = some m) : pas (row.take (i + 1)) = pst (pas (row.take i)) m := by
  unfold pas
  rw [take_snoc h, List.foldl_append]
  rfl
theorem plcs_take {row : List Mv} {i : Nat} (hi : i ≤ row.length) : plcs (row.take i) = (plcs row).take i := by
  unfold plcs
  rw [List.length_take, Nat.min_eq_left hi, ← List.map_take, List.take_range, Nat.min_eq_left hi]
  refine List.map_congr_left fun j hj => ?_
  have hj : j < i := List.mem_range.mp hj
  rw [List.getElem?_take, if_pos hj, List.take_take, Nat.min_eq_left hj]
theorem plcs_snoc {row : List Mv} {i : Nat} {m : Mv} (h : row[i]? = some m) : plcs (row.take (i + 1)) = plcs (row.take i) ++ [seenOf (pst (pas (row.take i)) m) m.2] := by
  have hi := (List.getElem?_eq_some_iff.mp h).1
  rw [plcs_take hi, plcs_take (Nat.le_of_lt hi), List.take_add_one]
  have e : (plcs row)[i]? = some (seenOf (pst (pas (row.take i)) m) m.2) := by
    unfold plcs
    rw [List.getElem?_map, List.getElem?_range hi, Option.map_some, h]
    show some (seenOf (pas (row.take (i + 1))) m.2) = _
    rw [pas_snoc h]
  rw [e]
  rfl
theorem plcs_length (row : List Mv) : (plcs row).length = row.length := by unfold plcs; simp
def ppD (p : Int × Int) : PyData := .tuple [.int p.1, .int p.2]
/-- what both wires show in a place -/
def pr (z : Int) : Int × Int := if z % 4 = 0 then (0, 0) else if z % 4 = 1 then (0, 1) else if z % 4 = 2 then (1, 1) else (1, 0)
/-! ### the dice -/
/-- the numbers of the dice: a number below 2 ^ 31, what is left of a great number, great numbers -/
def Dice (ns : List Int) : Prop := ∃ (a b : Int) (r : List Int), ns = a :: b :: r ∧ 0 ≤ a ∧ a < 2147483647 ∧ 0 ≤ b ∧ (∀ x ∈ r, 0 < x) ∧ r.length ≤ 63
def spDice (K : PySem.W.Frag) : Sp := fun vs H Q _ => ∃ (a : Addr) (ns : List Int), vs = [.ref a, .int 0] ∧ SqL K H a (ns.map V.int) ∧ ns.length ≤ 63 ∧
  ∀ (p : Addr) (ms : List Int) (H' : Hp), H p = none → Same H H' → H' p = some (.lst (ms.map V.int)) → Dice ms → Q (.ref p) H'
/-- a draw below m: any -/
def spOff : Sp := fun vs H Q _ => ∃ (d : Addr) (ns : List Int) (m : Int), vs = [.ref d, .int m] ∧ H d = some (.lst (ns.map V.int)) ∧ Dice ns ∧ 0 < m ∧ m < 1073741824 ∧
  ∀ (v : Int) (ms : List Int), 0 ≤ v → v < m → Dice ms → Q (.int v) (upd H d (.lst (ms.map V.int)))
section
variable {P : Program} {w : World} {K : PySem.W.Frag} {mg : Str → Option Value} {base : Heap}
theorem sc_dice : FnScope ["_law_script", "_law_k", "_law_found", "_law_cell"] ["_law_script", "_law_k"] (defScope (top 13)) := ⟨rfl, rfl, rfl, by decide +kernel, rfl, by decide +kernel, by decide +kernel⟩
theorem ok_dice {f : Addr} {fd : FuncData} (F : Fun K "_law_dice" "_law_dice" (top 13) f fd) (n_abs : mg "abs" = none) : FnOk P w K mg base CX0 1 f fd ["_law_script", "_law_k"] (spDice K) := by
  have sc := sc_dice
  refine F.ok sc (fun vs H Q E h => ?_) (fun cdv A outer s H vs Q E hr h => ?_)
  · obtain ⟨a, ns, rfl, _⟩ := h
    rfl
  · obtain ⟨a, ns, rfl, hS, hlen, k⟩ := h
    refine ⟨_, (pss_cons (ps_set (i := 2) sc.nd rfl (Or.inl rfl) (pv 1))
(pss_cons (ps_for PassesOwn.never rfl (pi_list (pv 0)) (pg_name (i := 3) sc.nd rfl (Or.inl rfl))
(pss_one (ps_set (i := 2) sc.nd rfl (Or.inl rfl) (pe_op op_mod (pe_op op_add (pe_op op_mul (pv 2) pe_int) (pe_callB call_abs (by rfl) n_abs (by decide +kernel) (pa_cons (pv 3) pa_nil))) pe_int))))
(pss_one (ps_ret (pe_op op_cat (pe_lst (pa_cons (pv 2) (pa_cons pe_int pa_nil))) (pe_lc (own := [("_law_cell", 3)]) (g := gName 3) rfl sc.nd (pi_list (pv 0)) (blkOk_by (own := [("_law_cell", 3)]) (N := ["_law_script", "_law_k", "_law_found", "_law_cell"]) (sc := defScope (top 13)) (by decide +kernel)) (fun _ _ _ _ _ => (pg_name (i := 3) sc.nd rfl (Or.inl rfl))) (fun _ _ _ _ _ => (pts_one (pt_cmpR op_ge (pv 3) (pe_op op_pow pe_int pe_int) (nomark _)))) (fun _ _ _ _ _ => (pv 3)))))))), ?_⟩
    refine ⟨_, rfl, _, rfl, a, rfl, ⟨_, hS⟩, for_list (K := K) (a := a) (xs := ns.map V.int) (fun i σ H' => ∃ (f : Int) (v : Option V), σ = [some (.ref a), some (.int 0), some (.int f), v] ∧ 0 ≤ f ∧ f < 2147483647 ∧ H' = H)
      ⟨0, none, rfl, by omega, by omega, rfl⟩ (fun i σ H' _ ⟨_, _, _, _, _, e⟩ => by rw [e]; exact hS) ?_ ?_⟩
    · rintro i y σ H' hi ⟨f, v, rfl, f0, f1, rfl⟩
      obtain ⟨z, _, rfl⟩ := int_at hi
      refine ⟨_, rfl, _, _, rfl, rfl, .inl ⟨by omega, by omega⟩, _, rfl, _, rfl, _, _, rfl, rfl, _, _, rfl, rfl, (by show (0 : Int) < 2147483647; decide), ?_⟩
      exact ⟨_, _, rfl, Int.emod_nonneg _ (by decide), Int.emod_lt_of_pos _ (by decide), rfl⟩
    · rintro σ H' ⟨f, v, rfl, f0, f1, rfl⟩
      refine ⟨_, rfl, (by show 2 ≤ sizeLine; decide), fun l hl => ?_⟩
      have s1 : Same H' (upd H' l (.lst [.int f, .int 0])) := same_new hl
      refine ⟨_, rfl, a, rfl, ⟨_, s1.seq hS⟩, fun D hD => lc_list (K := K) (a := a) (xs := ns.map V.int) (fun i H2 => ∃ ms : List Int, H2 = upd (upd H' l (.lst [.int f, .int 0])) D (.lst (ms.map V.int)) ∧ (∀ x ∈ ms, 0 < x) ∧ ms.length ≤ i)
        ⟨[], rfl, by simp, by simp⟩ (fun i H2 _ ⟨ms, e, _⟩ => by rw [e]; exact (s1.trans (same_new hD)).seq hS) ?_ ?_⟩
      · rintro i y H2 hi ⟨ms, rfl, hp, hm⟩
        obtain ⟨z, hz, rfl⟩ := int_at hi
        have hil := (List.getElem?_eq_some_iff.mp hz).1
        refine ⟨rfl, _, rfl, _, _, rfl, rfl, ⟨by decide, by decide, by decide⟩, _, _, rfl, rfl, _, rfl, ?_⟩
        by_cases c : (10 : Int) ^ (18 : Int).toNat ≤ z
        · rw [decide_eq_true c]
          refine iteT ⟨_, rfl, ms.map V.int, upd_same, ?_, ms ++ [z], ?_, ?_, ?_⟩
          · rw [List.length_map]; exact small1000 (by omega)
          · rw [upd_upd, List.map_append]; rfl
          · intro x hx
            rcases List.mem_append.mp hx with hx | hx
            · exact hp x hx
            · rw [List.mem_singleton.mp hx]
              have : (10 : Int) ^ (18 : Int).toNat = 1000000000000000000 := by decide
              omega
          · rw [List.length_append, List.length_singleton]; omega
        · rw [decide_eq_false c]
          exact iteF ⟨ms, rfl, hp, by omega⟩
      · rintro H2 ⟨ms, rfl, hms, hm⟩
        rw [List.length_map] at hm
        have nl : l ≠ D := fun z => by rw [z, upd_same] at hD; cases hD
        refine ⟨l, D, [.int f, .int 0], ms.map V.int, rfl, rfl, (by rw [upd_ne nl, upd_same]), upd_same, ?_, fun p hp => ?_⟩
        · rw [List.length_map]
          exact Nat.le_of_lt (small1000 (by show 2 + ms.length ≤ 1000; omega))
        · have s2 : Same H' (upd (upd H' l (.lst [.int f, .int 0])) D (.lst (ms.map V.int))) := s1.trans (same_new hD)
          exact k p (f :: 0 :: ms) _ (s2.free hp) (s2.trans (same_new hp)) upd_same ⟨f, 0, ms, rfl, f0, f1, by omega, hms, by omega⟩
theorem sc_off : FnScope ["_law_d", "_law_most", "_law_found"] ["_law_d", "_law_most"] (defScope (top 14)) := ⟨rfl, rfl, rfl, by decide +kernel, rfl, by decide +kernel, by decide +kernel⟩
theorem ok_off {f : Addr} {fd : FuncData} (F : Fun K "_law_off" "_law_off" (top 14) f fd) (n_len : mg "len" = none) : FnOk P w K mg base CX0 1 f fd ["_law_d", "_law_most"] spOff := by
  have sc := sc_off
  refine F.ok sc (fun vs H Q E h => ?_) (fun cdv A outer s H vs Q E hr h => ?_)
  · obtain ⟨d, ns, m, rfl, _⟩ := h
    rfl
  · obtain ⟨d, ns, m, rfl, hd, hD, m0, m1, k⟩ := h
    refine ⟨_, (C8.pss_cut (ps_if (PW.pt (pw_and (pt_cmpR op_eq (pe_ix (r := rIxL K) ix_list (pv 0) pe_int (fun _ _ => rfl)) pe_int (nomark _)) (pw_and1 (pt_cmpR op_gt (pe_callB (r := rLenQ K) call_lenQ (by rfl) n_len PySem.boot_len (pa_cons (pv 0) pa_nil)) pe_int (nomark _)))))
(pss_one (ps_asg (pe_bm PySem.F.plainAttrs_list PySem.F.slot_list_pop PySem.F.type_list_pop mt_popAt (pv 0) (pa_cons pe_int pa_nil)) (pg_sub (pv 0) pe_int set_list)))
pss_nil)
(pss_cons (ps_if (pt_cmpR op_gt (pe_ix (r := rIxL K) ix_list (pv 0) pe_int (fun _ _ => rfl)) pe_int (nomark _))
(pss_cons (ps_set (i := 2) sc.nd rfl (Or.inl rfl) (pe_op op_mod (pe_ix (r := rIxL K) ix_list (pv 0) pe_int (fun _ _ => rfl)) (pv 1)))
(pss_cons (ps_asg (pe_op op_fdiv (pe_ix (r := rIxL K) ix_list (pv 0) pe_int (fun _ _ => rfl)) (pv 1)) (pg_sub (pv 0) pe_int set_list))
(pss_one (ps_ret (pv 2)))))
pss_nil)
(pss_cons (ps_asg (pe_op op_mod (pe_op op_add (pe_op op_mul (pe_ix (r := rIxL K) ix_list (pv 0) pe_int (fun _ _ => rfl)) pe_int) pe_int) pe_int) (pg_sub (pv 0) pe_int set_list))
(pss_one (ps_ret (pe_op op_mod (pe_op op_fdiv (pe_ix (r := rIxL K) ix_list (pv 0) pe_int (fun _ _ => rfl)) pe_int) (pv 1))))))), ?_⟩
    refine ⟨fun σ H' => ∃ ms : List Int, σ = [some (.ref d), some (.int m), none] ∧ H' = upd H d (.lst (ms.map V.int)) ∧ Dice ms, ?_, ?_⟩
    · obtain ⟨a, b, r, rfl, a0, a1, b0, hr', rl⟩ := hD
      refine ⟨_, rfl, d, _, _, _, rfl, rfl, SqL.of hd, at_of (j := 1) rfl rfl, rfl, _, rfl, ?_⟩
      refine ite2 (fun c => ?_) (fun c => ?_)
      · refine ⟨_, rfl, d, _, rfl, .inl (SqL.of hd), _, _, rfl, rfl, _, rfl, ?_⟩
        refine ite2 (fun c2 => ?_) (fun c2 => ?_)
        · cases r with
          | nil => simp at c2
          | cons x r =>
            refine ⟨_, rfl, .inl ⟨rfl, _, SqL.of hd⟩, d, _, 2, 2, _, rfl, rfl, hd, by decide, by decide, ?_, rfl, ?_⟩
            · show seqIndex? 2 ((a :: b :: x :: r).map V.int).length = some 2
              rw [List.length_map]
              exact seqIndex_nat (by simp)
            · refine ⟨_, rfl, d, _, 1, 1, rfl, rfl, upd_same, ixN_nat (by simp), ?_⟩
              refine ⟨a :: x :: r, rfl, by rw [upd_upd]; rfl, a, x, r, rfl, a0, a1, Int.le_of_lt (hr' x (by simp)), fun y hy => hr' y (by simp [hy]), by simp at rl; omega⟩
        · exact ⟨_, rfl, (upd_id hd).symm, a, b, r, rfl, a0, a1, b0, hr', rl⟩
      · exact ⟨_, rfl, (upd_id hd).symm, a, b, r, rfl, a0, a1, b0, hr', rl⟩
    · rintro σ H' ⟨ms, rfl, rfl, hD2⟩
      obtain ⟨a, b, r, rfl, a0, a1, b0, hr', rl⟩ := hD2
      refine ⟨_, rfl, d, _, _, _, rfl, rfl, SqL.of upd_same, at_of (j := 1) rfl rfl, _, _, rfl, rfl, _, rfl, ?_⟩
      refine ite2 (fun c => ?_) (fun c => ?_)
      · refine ⟨_, rfl, d, _, _, _, rfl, rfl, SqL.of upd_same, at_of (j := 1) rfl rfl, _, rfl, _, _, rfl, rfl, m0, ?_⟩
        refine ⟨_, rfl, d, _, _, _, rfl, rfl, SqL.of upd_same, at_of (j := 1) rfl rfl, _, rfl, _, _, rfl, rfl, ⟨m0, m1⟩, _, rfl, d, _, 1, 1, rfl, rfl, upd_same, ixN_nat (by simp), ?_⟩
        refine ⟨_, rfl, ?_⟩
        rw [upd_upd]
        exact k (b % m) (a :: b / m :: r) (Int.emod_nonneg _ (by omega)) (Int.emod_lt_of_pos _ m0) ⟨a, b / m, r, rfl, a0, a1, Int.ediv_nonneg b0 (by omega), hr', rl⟩
      · refine ⟨_, rfl, d, _, _, _, rfl, rfl, SqL.of upd_same, at_of (j := 0) rfl rfl, _, _, rfl, rfl, .inl ⟨by omega, by omega⟩, _, _, rfl, rfl, _, _, rfl, rfl, (by show (0 : Int) < 2147483647; decide), _, rfl, d, _, 0, 0, rfl, rfl, upd_same, ixN_nat (by simp), ?_⟩
        rw [upd_upd]
        refine ⟨_, rfl, d, _, _, _, rfl, rfl, SqL.of upd_same, at_of (j := 0) rfl rfl, _, _, rfl, rfl, ⟨by decide, by decide⟩, _, rfl, _, _, rfl, rfl, m0, ?_⟩
        exact k _ (((a * 48271 + 11) % 2147483647) :: b :: r) (Int.emod_nonneg _ (by omega)) (Int.emod_lt_of_pos _ m0) ⟨_, b, r, rfl, Int.emod_nonneg _ (by decide), Int.emod_lt_of_pos _ (by decide), b0, hr', rl⟩
end
/-! ### need_knob, need_row of what is one; positions -/
def spNeedKnob (K : PySem.W.Frag) : Sp := fun vs H Q _ => ∃ (v : V) (g b : Int), vs = [v] ∧ Dp K H v (knD g b) ∧ 1 ≤ g ∧ g ≤ 6 ∧ 0 ≤ b ∧ b ≤ g ∧ Q .non H
def spNeedRow (K : PySem.W.Frag) : Sp := fun vs H Q _ => ∃ (v u : V) (g b : Int) (row : List Mv), vs = [v, u] ∧ Dp K H v (knD g b) ∧ Dp K H u (rowD row) ∧ Good g b row ∧ ∀ H', Same H H' → Q .non H'
/-- positions, places: a new list -/
def spPos (K : PySem.W.Frag) : Sp := fun vs H Q _ => ∃ (u : V) (row : List Mv) (ps : List Addr), vs = [u] ∧ Live ps H ∧ Dp K (Fz ps H) u (rowD row) ∧ row.length ≤ 1000 ∧
  ∀ (p : Addr) (xs : List V) (H' : Hp), H p = none → Same H H' → H' p = some (.lst xs) → DpAll K (Fz (p :: ps) H') xs ((plcs row).map ppD) → Q (.ref p) H'
section
variable {P : Program} {w : World} {K : PySem.W.Frag} {mg : Str → Option Value} {base : Heap}
theorem sc_need_knob : FnScope ["knob", "gap", "bounce"] ["knob"] (defScope (top 8)) := ⟨rfl, rfl, rfl, by decide +kernel, rfl, by decide +kernel, by decide +kernel⟩
theorem ok_need_knob {f : Addr} {fd : FuncData} {t1 : Tok} (F : Fun K "need_knob" "need_knob" (top 8) f fd) (g_MOST_GAP : mg "MOST_GAP" = some (.int 6 t1)) : FnOk P w K mg base CX0 1 f fd ["knob"] (spNeedKnob K) := by
  have sc := sc_need_knob
  refine F.ok sc (fun vs H Q E h => ?_) (fun cdv A outer s H vs Q E hr h => ?_)
  · obtain ⟨v, g, b, rfl, _⟩ := h
    rfl
  · obtain ⟨v, g, b, rfl, hd, g1, g6, b0, b1, k⟩ := h
    obtain ⟨a, rfl, hT⟩ := dp_ii hd
    refine ⟨_, (pss_cons (ps_asg (pv 0) (pg_tup rfl (pgs_cons (pg_name (i := 1) sc.nd rfl (Or.inl rfl)) (pgs_cons (pg_name (i := 2) sc.nd rfl (Or.inl rfl)) pgs_nil))))
(pss_cons (ps_if (pt_not (pt_chain op_le op_le pe_int (pv 1) (pe_glob (v := .int 6) rfl g_MOST_GAP ⟨_, rfl⟩)))
(pss_one ps_never)
pss_nil)
(pss_one (ps_if (pt_not (pt_chain op_le op_le pe_int (pv 2) (pv 1)))
(pss_one ps_never)
pss_nil)))), ?_⟩
    refine ⟨_, rfl, a, _, rfl, hT, rfl, _, _, rfl, _, _, rfl, rfl, ?_⟩
    refine ⟨_, rfl, _, _, rfl, rfl, _, rfl, ?_⟩
    rw [decide_eq_true g1]
    refine iteT ⟨_, _, rfl, rfl, _, rfl, ?_⟩
    rw [decide_eq_true g6]
    refine iteF ?_
    refine ⟨_, rfl, _, _, rfl, rfl, _, rfl, ?_⟩
    rw [decide_eq_true b0]
    refine iteT ⟨_, rfl, _, _, rfl, rfl, _, rfl, ?_⟩
    rw [decide_eq_true b1]
    exact iteF k
theorem sc_need_row : FnScope ["knob", "row", "gap", "bounce", "since", "turned", "at", "turn", "old"] ["knob", "row"] (defScope (top 9)) := ⟨rfl, rfl, rfl, by decide +kernel, rfl, by decide +kernel, by decide +kernel⟩
theorem ok_need_row {f : Addr} {fd : FuncData} {t1 : Tok} (F : Fun K "need_row" "need_row" (top 9) f fd) (g_MOST_ROW : mg "MOST_ROW" = some (.int 200 t1)) (n_enumerate : mg "enumerate" = none) (n_min : mg "min" = none) : FnOk P w K mg base CX0 1 f fd ["knob", "row"] (spNeedRow K) := by
  have sc := sc_need_row
  refine F.ok sc (fun vs H Q E h => ?_) (fun cdv A outer s H vs Q E hr h => ?_)
  · obtain ⟨v, u, g, b, row, rfl, _⟩ := h
    rfl
  · obtain ⟨v, u, g, b, row, rfl, hd, hrow, hG, k⟩ := h
    obtain ⟨a, rfl, hT⟩ := dp_ii hd
    obtain ⟨l, xs, rfl, hL, hX⟩ := dp_lst hrow
    have hxl : xs.length = row.length := by rw [dpa_length hX, List.length_map]
    refine ⟨_, (pss_cons (ps_asg (pv 0) (pg_tup rfl (pgs_cons (pg_name (i := 2) sc.nd rfl (Or.inl rfl)) (pgs_cons (pg_name (i := 3) sc.nd rfl (Or.inl rfl)) pgs_nil))))
(pss_cons (ps_set (i := 4) sc.nd rfl (Or.inl rfl) (pv 2))
(pss_cons (ps_set (i := 5) sc.nd rfl (Or.inl rfl) pe_bl)
(pss_one (ps_for PassesOwn.never rfl (pi_enum (by rfl) n_enumerate (pa_cons (pv 1) pa_nil)) (pg_tup rfl (pgs_cons (pg_name (i := 6) sc.nd rfl (Or.inl rfl)) (pgs_cons (pg_tup rfl (pgs_cons (pg_name (i := 7) sc.nd rfl (Or.inl rfl)) (pgs_cons (pg_name (i := 8) sc.nd rfl (Or.inl rfl)) pgs_nil))) pgs_nil)))
(pss_cons (ps_if (PW.pt (pw_or (pt_cmpR op_ge (pv 6) (pe_glob (v := .int 200) rfl g_MOST_ROW ⟨_, rfl⟩) (nomark _)) (pw_or (pt_cmpR (r := rIn K true) op_notIn_seq (pv 7) (pe_tup (pa_cons (pe_un un_neg pe_int) (pa_cons pe_int (pa_cons pe_int pa_nil)))) (by rfl)) (pw_or1 (PW.pt (pw_and (pt_cmpR op_ne (pv 7) pe_int (nomark _)) (pw_and1 (pt_cmpR op_lt (pv 4) (pv 2) (nomark _)))))))))
(pss_one ps_never)
pss_nil)
(C8.pss_cut (ps_if (pt_cmpR op_ne (pv 7) pe_int (nomark _))
(pss_cons (ps_set (i := 4) sc.nd rfl (Or.inl rfl) pe_int)
(pss_one (ps_set (i := 5) sc.nd rfl (Or.inl rfl) pe_bl)))
pss_nil)
(pss_cons (ps_if (PW.pt (pw_and (pt_val (pv 8)) (pw_and1 (PW.pt (pw_or (pt_not (pt_val (pv 5))) (pw_or1 (pt_cmpR op_ge (pv 4) (pv 3) (nomark _))))))))
(pss_one ps_never)
pss_nil)
(pss_one (ps_set (i := 4) sc.nd rfl (Or.inl rfl) (pe_callB (call_min2 rfl) (by rfl) n_min (by decide +kernel) (pa_cons (pv 2) (pa_cons (pe_op op_add (pv 4) pe_int) pa_nil))))))))))))), ?_⟩
    refine ⟨_, rfl, a, _, rfl, hT, rfl, _, _, rfl, _, _, rfl, rfl, ?_⟩
    refine ⟨_, rfl, ?_⟩
    refine ⟨_, rfl, l, xs, rfl, hL, for_it (walk_enum (xs := xs)) (fun i σ H' => ∃ v1 v2 v3, σ = [some (.ref a), some (.ref l), some (.int g), some (.int b), some (.int (rst g (row.take i)).1), some (.bl (rst g (row.take i)).2), v1, v2, v3] ∧ Same H H')
      ⟨none, none, none, rfl, Same.refl H⟩ (fun i σ H' _ ⟨_, _, _, _, e⟩ => e.seq hL) ?_ ?_⟩
    · rintro i x σ H1 H2 hi ⟨v1, v2, v3, rfl, hs⟩ ⟨T, y, z, rfl, hT0, rfl, hy, hz⟩
      cases hy
      obtain ⟨m, hm, hz2⟩ := dpa_map_at (dpa_same hs hX) hz
      have hz3 := dp_same (same_new hT0 (o := .tup [.int ((i : Nat) : Int), z])) hz2
      obtain ⟨q, rfl, hq⟩ := dp_ib hz3
      have ok := hG.ok i m hm
      have hi200 : i < 200 := by have := hG.len; omega
      refine ⟨T, _, rfl, SqT.of upd_same, rfl, _, _, rfl, _, _, rfl, ?_⟩
      refine ⟨q, _, rfl, hq, rfl, _, _, rfl, _, _, rfl, rfl, rfl, ?_⟩
      have e0 : (rst g (row.take (i + 1))) = stp g (rst g (row.take i)) m := rst_snoc hm
      refine ⟨_, rfl, _, _, rfl, rfl, _, rfl, ?_⟩
      rw [decide_eq_false (show ¬ (200 : Int) ≤ (i : Nat) by omega)]
      refine iteF ⟨_, rfl, _, rfl, (by show 3 ≤ sizeLine; decide), fun tp htp => ?_⟩
      have s2 : Same H (upd (upd H1 T (.tup [.int ((i : Nat) : Int), .ref q])) tp (.tup [.int (-1), .int 0, .int 1])) := (hs.trans (same_new hT0)).trans (same_new htp)
      refine ⟨tp, _, rfl, .inr (SqT.of upd_same), rfl, rfl, _, rfl, ?_⟩
      refine iteBF ?_ ?_
      · show (!(inV (V.int m.1) [V.int (-1), V.int 0, V.int 1])) = false
        rcases ok.turn with h | h | h <;> rw [h] <;> decide
      have third : ∀ {R : Bool → Hp → Prop} {σ : St} {Hq : Hp}, σ[7]? = some (some (.int m.1)) → σ[4]? = some (some (.int (rst g (row.take i)).1)) → σ[2]? = some (some (.int g)) → R false Hq →
          tAnd (tTest (tOp rNe (tVar 7) (tC (.int 0)))) (tTest (tOp (rI0 fun i j => .bl (decide (i < j))) (tVar 4) (tVar 2))) σ Hq R := by
        intro R σ Hq h7 h4 h2 hR
        refine ⟨_, h7, rfl, _, rfl, ?_⟩
        by_cases h0 : m.1 = 0
        · exact iteNS (vint_eq h0) hR
        · refine iteNT (vint_ne h0) ⟨_, h4, _, h2, _, _, rfl, rfl, _, rfl, ?_⟩
          rw [decide_eq_false (show ¬ (rst g (row.take i)).1 < g by have := ok.soon h0; omega)]
          exact hR
      refine third rfl rfl rfl (iteF ?_)
      refine ⟨fun σ H' => σ = [some (.ref a), some (.ref l), some (.int g), some (.int b), some (.int (if m.1 = 0 then (rst g (row.take i)).1 else 0)), some (.bl ((rst g (row.take i)).2 || decide (m.1 ≠ 0))), some (.int ((i : Nat) : Int)), some (.int m.1), some (.bl m.2)] ∧ Same H H', ?_, ?_⟩
      · refine ⟨_, rfl, rfl, _, rfl, ?_⟩
        by_cases h0 : m.1 = 0
        · refine iteNS (vint_eq h0) ⟨?_, s2⟩
          rw [if_pos h0, decide_eq_false (show ¬ m.1 ≠ 0 from fun z => z h0), Bool.or_false]
          rfl
        · refine iteNT (vint_ne h0) ⟨?_, s2⟩
          rw [if_neg h0, decide_eq_true (show m.1 ≠ 0 from h0), Bool.or_true]
          rfl
      · rintro σ H' ⟨rfl, s3⟩
        refine ⟨_, rfl, _, rfl, ?_⟩
        have fin : ∃ v1 v2 v3, [some (V.ref a), some (V.ref l), some (.int g), some (.int b), some (.int (if (if m.1 = 0 then (rst g (row.take i)).1 else 0) + 1 < g then (if m.1 = 0 then (rst g (row.take i)).1 else 0) + 1 else g)), some (.bl ((rst g (row.take i)).2 || decide (m.1 ≠ 0))), some (.int ((i : Nat) : Int)), some (.int m.1), some (.bl m.2)] =
            [some (.ref a), some (.ref l), some (.int g), some (.int b), some (.int (rst g (row.take (i + 1))).1), some (.bl (rst g (row.take (i + 1))).2), v1, v2, v3] ∧ Same H H' := by
          refine ⟨some (.int ((i : Nat) : Int)), some (.int m.1), some (.bl m.2), ?_, s3⟩
          rw [e0]
          unfold stp
          dsimp only
          rw [min2]
        have last : ∀ {Z : Prop}, Z → (if m.2 = true then Z else Z) := fun z => by split <;> exact z
        by_cases ho : m.2 = true
        · obtain ⟨o1, o2⟩ := ok.old ho
          refine iteBT ho ⟨_, rfl, _, rfl, ?_⟩
          have e1 : ((rst g (row.take i)).2 || decide (m.1 ≠ 0)) = true := by
            rcases o1 with h | h
            · rw [h, Bool.true_or]
            · rw [decide_eq_true h, Bool.or_true]
          rw [e1]
          refine iteF ⟨_, rfl, _, rfl, _, _, rfl, rfl, _, rfl, ?_⟩
          rw [decide_eq_false (show ¬ b ≤ (if m.1 = 0 then (rst g (row.take i)).1 else 0) by omega)]
          refine iteF ?_
          rw [e1] at fin
          exact ⟨_, rfl, _, rfl, _, _, rfl, rfl, _, _, rfl, fin⟩
        · refine iteBF (by simpa using ho) (iteF ⟨_, rfl, _, rfl, _, _, rfl, rfl, _, _, rfl, fin⟩)
    · rintro σ H1 ⟨v1, v2, v3, rfl, hs⟩
      exact k H1 hs
end
section
variable {P : Program} {w : World} {K : PySem.W.Frag} {mg : Str → Option Value} {base : Heap}
theorem sc_positions : FnScope ["row", "here", "last", "found", "turn", "old"] ["row"] (defScope (top 10)) := ⟨rfl, rfl, rfl, by decide +kernel, rfl, by decide +kernel, by decide +kernel⟩
theorem ok_positions {f : Addr} {fd : FuncData} (F : Fun K "positions" "positions" (top 10) f fd) : FnOk P w K mg base CX0 1 f fd ["row"] (spPos K) := by
  have sc := sc_positions
  refine F.ok sc (fun vs H Q E h => ?_) (fun cdv A outer s H vs Q E hr h => ?_)
  · obtain ⟨u, row, ps, rfl, _⟩ := h
    rfl
  · obtain ⟨u, row, ps, rfl, lv, hrow, hlen, k⟩ := h
    obtain ⟨a, ys, rfl, hL, hY⟩ := dp_lst hrow
    have hyl : ys.length = row.length := by rw [dpa_length hY, List.length_map]
    refine ⟨_, (pss_cons (ps_set (i := 1) sc.nd rfl (Or.inl rfl) pe_int)
(pss_cons (ps_set (i := 2) sc.nd rfl (Or.inl rfl) pe_int)
(pss_cons (ps_set (i := 3) sc.nd rfl (Or.inl rfl) (pe_lst pa_nil))
(pss_cons (ps_for PassesOwn.never rfl (pi_list (pv 0)) (pg_tup rfl (pgs_cons (pg_name (i := 4) sc.nd rfl (Or.inl rfl)) (pgs_cons (pg_name (i := 5) sc.nd rfl (Or.inl rfl)) pgs_nil)))
(pss_cons (ps_set (i := 1) sc.nd rfl (Or.inl rfl) (pe_op op_add (pv 1) (pv 4)))
(pss_cons (ps_set (i := 2) sc.nd rfl (Or.inl rfl) (pe_ifExp (pt_cmpR op_ne (pv 4) pe_int (nomark _)) (pv 4) (pv 2)))
(pss_one (ps_expr (pe_bm PySem.F.plainAttrs_list PySem.F.slot_list_append PySem.F.type_list_append mt_append (pv 3) (pa_cons (pe_tup (pa_cons (pv 1) (pa_cons (pe_ifExp (pt_val (pv 5)) (pe_op op_sub (pv 1) (pv 2)) (pv 1)) pa_nil))) pa_nil)))))))
(pss_one (ps_ret (pv 3))))))), ?_⟩
    refine ⟨Nat.zero_le _, fun l hl => ?_⟩
    have s0 : Same H (upd H l (.lst [])) := same_new hl
    refine ⟨_, rfl, a, rfl, ⟨ys, s0.seq (fz_le.seq hL)⟩, for_it (walk_list (xs := ys)) (fun i σ H' => ∃ (xs : List V) (v1 v2 : Option V), σ = [some (.ref a), some (.int (pas (row.take i)).1), some (.int (pas (row.take i)).2), some (.ref l), v1, v2] ∧ Same H H' ∧
        H' l = some (.lst xs) ∧ DpAll K (Fz (l :: ps) H') xs ((plcs (row.take i)).map ppD))
      ⟨[], none, none, rfl, s0, upd_same, .nil⟩ (fun i σ H' _ ⟨_, _, _, _, e, _⟩ => e.seq (fz_le.seq hL)) ?_ ?_⟩
    · rintro i x σ H1 H2 hi ⟨xs, v1, v2, rfl, hs, hxl, hX⟩ ⟨rfl, hx⟩
      obtain ⟨⟨t, o⟩, hm, hz⟩ := dpa_map_at hY hx
      obtain ⟨q, rfl, hq⟩ := dp_ib (dp_same hs (dp_fz hz))
      have ep := pas_snoc hm
      have el := plcs_snoc hm
      have hxn : xs.length ≤ 1000 := by
        rw [dpa_length hX, List.length_map, plcs_length, List.length_take]; omega
      have lv2 : Live (l :: ps) H2 := live_cons hxl (lv.mono hs)
      refine ⟨q, _, rfl, hq, rfl, _, _, rfl, _, _, rfl, rfl, ?_⟩
      refine ⟨_, rfl, _, rfl, _, _, rfl, rfl, ?_⟩
      have fin : ∀ (z : Int) (tp : Addr), H2 tp = none → z = (if o = true then (pst (pas (row.take i)) (t, o)).1 - (pst (pas (row.take i)) (t, o)).2 else (pst (pas (row.take i)) (t, o)).1) →
          DpAll K (Fz (l :: ps) (upd (upd H2 tp (.tup [.int ((pas (row.take i)).1 + t), .int z])) l (.lst (xs ++ [.ref tp])))) (xs ++ [.ref tp]) ((plcs (row.take (i + 1))).map ppD) := by
        intro z tp htp ez
        rw [el, List.map_append]
        refine dpa_push lv2 htp hX ?_
        rw [ez]
        exact dpa_ii _ _
      have fins : ∀ (tp : Addr) (ws : List V) (us : List V), H2 tp = none → Same H (upd (upd H2 tp (.tup ws)) l (.lst us)) := fun tp ws us htp => same_put hl (hs.trans (same_new htp))
      have el1 : (pas (row.take (i + 1))).1 = (pas (row.take i)).1 + t := by rw [ep]; rfl
      have el2 : (pas (row.take (i + 1))).2 = (if t = 0 then (pas (row.take i)).2 else t) := by rw [ep]; rfl
      refine ⟨_, rfl, rfl, _, rfl, ?_⟩
      by_cases h0 : t = 0
      · refine iteNS (vint_eq h0) ⟨_, rfl, ?_⟩
        rw [if_pos h0] at el2
        have e2 : (pst (pas (row.take i)) (t, o)).2 = (pas (row.take i)).2 := if_pos h0
        refine ⟨_, rfl, .inl ⟨rfl, _, SqL.of hxl⟩, _, rfl, _, rfl, _, rfl, iteB (fun ho => ?_) (fun ho => ?_)⟩
        · refine ⟨_, rfl, _, rfl, _, _, rfl, rfl, (by show 2 ≤ sizeLine; decide), fun tp htp => ?_⟩
          have ntl : l ≠ tp := ne_of_none hxl htp
          refine ⟨l, xs, _, rfl, rfl, (by rw [upd_ne ntl]; exact hxl), small1000 hxn, _, some (.int t), some (.bl o), ?_, fins _ _ _ htp, upd_same, fin _ _ htp ?_⟩
          · rw [el1, el2]; rfl
          · rw [if_pos ho, e2]; rfl
        · refine ⟨_, rfl, (by show 2 ≤ sizeLine; decide), fun tp htp => ?_⟩
          have ntl : l ≠ tp := ne_of_none hxl htp
          refine ⟨l, xs, _, rfl, rfl, (by rw [upd_ne ntl]; exact hxl), small1000 hxn, _, some (.int t), some (.bl o), ?_, fins _ _ _ htp, upd_same, fin _ _ htp ?_⟩
          · rw [el1, el2]; rfl
          · rw [if_neg (by rw [show o = false from ho]; decide)]; rfl
      · refine iteNT (vint_ne h0) ⟨_, rfl, ?_⟩
        rw [if_neg h0] at el2
        have e2 : (pst (pas (row.take i)) (t, o)).2 = t := if_neg h0
        refine ⟨_, rfl, .inl ⟨rfl, _, SqL.of hxl⟩, _, rfl, _, rfl, _, rfl, iteB (fun ho => ?_) (fun ho => ?_)⟩
        · refine ⟨_, rfl, _, rfl, _, _, rfl, rfl, (by show 2 ≤ sizeLine; decide), fun tp htp => ?_⟩
          have ntl : l ≠ tp := ne_of_none hxl htp
          refine ⟨l, xs, _, rfl, rfl, (by rw [upd_ne ntl]; exact hxl), small1000 hxn, _, some (.int t), some (.bl o), ?_, fins _ _ _ htp, upd_same, fin _ _ htp ?_⟩
          · rw [el1, el2]; rfl
          · rw [if_pos ho, e2]; rfl
        · refine ⟨_, rfl, (by show 2 ≤ sizeLine; decide), fun tp htp => ?_⟩
          have ntl : l ≠ tp := ne_of_none hxl htp
          refine ⟨l, xs, _, rfl, rfl, (by rw [upd_ne ntl]; exact hxl), small1000 hxn, _, some (.int t), some (.bl o), ?_, fins _ _ _ htp, upd_same, fin _ _ htp ?_⟩
          · rw [el1, el2]; rfl
          · rw [if_neg (by rw [show o = false from ho]; decide)]; rfl
    · rintro σ H1 ⟨xs, v1, v2, rfl, hs, hxl, hX⟩
      rw [hyl, List.take_length] at hX
      exact ⟨_, rfl, k l xs H1 hl hs hxl hX⟩
end
section
variable {P : Program} {w : World} {K : PySem.W.Frag} {mg : Str → Option Value} {base : Heap}
theorem sc_places : FnScope ["_law_row_here", "_law_found", "_law_here", "_law_latest", "_law_turn", "_law_old"] ["_law_row_here"] (defScope (top 18)) := ⟨rfl, rfl, rfl, by decide +kernel, rfl, by decide +kernel, by decide +kernel⟩
theorem ok_places {f : Addr} {fd : FuncData} (F : Fun K "_law_places" "_law_places" (top 18) f fd) (n_int : mg "int" = none) : FnOk P w K mg base CX0 1 f fd ["_law_row_here"] (spPos K) := by
  have sc := sc_places
  refine F.ok sc (fun vs H Q E h => ?_) (fun cdv A outer s H vs Q E hr h => ?_)
  · obtain ⟨u, row, ps, rfl, _⟩ := h
    rfl
  · obtain ⟨u, row, ps, rfl, lv, hrow, hlen, k⟩ := h
    obtain ⟨a, ys, rfl, hL, hY⟩ := dp_lst hrow
    have hyl : ys.length = row.length := by rw [dpa_length hY, List.length_map]
    refine ⟨_, (pss_cons (ps_set (i := 1) sc.nd rfl (Or.inl rfl) (pe_lst pa_nil))
(pss_cons (ps_set (i := 2) sc.nd rfl (Or.inl rfl) pe_int)
(pss_cons (ps_set (i := 3) sc.nd rfl (Or.inl rfl) pe_int)
(pss_cons (ps_for PassesOwn.never rfl (pi_list (pv 0)) (pg_tup rfl (pgs_cons (pg_name (i := 4) sc.nd rfl (Or.inl rfl)) (pgs_cons (pg_name (i := 5) sc.nd rfl (Or.inl rfl)) pgs_nil)))
(pss_cons (ps_set (i := 2) sc.nd rfl (Or.inl rfl) (pe_op op_add (pv 2) (pv 4)))
(C8.pss_cut (ps_if (pt_cmpR op_ne (pv 4) pe_int (nomark _))
(pss_one (ps_set (i := 3) sc.nd rfl (Or.inl rfl) (pv 4)))
pss_nil)
(pss_one (ps_expr (pe_bm PySem.F.plainAttrs_list PySem.F.slot_list_append PySem.F.type_list_append mt_append (pv 1) (pa_cons (pe_tup (pa_cons (pv 2) (pa_cons (pe_op op_sub (pv 2) (pe_op op_mul (pv 3) (pe_callTy call_int1 (by rfl) n_int (by decide +kernel) (pa_cons (pv 5) pa_nil)))) pa_nil))) pa_nil)))))))
(pss_one (ps_ret (pv 1))))))), ?_⟩
    refine ⟨Nat.zero_le _, fun l hl => ?_⟩
    have s0 : Same H (upd H l (.lst [])) := same_new hl
    refine ⟨_, rfl, a, rfl, ⟨ys, s0.seq (fz_le.seq hL)⟩, for_it (walk_list (xs := ys)) (fun i σ H' => ∃ (xs : List V) (v1 v2 : Option V), σ = [some (.ref a), some (.ref l), some (.int (pas (row.take i)).1), some (.int (pas (row.take i)).2), v1, v2] ∧ Same H H' ∧
        H' l = some (.lst xs) ∧ DpAll K (Fz (l :: ps) H') xs ((plcs (row.take i)).map ppD))
      ⟨[], none, none, rfl, s0, upd_same, .nil⟩ (fun i σ H' _ ⟨_, _, _, _, e, _⟩ => e.seq (fz_le.seq hL)) ?_ ?_⟩
    · rintro i x σ H1 H2 hi ⟨xs, v1, v2, rfl, hs, hxl, hX⟩ ⟨rfl, hx⟩
      obtain ⟨⟨t, o⟩, hm, hz⟩ := dpa_map_at hY hx
      obtain ⟨q, rfl, hq⟩ := dp_ib (dp_same hs (dp_fz hz))
      have ep := pas_snoc hm
      have el := plcs_snoc hm
      have hxn : xs.length ≤ 1000 := by
        rw [dpa_length hX, List.length_map, plcs_length, List.length_take]; omega
      have lv2 : Live (l :: ps) H2 := live_cons hxl (lv.mono hs)
      refine ⟨q, _, rfl, hq, rfl, _, _, rfl, _, _, rfl, rfl, ?_⟩
      refine ⟨_, rfl, _, rfl, _, _, rfl, rfl, ?_⟩
      refine ⟨fun σ H' => σ = [some (.ref a), some (.ref l), some (.int (pst (pas (row.take i)) (t, o)).1), some (.int (pst (pas (row.take i)) (t, o)).2), some (.int t), some (.bl o)] ∧ H' = H2, ?_, ?_⟩
      · refine ⟨_, rfl, rfl, _, rfl, ?_⟩
        by_cases h0 : t = 0
        · refine iteNS (vint_eq h0) ⟨?_, rfl⟩
          have e2 : (pst (pas (row.take i)) (t, o)).2 = (pas (row.take i)).2 := if_pos h0
          rw [e2]; rfl
        · refine iteNT (vint_ne h0) ⟨_, rfl, ?_, rfl⟩
          have e2 : (pst (pas (row.take i)) (t, o)).2 = t := if_neg h0
          rw [e2]; rfl
      · rintro σ H' ⟨rfl, rfl⟩
        refine ⟨_, rfl, .inl ⟨rfl, _, SqL.of hxl⟩, _, rfl, _, rfl, _, rfl, _, rfl, .inr ⟨o, rfl, _, _, rfl, rfl, .inr ⟨?_, ?_⟩, _, _, rfl, rfl, (by show 2 ≤ sizeLine; decide), fun tp htp => ?_⟩⟩
        · cases o <;> decide
        · cases o <;> decide
        · have ntl : l ≠ tp := ne_of_none hxl htp
          refine ⟨l, xs, _, rfl, rfl, (by rw [upd_ne ntl]; exact hxl), small1000 hxn, _, some (.int t), some (.bl o), ?_, same_put hl (hs.trans (same_new htp)), upd_same, ?_⟩
          · rw [ep]
          · rw [el, List.map_append]
            refine dpa_push lv2 htp hX ?_
            have ev : (seenOf (pst (pas (row.take i)) (t, o)) o).2 = (pst (pas (row.take i)) (t, o)).1 - (pst (pas (row.take i)) (t, o)).2 * (if o = true then 1 else 0) := by
              unfold seenOf
              cases o <;> simp
            show DpAll K _ _ [PyData.int _, PyData.int (seenOf (pst (pas (row.take i)) (t, o)) o).2]
            rw [ev]
            exact dpa_ii _ _
    · rintro σ H1 ⟨xs, v1, v2, rfl, hs, hxl, hX⟩
      rw [hyl, List.take_length] at hX
      exact ⟨_, rfl, k l xs H1 hl hs hxl hX⟩
end
/-! ### the pair of a place -/
def spPair (K : PySem.W.Frag) : Sp := fun vs H Q _ => ∃ z : Int, vs = [.int z] ∧ ∀ (p : Addr) (H' : Hp), H p = none → Same H H' → H' p = some (.tup [.int (pr z).1, .int (pr z).2]) → Q (.ref p) H'
theorem mod4 (z : Int) : z % 4 = 0 ∨ z % 4 = 1 ∨ z % 4 = 2 ∨ z % 4 = 3 := by omega
section
variable {P : Program} {w : World} {K : PySem.W.Frag} {mg : Str → Option Value} {base : Heap}
theorem sc_pair : FnScope ["_law_place"] ["_law_place"] (defScope (top 19)) := ⟨rfl, rfl, rfl, by decide +kernel, rfl, by decide +kernel, by decide +kernel⟩
theorem ok_pair {f : Addr} {fd : FuncData} (F : Fun K "_law_pair" "_law_pair" (top 19) f fd) : FnOk P w K mg base CX0 1 f fd ["_law_place"] (spPair K) := by
  have sc := sc_pair
  refine F.ok sc (fun vs H Q E h => ?_) (fun cdv A outer s H vs Q E hr h => ?_)
  · obtain ⟨z, rfl, _⟩ := h
    rfl
  · obtain ⟨z, rfl, k⟩ := h
    refine ⟨_, (pss_one (ps_ret (pe_tup (pa_cons (pe_ix (r := rIxL K) ix_list (pe_lst (pa_cons pe_int (pa_cons pe_int (pa_cons pe_int (pa_cons pe_int pa_nil))))) (pe_op op_mod (pv 0) pe_int) (fun _ _ => rfl)) (pa_cons (pe_ix (r := rIxL K) ix_list (pe_lst (pa_cons pe_int (pa_cons pe_int (pa_cons pe_int (pa_cons pe_int pa_nil))))) (pe_op op_mod (pv 0) pe_int) (fun _ _ => rfl)) pa_nil))))), ?_⟩
    refine ⟨(by show 4 ≤ sizeLine; decide), fun l1 h1 => ?_⟩
    have s1 : Same H (upd H l1 (.lst [.int 0, .int 0, .int 1, .int 1])) := same_new h1
    refine ⟨_, rfl, _, _, rfl, rfl, (by show (0 : Int) < 4; decide), l1, _, _, .int (pr z).1, rfl, rfl, SqL.of upd_same, ?_, (by show 4 ≤ sizeLine; decide), fun l2 h2 => ?_⟩
    · show atI [V.int 0, V.int 0, V.int 1, V.int 1] (z % 4) = some (.int (pr z).1)
      unfold pr
      rcases mod4 z with h | h | h | h <;> rw [h] <;> decide
    have s2 := s1.trans (same_new h2 (o := .lst [.int 0, .int 1, .int 1, .int 0]))
    refine ⟨_, rfl, _, _, rfl, rfl, (by show (0 : Int) < 4; decide), l2, _, _, .int (pr z).2, rfl, rfl, SqL.of upd_same, ?_, (by show 2 ≤ sizeLine; decide), fun p hp => ?_⟩
    · show atI [V.int 0, V.int 1, V.int 1, V.int 0] (z % 4) = some (.int (pr z).2)
      unfold pr
      rcases mod4 z with h | h | h | h <;> rw [h] <;> decide
    exact k p _ (s2.free hp) (s2.trans (same_new hp)) upd_same
end
/-! ### a knob, a row that it can go -/
def spKnob : Sp := fun vs H Q _ => ∃ (d : Addr) (ns : List Int), vs = [.ref d] ∧ H d = some (.lst (ns.map V.int)) ∧ Dice ns ∧
  ∀ (g b : Int) (ms : List Int) (p : Addr), 1 ≤ g → g ≤ 6 → 0 ≤ b → b ≤ g → Dice ms → H p = none → Q (.ref p) (upd (upd H d (.lst (ms.map V.int))) p (.tup [.int g, .int b]))
def spRow (K : PySem.W.Frag) : Sp := fun vs H Q _ => ∃ (d kn : Addr) (ns : List Int) (many g b : Int) (ps : List Addr), vs = [.ref d, .ref kn, .int many] ∧ H d = some (.lst (ns.map V.int)) ∧ Dice ns ∧ d ∈ ps ∧ Live ps H ∧
  Dp K (Fz ps H) (.ref kn) (knD g b) ∧ 1 ≤ g ∧ g ≤ 6 ∧ 0 ≤ b ∧ b ≤ g ∧ 0 ≤ many ∧ many ≤ 200 ∧
  ∀ (row : List Mv) (ms : List Int) (p : Addr) (xs : List V) (H' : Hp), Good g b row → row.length = many.toNat → Dice ms → H p = none → Frm [d] H H' → H' d = some (.lst (ms.map V.int)) → H' p = some (.lst xs) →
    DpAll K (Fz (p :: ps) H') xs (row.map mvD) → Q (.ref p) H'
section
variable {P : Program} {w : World} {K : PySem.W.Frag} {mg : Str → Option Value} {base : Heap}
theorem sc_knob : FnScope ["_law_d", "_law_gap"] ["_law_d"] (defScope (top 16)) := ⟨rfl, rfl, rfl, by decide +kernel, rfl, by decide +kernel, by decide +kernel⟩
theorem ok_knob {f : Addr} {fd : FuncData} (F : Fun K "_law_knob" "_law_knob" (top 16) f fd) (c__law_off : Cal P w K mg base 1 "_law_off" ["_law_d", "_law_most"] spOff) : FnOk P w K mg base CX0 2 f fd ["_law_d"] spKnob := by
  have sc := sc_knob
  refine F.ok sc (fun vs H Q E h => ?_) (fun cdv A outer s H vs Q E hr h => ?_)
  · obtain ⟨d, ns, rfl, _⟩ := h
    rfl
  · obtain ⟨d, ns, rfl, hd, hD, k⟩ := h
    refine ⟨_, (pss_cons (ps_set (i := 1) sc.nd rfl (Or.inl rfl) (pe_op op_add pe_int (pe_cal c__law_off (hr.mono (by first | decide | omega)) (pa_cons (pv 0) (pa_cons pe_int pa_nil)))))
(pss_one (ps_ret (pe_tup (pa_cons (pv 1) (pa_cons (pe_cal c__law_off (hr.mono (by first | decide | omega)) (pa_cons (pv 0) (pa_cons (pe_op op_add (pv 1) pe_int) pa_nil))) pa_nil)))))), ?_⟩
    refine ⟨_, rfl, d, ns, 6, rfl, hd, hD, by decide, by decide, fun v ms v0 v1 hD1 => ?_⟩
    refine ⟨_, _, rfl, rfl, ?_⟩
    refine ⟨_, rfl, _, rfl, _, rfl, _, _, rfl, rfl, d, ms, 1 + v + 1, rfl, upd_same, hD1, by omega, by omega, fun u ms2 u0 u1 hD2 => ?_⟩
    refine ⟨(by show 2 ≤ sizeLine; decide), fun p hp => ?_⟩
    rw [upd_upd] at hp ⊢
    exact k (1 + v) u ms2 p (by omega) (by omega) u0 (by omega) hD2 (by
      have n : p ≠ d := fun z => by rw [z, upd_same] at hp; cases hp
      rw [upd_ne n] at hp; exact hp)
theorem sc_row : FnScope ["_law_d", "_law_knob_here", "_law_many", "_law_often", "_law_back", "_law_way", "_law_since", "_law_ever", "_law_row_here", "_law_k", "_law_turn"] ["_law_d", "_law_knob_here", "_law_many"] (defScope (top 17)) := ⟨rfl, rfl, rfl, by decide +kernel, rfl, by decide +kernel, by decide +kernel⟩
set_option maxHeartbeats 1000000 in
theorem ok_row {f : Addr} {fd : FuncData} (F : Fun K "_law_row" "_law_row" (top 17) f fd) (c__law_off : Cal P w K mg base 1 "_law_off" ["_law_d", "_law_most"] spOff) (n_range : mg "range" = none) (n_int : mg "int" = none) : FnOk P w K mg base CX0 2 f fd ["_law_d", "_law_knob_here", "_law_many"] (spRow K) := by
  have sc := sc_row
  refine F.ok sc (fun vs H Q E h => ?_) (fun cdv A outer s H vs Q E hr h => ?_)
  · obtain ⟨d, kn, ns, many, g, b, ps, rfl, _⟩ := h
    rfl
  · obtain ⟨d, kn, ns, many, g, b, ps, rfl, hd, hD, dps, lv, hkn, g1, g6, b0, b1, m0, m1, k⟩ := h
    obtain ⟨kn', e, hT⟩ := dp_ii hkn
    cases e
    refine ⟨_, (pss_cons (ps_set (i := 3) sc.nd rfl (Or.inl rfl) (pe_op op_add pe_int (pe_cal c__law_off (hr.mono (by first | decide | omega)) (pa_cons (pv 0) (pa_cons pe_int pa_nil)))))
(pss_cons (ps_set (i := 4) sc.nd rfl (Or.inl rfl) (pe_op op_add pe_int (pe_cal c__law_off (hr.mono (by first | decide | omega)) (pa_cons (pv 0) (pa_cons pe_int pa_nil)))))
(pss_cons (ps_set (i := 5) sc.nd rfl (Or.inl rfl) (pe_ix (r := rIxL K) ix_list (pe_lst (pa_cons pe_int (pa_cons (pe_un un_neg pe_int) pa_nil))) (pe_cal c__law_off (hr.mono (by first | decide | omega)) (pa_cons (pv 0) (pa_cons pe_int pa_nil))) (fun _ _ => rfl)))
(pss_cons (ps_set (i := 6) sc.nd rfl (Or.inl rfl) (pe_ix (r := rIxT K) ix_tup (pv 1) pe_int (fun _ _ => rfl)))
(pss_cons (ps_set (i := 7) sc.nd rfl (Or.inl rfl) pe_bl)
(pss_cons (ps_set (i := 8) sc.nd rfl (Or.inl rfl) (pe_lst pa_nil))
(pss_cons (ps_for PassesOwn.never rfl (pi_range1 rfl n_range (pa_cons (pv 2) pa_nil)) (pg_name (i := 9) sc.nd rfl (Or.inl rfl))
(pss_cons (ps_set (i := 10) sc.nd rfl (Or.inl rfl) pe_int)
(C8.pss_cut (ps_if (PW.pt (pw_and (pt_cmpR op_ge (pv 6) (pe_ix (r := rIxT K) ix_tup (pv 1) pe_int (fun _ _ => rfl)) (nomark _)) (pw_and1 (pt_cmpR op_eq (pe_cal c__law_off (hr.mono (by first | decide | omega)) (pa_cons (pv 0) (pa_cons (pv 3) pa_nil))) pe_int (nomark _)))))
(pss_cons (ps_set (i := 5) sc.nd rfl (Or.inl rfl) (pe_op op_mul (pv 5) (pe_ix (r := rIxL K) ix_list (pe_lst (pa_cons pe_int (pa_cons (pe_un un_neg pe_int) pa_nil))) (pe_callTy call_int1 (by rfl) n_int (by decide +kernel) (pa_cons (pe_cmpR op_eq (pe_cal c__law_off (hr.mono (by first | decide | omega)) (pa_cons (pv 0) (pa_cons (pv 4) pa_nil))) pe_int (nomark _)) pa_nil)) (fun _ _ => rfl))))
(pss_cons (ps_set (i := 10) sc.nd rfl (Or.inl rfl) (pv 5))
(pss_cons (ps_set (i := 6) sc.nd rfl (Or.inl rfl) pe_int)
(pss_one (ps_set (i := 7) sc.nd rfl (Or.inl rfl) pe_bl)))))
pss_nil)
(pss_cons (ps_expr (pe_bm PySem.F.plainAttrs_list PySem.F.slot_list_append PySem.F.type_list_append mt_append (pv 8) (pa_cons (pe_tup (pa_cons (pv 10) (pa_cons (pe_cut (pe_and (pv 7) (pe_and (pe_cmpR op_lt (pv 6) (pe_ix (r := rIxT K) ix_tup (pv 1) pe_int (fun _ _ => rfl)) (nomark _)) (pe_one (pe_cmpR op_eq (pe_cal c__law_off (hr.mono (by first | decide | omega)) (pa_cons (pv 0) (pa_cons pe_int pa_nil))) pe_int (nomark _)))))) pa_nil))) pa_nil)))
(pss_one (ps_set (i := 6) sc.nd rfl (Or.inl rfl) (pe_op op_add (pv 6) pe_int)))))))
(pss_one (ps_ret (pv 8)))))))))), ?_⟩
    -- often, back
    refine ⟨_, rfl, d, ns, 4, rfl, hd, hD, by decide, by decide, fun v1 ms1 v10 v11 hD1 => ?_⟩
    refine ⟨_, _, rfl, rfl, ?_⟩
    refine ⟨_, rfl, d, ms1, 6, rfl, upd_same, hD1, by decide, by decide, fun v2 ms2 v20 v21 hD2 => ?_⟩
    refine ⟨_, _, rfl, rfl, ?_⟩
    rw [upd_upd]
    -- way
    refine ⟨_, rfl, (by show 2 ≤ sizeLine; decide), fun l1 h1 => ?_⟩
    have n1 : d ≠ l1 := fun z => by rw [← z, upd_same] at h1; cases h1
    refine ⟨_, rfl, d, ms2, 2, rfl, (by rw [upd_ne n1, upd_same]), hD2, by decide, by decide, fun v3 ms3 v30 v31 hD3 => ?_⟩
    have f0 : Frm [d] H (upd H d (.lst (ms2.map V.int))) := Frm.set (by simp)
    have f1 : Frm [d] H (upd (upd (upd H d (.lst (ms2.map V.int))) l1 (.lst [.int 1, .int (-1)])) d (.lst (ms3.map V.int))) := (f0.trans (Frm.new h1)).trans (Frm.set (by simp))
    refine ⟨l1, _, _, .int (if v3 = 0 then 1 else -1), rfl, rfl, SqL.of (by rw [upd_ne n1.symm]; exact upd_same), ?_, ?_⟩
    · show atI [V.int 1, V.int (-1)] v3 = _
      have : v3 = 0 ∨ v3 = 1 := by omega
      rcases this with h | h <;> rw [h] <;> decide
    -- since, ever, the list
    have frT : ∀ {H' : Hp}, Frm [d] H H' → SqT K H' kn [.int g, .int b] := fun {H'} fr => same_seqT (fz_le (ps := ps)) (same_seqT (Frm.fz (Frm.mono (by simpa using dps) fr)) hT)
    refine ⟨_, rfl, kn, _, _, _, rfl, rfl, frT f1, at_of (j := 0) rfl rfl, ?_⟩
    refine ⟨Nat.zero_le _, fun l hl => ?_⟩
    have hlH : H l = none := by
      cases q : H l with
      | none => rfl
      | some o =>
        by_cases e : l = d
        · rw [e, upd_same] at hl; cases hl
        · rw [f1 l o (by simpa using e) q] at hl; cases hl
    have nld : l ≠ d := fun z => by rw [z, upd_same] at hl; cases hl
    refine ⟨_, rfl, many, rfl, by omega, by omega, for_range (lo := 0) (n := many.toNat) (fun i σ H' => ∃ (row : List Mv) (ms : List Int) (xs : List V) (way since : Int) (ever : Bool) (u1 u2 : Option V),
        σ = [some (.ref d), some (.ref kn), some (.int many), some (.int (1 + v1)), some (.int (1 + v2)), some (.int way), some (.int since), some (.bl ever), some (.ref l), u1, u2] ∧
        (way = 1 ∨ way = -1) ∧ 0 ≤ since ∧ Good g b row ∧ row.length = i ∧ rst g row = (min g since, ever) ∧ Dice ms ∧ Frm [d] H H' ∧ H' d = some (.lst (ms.map V.int)) ∧ H' l = some (.lst xs) ∧ DpAll K (Fz (l :: ps) H') xs (row.map mvD)) ?_ ?_ ?_⟩
    · refine ⟨[], ms3, [], _, _, _, _, _, rfl, ?_, by omega, good_nil, rfl, ?_, hD3, f1.trans (Frm.new hl), by rw [upd_ne nld.symm, upd_same], upd_same, .nil⟩
      · split <;> simp
      · show (g, false) = _
        rw [Int.min_self]
    · rintro i σ H1 hi ⟨row, ms, xs, way, since, ever, u1, u2, rfl, hw, s0, hG, hrl, hst, hDm, fr, hd1, hl1, hX⟩
      have hi200 : row.length < 200 := by omega
      -- the turn
      refine ⟨fun σ H' => ∃ (t way' since' : Int) (ever' : Bool) (ms' : List Int), σ = [some (.ref d), some (.ref kn), some (.int many), some (.int (1 + v1)), some (.int (1 + v2)), some (.int way'), some (.int since'), some (.bl ever'), some (.ref l), some (.int (0 + (i : Int))), some (.int t)] ∧
        (way' = 1 ∨ way' = -1) ∧ (t = -1 ∨ t = 0 ∨ t = 1) ∧ since' = (if t = 0 then since else 0) ∧ ever' = (ever || decide (t ≠ 0)) ∧ (t ≠ 0 → g ≤ since) ∧ Dice ms' ∧ Frm [d] H H' ∧ H' d = some (.lst (ms'.map V.int)) ∧ H' l = some (.lst xs) ∧ DpAll K (Fz (l :: ps) H') xs (row.map mvD), ?_, ?_⟩
      · refine ⟨_, rfl, _, rfl, kn, _, _, _, rfl, rfl, frT fr, at_of (j := 0) rfl rfl, _, _, rfl, rfl, _, rfl, ?_⟩
        by_cases c : g ≤ since
        · refine iteDT c ⟨_, rfl, _, rfl, d, ms, 1 + v1, rfl, hd1, hDm, by omega, by omega, fun v4 ms4 v40 v41 hD4 => ?_⟩
          refine ⟨rfl, _, rfl, ?_⟩
          have fr4 : Frm [d] H (upd H1 d (.lst (ms4.map V.int))) := fr.trans (Frm.set (by simp))
          have hX4 : DpAll K (Fz (l :: ps) (upd H1 d (.lst (ms4.map V.int)))) xs (row.map mvD) := by rw [fz_set (by simp [dps])]; exact hX
          by_cases c4 : v4 = 0
          · refine iteDT (vint_eq c4) ?_
            refine ⟨_, rfl, _, rfl, (by show 2 ≤ sizeLine; decide), fun l5 h5 => ?_⟩
            have n5 : d ≠ l5 := fun z => by rw [← z, upd_same] at h5; cases h5
            have n5l : l ≠ l5 := fun z => by rw [← z, upd_ne nld, hl1] at h5; cases h5
            refine ⟨_, rfl, _, rfl, d, ms4, 1 + v2, rfl, (by rw [upd_ne n5, upd_same]), hD4, by omega, by omega, fun v6 ms6 v60 v61 hD6 => ?_⟩
            refine ⟨rfl, .inr ⟨_, rfl, ?_⟩⟩
            refine ⟨l5, _, _, .int (if v6 = 0 then -1 else 1), rfl, rfl, SqL.of (by rw [upd_ne n5.symm]; exact upd_same), ?_, ?_⟩
            · show atI [V.int 1, V.int (-1)] (if decide (V.int v6 = V.int 0) = true then 1 else 0) = _
              by_cases c6 : v6 = 0
              · rw [if_pos c6, decide_eq_true (vint_eq c6)]; decide
              · rw [if_neg c6, decide_eq_false (vint_ne c6)]; decide
            refine ⟨_, _, rfl, rfl, .inl ⟨by omega, by omega⟩, ?_⟩
            refine ⟨_, rfl, ?_⟩
            have hw6 : way * (if v6 = 0 then -1 else 1) = 1 ∨ way * (if v6 = 0 then -1 else 1) = -1 := by
              rcases hw with h | h <;> rw [h] <;> split <;> simp
            have hn6 : way * (if v6 = 0 then -1 else 1) ≠ 0 := by omega
            refine ⟨way * (if v6 = 0 then -1 else 1), way * (if v6 = 0 then -1 else 1), 0, true, ms6, rfl, hw6, by omega, by rw [if_neg hn6], by rw [decide_eq_true hn6, Bool.or_true], fun _ => c, hD6, (fr4.trans (Frm.new h5)).trans (Frm.set (by simp)), upd_same, ?_, ?_⟩
            · rw [upd_ne nld, upd_ne n5l, upd_ne nld]; exact hl1
            · rw [fz_set (by simp [dps])]; exact dpa_same (fz_mono (same_new h5)) hX4
          · refine iteDF (vint_ne c4) ?_
            exact ⟨0, way, since, ever, ms4, rfl, hw, by simp, by simp, by simp, by simp, hD4, fr4, upd_same, by rw [upd_ne nld]; exact hl1, hX4⟩
        · refine iteDF c ?_
          exact ⟨0, way, since, ever, ms, rfl, hw, by simp, by simp, by simp, by simp, hDm, fr, hd1, hl1, hX⟩
      · rintro σ H2 ⟨t, way', since', ever', ms', rfl, hw', ht, hs', he', hso, hD', fr2, hd2, hl2, hX2⟩
        have s0' : 0 ≤ since' := by rw [hs']; split <;> omega
        have nxt : min g (since' + 1) = min g ((if t = 0 then min g since else 0) + 1) := by
          rw [hs']; by_cases c : t = 0
          · rw [if_pos c, if_pos c]; omega
          · rw [if_neg c, if_neg c]
        refine ⟨_, rfl, .inl ⟨rfl, _, SqL.of hl2⟩, _, rfl, ?_⟩
        -- whether the old is shown
        refine ⟨fun v H' => ∃ (o : Bool) (ms3 : List Int), v = .bl o ∧ (o = true → ever' = true ∧ since' < b) ∧ Dice ms3 ∧ Frm [d] H H' ∧ H' d = some (.lst (ms3.map V.int)) ∧ H' l = some (.lst xs) ∧ DpAll K (Fz (l :: ps) H') xs (row.map mvD), ?_, ?_⟩
        · refine ⟨_, rfl, _, rfl, ?_⟩
          refine iteB (fun ce => ?_) (fun ce => ?_)
          · refine ⟨_, rfl, _, rfl, kn, _, _, _, rfl, rfl, frT fr2, at_of (j := 1) rfl rfl, _, _, rfl, rfl, _, rfl, ?_⟩
            refine iteB (fun cs => ?_) (fun cs => ?_)
            · refine ⟨_, rfl, d, ms', 2, rfl, hd2, hD', by decide, by decide, fun v7 ms7 v70 v71 hD7 => ?_⟩
              refine ⟨rfl, _, ms7, rfl, fun _ => ⟨ce, of_decide_eq_true cs⟩, hD7, fr2.trans (Frm.set (by simp)), upd_same, by rw [upd_ne nld]; exact hl2, ?_⟩
              rw [fz_set (by simp [dps])]; exact hX2
            · exact ⟨false, ms', rfl, by simp, hD', fr2, hd2, hl2, hX2⟩
          · exact ⟨false, ms', rfl, by simp, hD', fr2, hd2, hl2, hX2⟩
        · rintro v H3 ⟨o, ms3, rfl, ho, hD3', fr3, hd3, hl3, hX3⟩
          refine ⟨(by show 2 ≤ sizeLine; decide), fun tp htp => ?_⟩
          have ntl : l ≠ tp := ne_of_none hl3 htp
          have ntd : d ≠ tp := ne_of_none hd3 htp
          have hxn : xs.length ≤ 1000 := by rw [dpa_length hX3, List.length_map]; omega
          refine ⟨l, xs, _, rfl, rfl, (by rw [upd_ne ntl]; exact hl3), small1000 hxn, ?_⟩
          refine ⟨_, rfl, _, _, rfl, rfl, row ++ [(t, o)], ms3, xs ++ [.ref tp], way', since' + 1, ever', _, _, rfl, hw', by omega, ?_, ?_, ?_, hD3', ?_, ?_, upd_same, ?_⟩
          · refine good_snoc hG hi200 ⟨ht, fun z => ?_, fun z => ⟨?_, ?_⟩⟩
            · rw [hst]; have := hso z; show g ≤ min g since; omega
            · obtain ⟨z1, _⟩ := ho z
              rw [he'] at z1
              rw [hst]
              simpa using z1
            · obtain ⟨_, z2⟩ := ho z
              rw [hs'] at z2
              rw [hst]
              show (if t = 0 then min g since else 0) < b
              by_cases c : t = 0
              · rw [if_pos c] at z2 ⊢; omega
              · rw [if_neg c] at z2 ⊢; omega
          · rw [List.length_append, List.length_singleton, hrl]
          · rw [rst_app, hst]
            unfold stp
            dsimp only
            rw [he', nxt]
          · exact fun b o n q => by
              have nb : b ≠ l := fun z => by rw [z, hlH] at q; cases q
              rw [upd_ne nb]
              exact same_new htp b o (fr3 b o n q)
          · rw [upd_ne nld.symm, upd_ne ntd]; exact hd3
          · rw [List.map_append]
            exact dpa_push (live_cons hl3 (fun p hp z => by
              by_cases e : p = d
              · rw [e, hd3] at z; cases z
              · cases q : H p with
                | none => exact lv p hp q
                | some o => rw [fr3 p o (by simpa using e) q] at z; cases z)) htp hX3 (dpa_ib t o)
    · rintro σ H1 ⟨row, ms, xs, way, since, ever, u1, u2, rfl, hw, s0, hG, hrl, hst, hDm, fr, hd1, hl1, hX⟩
      exact ⟨_, rfl, k row ms l xs H1 hG hrl hDm hlH fr hd1 hl1 hX⟩
end
/-! ### data that are alike -/
/-- lists and tuples at most n deep, of bounded length -/
def Nest : Nat → PyData → Prop
  | _, .none => True
  | _, .bool _ => True
  | _, .int _ => True
  | _, .str x => PyData.strOk x = true
  | n + 1, .list ds => ds.length ≤ 1000 ∧ ∀ d ∈ ds, Nest n d
  | n + 1, .tuple ds => ds.length ≤ 1000 ∧ ∀ d ∈ ds, Nest n d
  | _, _ => False
/-- alike of two readings of one thing -/
def spAlike (K : PySem.W.Frag) : Nat → Sp
  | 0 => fun _ _ _ _ => False
  | n + 1 => fun vs H Q _ => ∃ (v u : V) (d : PyData), vs = [v, u] ∧ Dp K H v d ∧ Dp K H u d ∧ Nest n d ∧ ∀ H', Same H H' → Q (.bl true) H'
section
variable {K : PySem.W.Frag} {H : Hp} {σ : St} {x : V} {i : Nat} {t T : String} {b : Bool}
theorem e_isi {Q : VK} (h : σ[i]? = some (some x)) (ty : TyX K H x (.type t)) (e : kitB t T = some b) (q : Q (.bl b) H) : tCB (rIsi K) (tCons (tVar i) (tCons (tC (.ty T)) tNil)) σ H Q :=
  ⟨x, h, x, .ty T, .type t, .type T, b, rfl, .ty T, ty, kit_ty e, q⟩
theorem t_isi {Q : Bool → Hp → Prop} (h : σ[i]? = some (some x)) (ty : TyX K H x (.type t)) (e : kitB t T = some b) (q : Q b H) : tB (tCB (rIsi K) (tCons (tVar i) (tCons (tC (.ty T)) tNil))) σ H Q :=
  e_isi h ty e ⟨b, rfl, q⟩
theorem t_isi2 {Q : Bool → Hp → Prop} {j : Nat} {y : V} (h : σ[i]? = some (some x)) (h' : σ[j]? = some (some y)) (ty : TyX K H x (.type t)) (ty' : TyX K H y (.type t)) (e : kitB t T = some b) (q : Q false H) :
    tTest (tOp rNe (tCB (rIsi K) (tCons (tVar i) (tCons (tC (.ty T)) tNil))) (tCB (rIsi K) (tCons (tVar j) (tCons (tC (.ty T)) tNil)))) σ H Q := by
  refine e_isi h ty e (e_isi h' ty' e ⟨rfl, _, rfl, ?_⟩)
  rw [decide_eq_true rfl]
  exact q
end
section
variable {P : Program} {w : World} {K : PySem.W.Frag} {mg : Str → Option Value} {base : Heap}
theorem sc_alike : FnScope ["_law_found", "_law_due", "_law_k"] ["_law_found", "_law_due"] (defScope (top 15)) := ⟨rfl, rfl, rfl, by decide +kernel, rfl, by decide +kernel, by decide +kernel⟩
theorem ok_alike0 {f : Addr} {fd : FuncData} (F : Fun K "_law_alike" "_law_alike" (top 15) f fd) : FnOk P w K mg base CX0 1 f fd ["_law_found", "_law_due"] (spAlike K 0) :=
  F.ok sc_alike (fun vs H Q E h => h.elim) (fun cdv A outer s H vs Q E hr h => h.elim)
theorem ok_alikeS {f : Addr} {fd : FuncData} {n : Nat} (F : Fun K "_law_alike" "_law_alike" (top 15) f fd) (c__law_alike : Cal P w K mg base (n + 1) "_law_alike" ["_law_found", "_law_due"] (spAlike K n))
    (n_isinstance : mg "isinstance" = none) (n_bool : mg "bool" = none) (n_int : mg "int" = none) (n_str : mg "str" = none) (n_tuple : mg "tuple" = none) (n_list : mg "list" = none) (n_len : mg "len" = none) (n_all : mg "all" = none) (n_range : mg "range" = none) :
    FnOk P w K mg base CX0 (n + 2) f fd ["_law_found", "_law_due"] (spAlike K (n + 1)) := by
  have sc := sc_alike
  refine F.ok sc (fun vs H Q E h => ?_) (fun cdv A outer s H vs Q E hr h => ?_)
  · obtain ⟨v, u, d, rfl, _⟩ := h
    rfl
  · obtain ⟨v, u, d, rfl, hv, hu, hN, k⟩ := h
    refine ⟨_, (pss_cons (ps_if (pt_cmpR op_isN (pv 1) pe_non (nomark _))
(pss_one (ps_ret (pe_cmpR op_isN (pv 0) pe_non (nomark _))))
pss_nil)
(pss_cons (ps_if (pt_val (pe_callB (r := rIsi K) call_isi (by rfl) n_isinstance (by decide +kernel) (pa_cons (pv 1) (pa_cons (pe_bltn (v := .ty "bool") (by rfl) n_bool (by decide +kernel) rfl) pa_nil))))
(pss_one (ps_ret (pe_and (pe_callB (r := rIsi K) call_isi (by rfl) n_isinstance (by decide +kernel) (pa_cons (pv 0) (pa_cons (pe_bltn (v := .ty "bool") (by rfl) n_bool (by decide +kernel) rfl) pa_nil))) (pe_one (pe_cmpR op_eq (pv 0) (pv 1) (nomark _))))))
pss_nil)
(pss_cons (ps_if (pt_val (pe_callB (r := rIsi K) call_isi (by rfl) n_isinstance (by decide +kernel) (pa_cons (pv 1) (pa_cons (pe_bltn (v := .ty "int") (by rfl) n_int (by decide +kernel) rfl) pa_nil))))
(pss_one (ps_ret (pe_and (pe_callB (r := rIsi K) call_isi (by rfl) n_isinstance (by decide +kernel) (pa_cons (pv 0) (pa_cons (pe_bltn (v := .ty "int") (by rfl) n_int (by decide +kernel) rfl) pa_nil))) (pe_and (pe_not (pe_callB (r := rIsi K) call_isi (by rfl) n_isinstance (by decide +kernel) (pa_cons (pv 0) (pa_cons (pe_bltn (v := .ty "bool") (by rfl) n_bool (by decide +kernel) rfl) pa_nil)))) (pe_one (pe_cmpR op_eq (pv 0) (pv 1) (nomark _)))))))
pss_nil)
(pss_cons (ps_if (pt_val (pe_callB (r := rIsi K) call_isi (by rfl) n_isinstance (by decide +kernel) (pa_cons (pv 1) (pa_cons (pe_bltn (v := .ty "str") (by rfl) n_str (by decide +kernel) rfl) pa_nil))))
(pss_one (ps_ret (pe_and (pe_callB (r := rIsi K) call_isi (by rfl) n_isinstance (by decide +kernel) (pa_cons (pv 0) (pa_cons (pe_bltn (v := .ty "str") (by rfl) n_str (by decide +kernel) rfl) pa_nil))) (pe_one (pe_cmpR op_eq (pv 0) (pv 1) (nomark _))))))
pss_nil)
(pss_cons (ps_if (PW.pt (pw_or (pt_cmpR op_ne (pe_callB (r := rIsi K) call_isi (by rfl) n_isinstance (by decide +kernel) (pa_cons (pv 1) (pa_cons (pe_bltn (v := .ty "tuple") (by rfl) n_tuple (by decide +kernel) rfl) pa_nil))) (pe_callB (r := rIsi K) call_isi (by rfl) n_isinstance (by decide +kernel) (pa_cons (pv 0) (pa_cons (pe_bltn (v := .ty "tuple") (by rfl) n_tuple (by decide +kernel) rfl) pa_nil))) (nomark _)) (pw_or1 (pt_cmpR op_ne (pe_callB (r := rIsi K) call_isi (by rfl) n_isinstance (by decide +kernel) (pa_cons (pv 1) (pa_cons (pe_bltn (v := .ty "list") (by rfl) n_list (by decide +kernel) rfl) pa_nil))) (pe_callB (r := rIsi K) call_isi (by rfl) n_isinstance (by decide +kernel) (pa_cons (pv 0) (pa_cons (pe_bltn (v := .ty "list") (by rfl) n_list (by decide +kernel) rfl) pa_nil))) (nomark _)))))
(pss_one (ps_ret pe_bl))
pss_nil)
(pss_cons (ps_if (pt_cmpR op_ne (pe_callB (r := rLenQ K) call_lenQ (by rfl) n_len PySem.boot_len (pa_cons (pv 0) pa_nil)) (pe_callB (r := rLenQ K) call_lenQ (by rfl) n_len PySem.boot_len (pa_cons (pv 1) pa_nil)) (nomark _))
(pss_one (ps_ret pe_bl))
pss_nil)
(pss_one (ps_ret (pe_callB (r := rAll K) (cr_all rfl) (by rfl) n_all (by decide +kernel) (pa_cons (pe_lc (own := [("_law_k", 2)]) (g := gName 2) rfl sc.nd (pi_range1 rfl n_range (pa_cons (pe_callB (r := rLenQ K) call_lenQ (by rfl) n_len PySem.boot_len (pa_cons (pv 1) pa_nil)) pa_nil)) (blkOk_by (own := [("_law_k", 2)]) (N := ["_law_found", "_law_due", "_law_k"]) (sc := defScope (top 15)) (by decide +kernel)) (fun _ _ _ _ _ => (pg_name (i := 2) sc.nd rfl (Or.inl rfl))) (fun _ _ _ _ _ => pts_nil) (fun _ _ _ _ _ => (pe_cal c__law_alike (hr.mono (by first | decide | omega)) (pa_cons (pe_ix (r := rIx K) ix_seq (pv 0) (pv 2) (fun _ _ => rfl)) (pa_cons (pe_ix (r := rIx K) ix_seq (pv 1) (pv 2) (fun _ _ => rfl)) pa_nil))))) pa_nil)))))))))), ?_⟩
    refine ⟨_, rfl, rfl, _, rfl, ?_⟩
    cases d with
    | none =>
      cases hv; cases hu
      exact iteDT rfl ⟨_, rfl, rfl, by rw [decide_eq_true rfl]; exact k H (Same.refl H)⟩
    | bool b =>
      cases hv; cases hu
      refine iteDF (by simp) (t_isi (t := "bool") (b := true) rfl (.base (.bl b)) (by decide +kernel) (iteT ?_))
      refine e_isi (t := "bool") (b := true) rfl (.base (.bl b)) (by decide +kernel) ⟨_, rfl, iteT ⟨_, rfl, _, rfl, rfl, ?_⟩⟩
      rw [decide_eq_true rfl]; exact k H (Same.refl H)
    | int b =>
      cases hv; cases hu
      refine iteDF (by simp) (t_isi (t := "int") (b := false) rfl (.base (.int b)) (by decide +kernel) (iteF ?_))
      refine t_isi (t := "int") (b := true) rfl (.base (.int b)) (by decide +kernel) (iteT ?_)
      refine e_isi (t := "int") (b := true) rfl (.base (.int b)) (by decide +kernel) ⟨_, rfl, iteT ?_⟩
      refine e_isi (t := "int") (b := false) rfl (.base (.int b)) (by decide +kernel) ⟨_, rfl, _, rfl, iteT ⟨_, rfl, _, rfl, rfl, ?_⟩⟩
      rw [decide_eq_true rfl]; exact k H (Same.refl H)
    | str b =>
      cases hv; cases hu
      refine iteDF (by simp) (t_isi (t := "str") (b := false) rfl (.base (.str b)) (by decide +kernel) (iteF ?_))
      refine t_isi (t := "str") (b := false) rfl (.base (.str b)) (by decide +kernel) (iteF ?_)
      refine t_isi (t := "str") (b := true) rfl (.base (.str b)) (by decide +kernel) (iteT ?_)
      refine e_isi (t := "str") (b := true) rfl (.base (.str b)) (by decide +kernel) ⟨_, rfl, iteT ⟨_, rfl, _, rfl, rfl, ?_⟩⟩
      rw [decide_eq_true rfl]; exact k H (Same.refl H)
    | list ds =>
      obtain ⟨a, xs, rfl, hL, hX⟩ := dp_lst hv
      obtain ⟨b, ys, rfl, hM, hY⟩ := dp_lst hu
      have ta := ty_lst hL
      have tb := ty_lst hM
      have lx := dpa_length hX
      have ly := dpa_length hY
      refine iteDF (by simp) (t_isi (t := "list") (b := false) rfl tb (by decide +kernel) (iteF ?_))
      refine t_isi (t := "list") (b := false) rfl tb (by decide +kernel) (iteF ?_)
      refine t_isi (t := "list") (b := false) rfl tb (by decide +kernel) (iteF ?_)
      refine t_isi2 (t := "list") (b := false) rfl rfl tb ta (by decide +kernel) (iteF ?_)
      refine t_isi2 (t := "list") (b := true) rfl rfl tb ta (by decide +kernel) (iteF ?_)
      refine ⟨_, rfl, a, xs, rfl, .inl hL, _, rfl, b, ys, rfl, .inl hM, rfl, _, rfl, iteNS (vint_eq (by omega)) ?_⟩
      match n, hN, c__law_alike, hr with
      | n + 1, hN, c__law_alike, hr =>
      obtain ⟨hl, hN⟩ := hN
      refine ⟨_, rfl, b, ys, rfl, .inl hM, _, rfl, by omega, by omega, fun D hD => lc_range (lo := 0) (n := ((ys.length : Nat) : Int).toNat) (fun i H' => Same H H' ∧ H' D = some (.lst (List.replicate i (V.bl true)))) ⟨same_new hD, upd_same⟩ ?_ ?_⟩
      · rintro i H1 hi ⟨hs, hd1⟩
        have hiy : i < ys.length := by omega
        have hix : i < xs.length := by omega
        obtain ⟨d1, e1, q1⟩ := dpa_get hX (List.getElem?_eq_getElem hix)
        obtain ⟨d2, e2, q2⟩ := dpa_get hY (List.getElem?_eq_getElem hiy)
        rw [e1] at e2
        cases e2
        refine ⟨rfl, _, rfl, _, rfl, .inl ⟨a, xs, _, _, rfl, rfl, hs.seq hL, at_of (j := i) (by omega) (List.getElem?_eq_getElem hix), _, rfl, _, rfl, .inl ⟨b, ys, _, _, rfl, rfl, hs.seq hM, at_of (j := i) (by omega) (List.getElem?_eq_getElem hiy), ?_⟩⟩⟩
        refine ⟨_, _, d1, rfl, dp_same hs q1, dp_same hs q2, hN d1 (List.mem_of_getElem? e1), fun H2 hs2 => ?_⟩
        refine ⟨_, hs2 _ _ hd1, small1000 (by rw [List.length_replicate]; omega), same_put hD (hs.trans hs2), ?_⟩
        rw [upd_same, List.replicate_succ']
      · rintro H1 ⟨hs, hd1⟩
        refine ⟨D, List.replicate ((ys.length : Nat) : Int).toNat true, rfl, SqL.of (by rw [hd1, List.map_replicate]), ?_⟩
        rw [List.all_replicate]
        show Q (.bl (if _ then true else true)) _
        rw [ite_self]
        exact k _ hs
    | tuple ds =>
      obtain ⟨a, xs, rfl, hL, hX⟩ := dp_tup hv
      obtain ⟨b, ys, rfl, hM, hY⟩ := dp_tup hu
      have ta := ty_tup hL
      have tb := ty_tup hM
      have lx := dpa_length hX
      have ly := dpa_length hY
      refine iteDF (by simp) (t_isi (t := "tuple") (b := false) rfl tb (by decide +kernel) (iteF ?_))
      refine t_isi (t := "tuple") (b := false) rfl tb (by decide +kernel) (iteF ?_)
      refine t_isi (t := "tuple") (b := false) rfl tb (by decide +kernel) (iteF ?_)
      refine t_isi2 (t := "tuple") (b := true) rfl rfl tb ta (by decide +kernel) (iteF ?_)
      refine t_isi2 (t := "tuple") (b := false) rfl rfl tb ta (by decide +kernel) (iteF ?_)
      refine ⟨_, rfl, a, xs, rfl, .inr hL, _, rfl, b, ys, rfl, .inr hM, rfl, _, rfl, iteNS (vint_eq (by omega)) ?_⟩
      match n, hN, c__law_alike, hr with
      | n + 1, hN, c__law_alike, hr =>
      obtain ⟨hl, hN⟩ := hN
      refine ⟨_, rfl, b, ys, rfl, .inr hM, _, rfl, by omega, by omega, fun D hD => lc_range (lo := 0) (n := ((ys.length : Nat) : Int).toNat) (fun i H' => Same H H' ∧ H' D = some (.lst (List.replicate i (V.bl true)))) ⟨same_new hD, upd_same⟩ ?_ ?_⟩
      · rintro i H1 hi ⟨hs, hd1⟩
        have hiy : i < ys.length := by omega
        have hix : i < xs.length := by omega
        obtain ⟨d1, e1, q1⟩ := dpa_get hX (List.getElem?_eq_getElem hix)
        obtain ⟨d2, e2, q2⟩ := dpa_get hY (List.getElem?_eq_getElem hiy)
        rw [e1] at e2
        cases e2
        refine ⟨rfl, _, rfl, _, rfl, .inr (.inl ⟨a, xs, _, _, rfl, rfl, same_seqT hs hL, at_of (j := i) (by omega) (List.getElem?_eq_getElem hix), _, rfl, _, rfl, .inr (.inl ⟨b, ys, _, _, rfl, rfl, same_seqT hs hM, at_of (j := i) (by omega) (List.getElem?_eq_getElem hiy), ?_⟩)⟩)⟩
        refine ⟨_, _, d1, rfl, dp_same hs q1, dp_same hs q2, hN d1 (List.mem_of_getElem? e1), fun H2 hs2 => ?_⟩
        refine ⟨_, hs2 _ _ hd1, small1000 (by rw [List.length_replicate]; omega), same_put hD (hs.trans hs2), ?_⟩
        rw [upd_same, List.replicate_succ']
      · rintro H1 ⟨hs, hd1⟩
        refine ⟨D, List.replicate ((ys.length : Nat) : Int).toNat true, rfl, SqL.of (by rw [hd1, List.map_replicate]), ?_⟩
        rw [List.all_replicate]
        show Q (.bl (if _ then true else true)) _
        rw [ite_self]
        exact k _ hs
    | dict _ => cases hv
end
/-! ### shown -/
structure PairsK (K : PySem.W.Frag) (aP p0 p1 p2 p3 : Addr) : Prop where
  all : ∀ H, SqT K H aP [.ref p0, .ref p1, .ref p2, .ref p3]
  q0 : ∀ H, SqT K H p0 [.int 0, .int 0]
  q1 : ∀ H, SqT K H p1 [.int 0, .int 1]
  q2 : ∀ H, SqT K H p2 [.int 1, .int 1]
  q3 : ∀ H, SqT K H p3 [.int 1, .int 0]
theorem PairsK.at {K : PySem.W.Frag} {aP p0 p1 p2 p3 : Addr} (k : PairsK K aP p0 p1 p2 p3) (z : Int) : ∃ p, atI [V.ref p0, .ref p1, .ref p2, .ref p3] (z % 4) = some (.ref p) ∧ ∀ H, Dp K H (.ref p) (ppD (pr z)) := by
  unfold pr
  rcases mod4 z with h | h | h | h <;> rw [h]
  · exact ⟨p0, rfl, fun H => .tup (k.q0 H) (dpa_ii 0 0)⟩
  · exact ⟨p1, rfl, fun H => .tup (k.q1 H) (dpa_ii 0 1)⟩
  · exact ⟨p2, rfl, fun H => .tup (k.q2 H) (dpa_ii 1 1)⟩
  · exact ⟨p3, rfl, fun H => .tup (k.q3 H) (dpa_ii 1 0)⟩
theorem knT_of {K : PySem.W.Frag} {aP : Addr} {oc : Value} {od : Option Addr} {its : Array Value} {n : Nat} {sl : Array (Option Value)} {xs : List V} (h : K.lookup aP = some ⟨oc, od, .seq its n, sl⟩) (c : oc = .type "tuple") (z : its.size ≤ sizeLine) (r : Vals xs its.toList) (H : Hp) : SqT K H aP xs :=
  .inr ⟨_, its, n, h, c, rfl, z, r⟩
def shD (row : List Mv) : List PyData := (plcs row).map fun q => ppD (pr q.2)
def spShown (K : PySem.W.Frag) : Sp := fun vs H Q _ => ∃ (v u : V) (g b : Int) (row : List Mv) (ps : List Addr), vs = [v, u] ∧ Live ps H ∧ Dp K (Fz ps H) v (knD g b) ∧ 1 ≤ g ∧ g ≤ 6 ∧ 0 ≤ b ∧ b ≤ g ∧ Dp K (Fz ps H) u (rowD row) ∧ Good g b row ∧
  ∀ (p : Addr) (xs : List V) (H' : Hp), H p = none → Same H H' → H' p = some (.lst xs) → DpAll K (Fz (p :: ps) H') xs (shD row) → Q (.ref p) H'
section
variable {P : Program} {w : World} {K : PySem.W.Frag} {mg : Str → Option Value} {base : Heap}
theorem sc_shown : FnScope ["knob", "row", "here", "seen"] ["knob", "row"] (defScope (top 11)) := ⟨rfl, rfl, rfl, by decide +kernel, rfl, by decide +kernel, by decide +kernel⟩
theorem ok_shown {f a_PAIRS p0 p1 p2 p3 : Addr} {fd : FuncData} (F : Fun K "shown" "shown" (top 11) f fd) (g_PAIRS : mg "PAIRS" = some (.ref a_PAIRS)) (pk : PairsK K a_PAIRS p0 p1 p2 p3)
    (c_need_knob : Cal P w K mg base 1 "need_knob" ["knob"] (spNeedKnob K)) (c_need_row : Cal P w K mg base 1 "need_row" ["knob", "row"] (spNeedRow K)) (c_positions : Cal P w K mg base 1 "positions" ["row"] (spPos K)) :
    FnOk P w K mg base CX0 2 f fd ["knob", "row"] (spShown K) := by
  have sc := sc_shown
  refine F.ok sc (fun vs H Q E h => ?_) (fun cdv A outer s H vs Q E hr h => ?_)
  · obtain ⟨v, u, g, b, row, ps, rfl, _⟩ := h
    rfl
  · obtain ⟨v, u, g, b, row, ps, rfl, lv, hkn, g1, g6, b0, b1, hrow, hG, k⟩ := h
    refine ⟨_, (pss_cons (ps_expr (pe_cal c_need_knob (hr.mono (by first | decide | omega)) (pa_cons (pv 0) pa_nil)))
(pss_cons (ps_expr (pe_cal c_need_row (hr.mono (by first | decide | omega)) (pa_cons (pv 0) (pa_cons (pv 1) pa_nil))))
(pss_one (ps_ret (pe_lc (own := [("here", 2), ("seen", 3)]) (g := gTup K 2 (gCons (gName 2) (gCons (gName 3) gNil))) rfl sc.nd (pi_list (pe_cal c_positions (hr.mono (by first | decide | omega)) (pa_cons (pv 1) pa_nil))) (blkOk_by (own := [("here", 2), ("seen", 3)]) (N := ["knob", "row", "here", "seen"]) (sc := defScope (top 11)) (by decide +kernel)) (fun _ _ _ _ _ => (pg_tup rfl (pgs_cons (pg_name (i := 2) sc.nd rfl (Or.inl rfl)) (pgs_cons (pg_name (i := 3) sc.nd rfl (Or.inl rfl)) pgs_nil)))) (fun _ _ _ _ _ => pts_nil) (fun _ _ _ _ _ => (pe_ix (r := rIxT K) ix_tup (pe_glob (v := .ref a_PAIRS) rfl g_PAIRS rfl) (pe_op op_mod (pv 3) pe_int) (fun _ _ => rfl)))))))), ?_⟩
    refine ⟨_, rfl, v, g, b, rfl, dp_fz hkn, g1, g6, b0, b1, ?_⟩
    refine ⟨_, rfl, _, rfl, v, u, g, b, row, rfl, dp_fz hkn, dp_fz hrow, hG, fun H1 s1 => ?_⟩
    refine ⟨_, rfl, u, row, ps, rfl, lv.mono s1, dp_same (fz_mono s1) hrow, Nat.le_trans hG.len (by decide), fun l xs H2 hl s2 hxl hX => ?_⟩
    have hxn : xs.length ≤ 200 := by rw [dpa_length hX, List.length_map, plcs_length]; exact hG.len
    have xl : xs.length = (plcs row).length := by rw [dpa_length hX, List.length_map]
    refine ⟨l, rfl, ⟨xs, SqL.of hxl⟩, fun D hD => lc_it (walk_list (xs := xs)) (fun i H' => ∃ acc, Same H2 H' ∧ H' D = some (.lst acc) ∧ acc.length = i ∧ DpAll K (Fz (D :: ps) H') acc ((shD row).take i))
      ⟨[], same_new hD, upd_same, rfl, .nil⟩ (fun i H' _ ⟨_, e, _⟩ => SqL.of (e _ _ hxl)) ?_ ?_⟩
    · rintro i x H3 H4 hi ⟨acc, s3, hd3, hal, hA⟩ ⟨rfl, hx⟩
      obtain ⟨⟨h0, se⟩, hm, hz⟩ := dpa_map_at hX hx
      obtain ⟨q, rfl, hq⟩ := dp_ii (dp_same s3 (dp_fz hz))
      obtain ⟨p, hp1, hp2⟩ := pk.at se
      refine ⟨q, _, rfl, hq, rfl, _, _, rfl, _, _, rfl, rfl, rfl, ?_⟩
      refine ⟨_, rfl, _, _, rfl, rfl, (by show (0 : Int) < 4; decide), a_PAIRS, _, _, .ref p, rfl, rfl, pk.all _, hp1, acc, hd3, small1000 (by omega), acc ++ [.ref p], same_put hD s3, upd_same, by rw [List.length_append, List.length_singleton, hal], ?_⟩
      have e1 : (shD row)[i]? = some (ppD (pr se)) := by
        unfold shD
        rw [List.getElem?_map, hm]
        rfl
      rw [take_snoc e1]
      exact dpa_put hA (hp2 _)
    · rintro H3 ⟨acc, s3, hd3, hal, hA⟩
      have e2 : (shD row).take xs.length = shD row := List.take_of_length_le (by unfold shD; rw [List.length_map]; omega)
      rw [e2] at hA
      exact k D acc H3 ((s1.trans s2).free hD) ((s1.trans s2).trans s3) hd3 hA
end
/-! ### what is alike itself by == -/
theorem lay_nest : ∀ (n : Nat) (d : PyData), Nest n d → d.canLay0 = true ∧ d.depth ≤ n := by
  have all : ∀ (n : Nat) (ds : List PyData), (∀ d ∈ ds, d.canLay0 = true ∧ d.depth ≤ n) → PyData.canLayAll0 ds = true ∧ PyData.depthAll ds ≤ n := by
    intro n ds
    induction ds with
    | nil => intro _; exact ⟨rfl, Nat.zero_le _⟩
    | cons d ds ih =>
      intro h
      obtain ⟨h1, h2⟩ := h d (by simp)
      obtain ⟨h3, h4⟩ := ih fun x hx => h x (by simp [hx])
      refine ⟨by simp [PyData.canLayAll0, h1, h3], ?_⟩
      show max d.depth (PyData.depthAll ds) ≤ n
      omega
  intro n
  induction n with
  | zero =>
    intro d h
    cases d with
    | none => exact ⟨rfl, Nat.le_refl _⟩
    | bool _ => exact ⟨rfl, Nat.le_refl _⟩
    | int _ => exact ⟨rfl, Nat.le_refl _⟩
    | str _ => exact ⟨h, Nat.le_refl _⟩
    | list _ => exact h.elim
    | tuple _ => exact h.elim
    | dict _ => exact h.elim
  | succ n ih =>
    intro d h
    cases d with
    | none => exact ⟨rfl, Nat.zero_le _⟩
    | bool _ => exact ⟨rfl, Nat.zero_le _⟩
    | int _ => exact ⟨rfl, Nat.zero_le _⟩
    | str _ => exact ⟨h, Nat.zero_le _⟩
    | list ds =>
      obtain ⟨h1, h2⟩ := all n ds fun d hd => ih d (h.2 d hd)
      exact ⟨by simpa [PyData.canLay0] using h1, Nat.succ_le_succ h2⟩
    | tuple ds =>
      obtain ⟨h1, h2⟩ := all n ds fun d hd => ih d (h.2 d hd)
      exact ⟨by simpa [PyData.canLay0] using h1, Nat.succ_le_succ h2⟩
    | dict _ => exact h.elim
theorem shaped_nest {n : Nat} {d : PyData} (h : Nest n d) (hn : n ≤ 64) : SeqAt.shaped d = true := by
  obtain ⟨h1, h2⟩ := lay_nest n d h
  unfold SeqAt.shaped
  rw [h1, decide_eq_true (Nat.le_trans h2 hn)]
  rfl
theorem eqv_nest {n : Nat} {d : PyData} (h : Nest n d) : PyData.eqv d d = true := SeqAt.eqv_refl d (lay_nest n d h).1
theorem nest_row {row : List Mv} (h : row.length ≤ 1000) : Nest 2 (rowD row) := by
  refine ⟨by rw [List.length_map]; exact h, fun d hd => ?_⟩
  obtain ⟨m, _, rfl⟩ := List.mem_map.mp hd
  refine ⟨by show 2 ≤ 1000; decide, fun x hx => ?_⟩
  simp at hx
  rcases hx with rfl | rfl <;> trivial
theorem nest_pairs {l : List (Int × Int)} (h : l.length ≤ 1000) : Nest 2 (.list (l.map ppD)) := by
  refine ⟨by rw [List.length_map]; exact h, fun d hd => ?_⟩
  obtain ⟨m, _, rfl⟩ := List.mem_map.mp hd
  refine ⟨by show 2 ≤ 1000; decide, fun x hx => ?_⟩
  simp at hx
  rcases hx with rfl | rfl <;> trivial
def spLaw (K : PySem.W.Frag) : Sp := fun vs H Q _ => ∃ (a : Addr) (ns : List Int), vs = [.ref a] ∧ SqL K H a (ns.map V.int) ∧ ns.length ≤ 63 ∧ ∀ H', Q (.bl true) H'
section
variable {P : Program} {w : World} {K : PySem.W.Frag} {mg : Str → Option Value} {base : Heap}
theorem sc_law : FnScope ["_law_script", "_law_d", "_law_knob_here", "_law_rows", "_law_row_here", "_law_handed", "_law_due", "_law_found", "_law_k", "_law_here", "_law_seen"] ["_law_script"] (defScope (top 20)) := ⟨rfl, rfl, rfl, by decide +kernel, rfl, by decide +kernel, by decide +kernel⟩
set_option maxHeartbeats 2000000 in
theorem ok_law {f : Addr} {fd : FuncData} (F : Fun K "law" "law" (top 20) f fd) (n_range : mg "range" = none) (n_list : mg "list" = none)
    (c__law_dice : Cal P w K mg base 1 "_law_dice" ["_law_script", "_law_k"] (spDice K)) (c__law_off : Cal P w K mg base 1 "_law_off" ["_law_d", "_law_most"] spOff) (c__law_knob : Cal P w K mg base 2 "_law_knob" ["_law_d"] spKnob)
    (c__law_row : Cal P w K mg base 2 "_law_row" ["_law_d", "_law_knob_here", "_law_many"] (spRow K)) (c__law_places : Cal P w K mg base 1 "_law_places" ["_law_row_here"] (spPos K)) (c__law_pair : Cal P w K mg base 1 "_law_pair" ["_law_place"] (spPair K))
    (c__law_alike : Cal P w K mg base 4 "_law_alike" ["_law_found", "_law_due"] (spAlike K 3)) (c_shown : Cal P w K mg base 2 "shown" ["knob", "row"] (spShown K)) : FnOk P w K mg base CX0 5 f fd ["_law_script"] (spLaw K) := by
  have sc := sc_law
  refine F.ok sc (fun vs H Q E h => ?_) (fun cdv A outer s H vs Q E hr h => ?_)
  · obtain ⟨a, ns, rfl, _⟩ := h
    rfl
  · obtain ⟨a, ns, rfl, hS, hlen, k⟩ := h
    refine ⟨_, (pss_cons (ps_set (i := 1) sc.nd rfl (Or.inr rfl) (pe_cal c__law_dice (hr.mono (by first | decide | omega)) (pa_cons (pv 0) (pa_cons pe_int pa_nil))))
(pss_cons (ps_set (i := 2) sc.nd rfl (Or.inr rfl) (pe_cal c__law_knob (hr.mono (by first | decide | omega)) (pa_cons (pv 1) pa_nil)))
(pss_cons (ps_setLc (i := 3) (own := [("_law_k", 8)]) (g := gName 8) rfl sc.nd rfl rfl (sw_true rfl rfl rfl (by decide +kernel)) (pi_range1 rfl n_range (pa_cons pe_int pa_nil)) (blkOk_by (own := [("_law_k", 8)]) (N := ["_law_script", "_law_d", "_law_knob_here", "_law_rows", "_law_row_here", "_law_handed", "_law_due", "_law_found", "_law_k", "_law_here", "_law_seen"]) (sc := defScope (top 20)) (by decide +kernel)) (fun _ _ _ _ _ => (pg_name (i := 8) sc.nd rfl (Or.inl rfl))) (fun _ _ _ _ _ => pts_nil) (fun _ _ _ _ _ => (pe_cal c__law_row (hr.mono (by first | decide | omega)) (pa_cons (pv 1) (pa_cons (pv 2) (pa_cons (pe_cal c__law_off (hr.mono (by first | decide | omega)) (pa_cons (pv 1) (pa_cons (pe_ix (r := rIxL K) ix_list (pe_lst (pa_cons pe_int (pa_cons pe_int pa_nil))) (pe_cal c__law_off (hr.mono (by first | decide | omega)) (pa_cons (pv 1) (pa_cons pe_int pa_nil))) (fun _ _ => rfl)) pa_nil))) pa_nil))))))
(pss_cons (ps_for PassesOwn.never rfl (pi_list (pe_op op_cat (pv 3) (pe_slice (r := rSlL K) sl_list (pv 3) po_none (po_some pe_int)))) (pg_name (i := 4) sc.nd rfl (Or.inl rfl))
(pss_cons (ps_set (i := 5) sc.nd rfl (Or.inl rfl) (pe_callTy (r := rListQ K) call_listQ (by rfl) n_list (by decide +kernel) (pa_cons (pv 4) pa_nil)))
(pss_cons (ps_setLc (i := 6) (own := [("_law_here", 9), ("_law_seen", 10)]) (g := gTup K 2 (gCons (gName 9) (gCons (gName 10) gNil))) rfl sc.nd rfl rfl (sw_true rfl rfl rfl (by decide +kernel)) (pi_list (pe_cal c__law_places (hr.mono (by first | decide | omega)) (pa_cons (pv 4) pa_nil))) (blkOk_by (own := [("_law_here", 9), ("_law_seen", 10)]) (N := ["_law_script", "_law_d", "_law_knob_here", "_law_rows", "_law_row_here", "_law_handed", "_law_due", "_law_found", "_law_k", "_law_here", "_law_seen"]) (sc := defScope (top 20)) (by decide +kernel)) (fun _ _ _ _ _ => (pg_tup rfl (pgs_cons (pg_name (i := 9) sc.nd rfl (Or.inl rfl)) (pgs_cons (pg_name (i := 10) sc.nd rfl (Or.inl rfl)) pgs_nil)))) (fun _ _ _ _ _ => pts_nil) (fun _ _ _ _ _ => (pe_cal c__law_pair (hr.mono (by first | decide | omega)) (pa_cons (pv 10) pa_nil))))
(pss_cons (ps_set (i := 7) sc.nd rfl (Or.inl rfl) (pe_cal c_shown (hr.mono (by first | decide | omega)) (pa_cons (pv 2) (pa_cons (pv 5) pa_nil))))
(pss_cons (ps_if (PW.pt (pw_or (pt_not (pt_val (pe_cal c__law_alike (hr.mono (by first | decide | omega)) (pa_cons (pv 7) (pa_cons (pv 6) pa_nil))))) (pw_or1 (pt_cmpR (r := rNeD K) (op_neD hr.units) (pv 5) (pv 4) (nomark _)))))
(pss_one (ps_ret pe_bl))
pss_nil)
(pss_cons (ps_expr (pe_bm0 PySem.F.plainAttrs_list PySem.F.slot_list_clear PySem.F.type_list_clear mt_clear (pv 5)))
(pss_cons (ps_if (pt_not (pt_val (pe_cal c__law_alike (hr.mono (by first | decide | omega)) (pa_cons (pe_cal c_shown (hr.mono (by first | decide | omega)) (pa_cons (pv 2) (pa_cons (pv 4) pa_nil))) (pa_cons (pv 6) pa_nil)))))
(pss_one (ps_ret pe_bl))
pss_nil)
(pss_one (ps_expr (pe_bm PySem.F.plainAttrs_list PySem.F.slot_list_append PySem.F.type_list_append mt_append (pv 7) (pa_cons pe_int pa_nil)))))))))))
(pss_one (ps_ret pe_bl)))))), ?_⟩
    -- the dice, the knob
    refine ⟨_, rfl, a, ns, rfl, hS, hlen, fun d ms H1 hd0 s1 hd1 hD1 => ?_⟩
    refine ⟨_, rfl, d, ms, rfl, hd1, hD1, fun g b ms2 kn g1 g6 b0 b1 hD2 hkn => ?_⟩
    have nkd : d ≠ kn := ne_of_none hd1 hkn
    have hd2 : (upd (upd H1 d (.lst (ms2.map V.int))) kn (.tup [.int g, .int b])) d = some (.lst (ms2.map V.int)) := by rw [upd_ne nkd, upd_same]
    have hkn2 : Dp K (Fz [d] (upd (upd H1 d (.lst (ms2.map V.int))) kn (.tup [.int g, .int b]))) (.ref kn) (knD g b) :=
      .tup (SqT.of (by rw [fz_out (by simpa using nkd.symm), upd_same])) (dpa_ii g b)
    revert hd2 hkn2
    generalize upd (upd H1 d (.lst (ms2.map V.int))) kn (.tup [.int g, .int b]) = H2
    intro hd2 hkn2
    -- three rows
    refine ⟨3, rfl, by decide, by decide, fun D hD => lc_range (lo := 0) (n := 3) (fun i H' => ∃ (rows : List (List Mv)) (xs : List V) (ms : List Int), Dice ms ∧ H' d = some (.lst (ms.map V.int)) ∧ H' D = some (.lst xs) ∧ Frm [d] H2 H' ∧
        DpAll K (Fz [D, d] H') xs (rows.map rowD) ∧ rows.length = i ∧ ∀ r ∈ rows, Good g b r) ?_ ?_ ?_⟩
    · have nDd : d ≠ D := ne_of_none hd2 hD
      exact ⟨[], [], ms2, hD2, by rw [upd_ne nDd]; exact hd2, upd_same, Frm.new hD, .nil, rfl, by simp⟩
    · rintro i H3 hi ⟨rows, xs, ms3, hD3, hd3, hx3, fr3, hX3, hrl, hgd⟩
      have nDd : d ≠ D := ne_of_none hd2 hD
      refine ⟨rfl, _, rfl, _, rfl, _, rfl, (by show 2 ≤ sizeLine; decide), fun l hl => ?_⟩
      have nld : d ≠ l := ne_of_none hd3 hl
      have nlD : D ≠ l := ne_of_none hx3 hl
      refine ⟨_, rfl, d, ms3, 2, rfl, (by rw [upd_ne nld]; exact hd3), hD3, by decide, by decide, fun v4 ms4 v40 v41 hD4 => ?_⟩
      refine ⟨l, _, _, .int (if v4 = 0 then 30 else 201), rfl, rfl, SqL.of (by rw [upd_ne nld.symm]; exact upd_same), ?_, ?_⟩
      · show atI [V.int 30, V.int 201] v4 = _
        have : v4 = 0 ∨ v4 = 1 := by omega
        rcases this with h | h <;> rw [h] <;> decide
      refine ⟨d, ms4, if v4 = 0 then 30 else 201, rfl, upd_same, hD4, by split <;> decide, by split <;> decide, fun v5 ms5 v50 v51 hD5 => ?_⟩
      rw [upd_upd]
      have hv5 : v5 ≤ 200 := by
        have : (if v4 = 0 then (30 : Int) else 201) ≤ 201 := by split <;> decide
        omega
      have hd5 : (upd (upd H3 l (.lst [.int 30, .int 201])) d (.lst (ms5.map V.int))) d = some (.lst (ms5.map V.int)) := upd_same
      have hx5 : (upd (upd H3 l (.lst [.int 30, .int 201])) d (.lst (ms5.map V.int))) D = some (.lst xs) := by rw [upd_ne nDd.symm, upd_ne nlD]; exact hx3
      have fr5 : Frm [d] H2 (upd (upd H3 l (.lst [.int 30, .int 201])) d (.lst (ms5.map V.int))) := (fr3.trans (Frm.new hl)).trans (Frm.set (by simp))
      have hX5 : DpAll K (Fz [D, d] (upd (upd H3 l (.lst [.int 30, .int 201])) d (.lst (ms5.map V.int)))) xs (rows.map rowD) := by
        rw [fz_set (by simp)]; exact dpa_same (fz_mono (same_new hl)) hX3
      revert hd5 hx5 fr5 hX5
      generalize upd (upd H3 l (.lst [.int 30, .int 201])) d (.lst (ms5.map V.int)) = H5
      intro hd5 hx5 fr5 hX5
      have lv5 : Live [D, d] H5 := live_cons hx5 (live_cons hd5 live_nil)
      refine ⟨d, kn, ms5, v5, g, b, [D, d], rfl, hd5, hD5, by simp, lv5, ?_, g1, g6, b0, b1, v50, hv5, fun row ms6 p ys H6 hG hrl6 hD6 hp fr6 hd6 hp6 hX6 => ?_⟩
      · have s5 : Same (Fz [d] H2) (Fz [D, d] H5) := fun c o e => by
          have e5 := fr5.fz c o e
          obtain ⟨n, e5⟩ := fz_some.mp e5
          refine fz_some.mpr ⟨fun z => ?_, e5⟩
          rcases List.mem_cons.mp z with rfl | z
          · rw [fz_out (by simpa using nDd.symm), hD] at e; cases e
          · exact n z
        exact dp_same s5 hkn2
      have hx6 : H6 D = some (.lst xs) := fr6 D _ (by simpa using nDd.symm) hx5
      have npD : p ∉ [D, d] := lv5.new hp
      refine ⟨xs, hx6, ?_, rows ++ [row], xs ++ [.ref p], ms6, hD6, ?_, upd_same, ?_, ?_, ?_, ?_⟩
      · refine small1000 ?_
        rw [dpa_length hX5, List.length_map]; omega
      · rw [upd_ne nDd]; exact hd6
      · exact Frm.off (a := D) ((Frm.mono (by simp) (fr5.trans fr6)).trans (Frm.set (by simp))) hD
      · rw [List.map_append]
        refine dpa_put (dpa_same (Frm.fz (Frm.mono (by simp) fr6)) hX5) ?_
        exact dp_doneL npD hp6 hX6
      · rw [List.length_append, List.length_singleton, hrl]
      · intro r hr'
        rcases List.mem_append.mp hr' with h | h
        · exact hgd r h
        · rw [List.mem_singleton.mp h]; exact hG
    · rintro H3 ⟨rows, xs, ms3, hD3, hd3, hx3, fr3, hX3, hrl, hgd⟩
      have nDd : d ≠ D := ne_of_none hd2 hD
      have hkn3 : Dp K H3 (.ref kn) (knD g b) := dp_fz (dp_same fr3.fz hkn2)
      have hX3' : DpAll K H3 xs (rows.map rowD) := dpa_same fz_le hX3
      have xl : xs.length = 3 := by rw [dpa_length hX3, List.length_map, hrl]
      match xs, xl, hx3, hX3, hX3' with
      | [x0, x1, x2], _, hx3, hX3, hX3' =>
      refine ⟨_, rfl, _, rfl, _, rfl, D, _, rfl, SqL.of hx3, fun p1 hp1 => ?_⟩
      have n1 : D ≠ p1 := ne_of_none hx3 hp1
      refine ⟨D, p1, [x0, x1, x2], _, rfl, rfl, (by rw [upd_ne n1]; exact hx3), upd_same, ?_, fun p2 hp2 => ?_⟩
      · show 3 + 1 ≤ sizeLine
        decide
      have s4 : Same H3 (upd (upd H3 p1 (.lst (cutV [x0, x1, x2] none (some 1)))) p2 (.lst ([x0, x1, x2] ++ cutV [x0, x1, x2] none (some 1)))) := (same_new hp1).trans (same_new hp2)
      have hw : (upd (upd H3 p1 (.lst (cutV [x0, x1, x2] none (some 1)))) p2 (.lst ([x0, x1, x2] ++ cutV [x0, x1, x2] none (some 1)))) p2 = some (.lst [x0, x1, x2, x0]) := upd_same
      have hW : ∀ (i : Nat) (x : V), [x0, x1, x2, x0][i]? = some x → ∃ row, Good g b row ∧ Dp K H3 x (rowD row) := by
        intro i x hx
        have : ∃ j : Nat, [x0, x1, x2][j]? = some x := by
          match i, hx with
          | 0, hx => exact ⟨0, hx⟩
          | 1, hx => exact ⟨1, hx⟩
          | 2, hx => exact ⟨2, hx⟩
          | 3, hx => exact ⟨0, hx⟩
        obtain ⟨j, hj⟩ := this
        obtain ⟨row, h1, h2⟩ := dpa_map_at hX3' hj
        exact ⟨row, hgd row (List.mem_of_getElem? h1), h2⟩
      revert s4 hw
      generalize upd (upd H3 p1 (.lst (cutV [x0, x1, x2] none (some 1)))) p2 (.lst ([x0, x1, x2] ++ cutV [x0, x1, x2] none (some 1))) = H4
      intro s4 hw
      refine ⟨p2, rfl, ⟨_, SqL.of hw⟩, for_it (walk_list (xs := [x0, x1, x2, x0])) (fun i σ H' => ∃ u4 u5 u6 u7 u8 u9 u10, σ = [some (.ref a), some (.ref d), some (.ref kn), some (.ref D), u4, u5, u6, u7, u8, u9, u10] ∧ Same H4 H')
        ⟨_, _, _, _, _, _, _, rfl, Same.refl H4⟩ (fun i σ H' _ ⟨_, _, _, _, _, _, _, _, e⟩ => SqL.of (e _ _ hw)) ?_ ?_⟩
      · rintro i x σ H5 H6 hi ⟨u4, u5, u6, u7, u8, u9, u10, rfl, s5⟩ ⟨rfl, hx⟩
        obtain ⟨row, hG, hrow⟩ := hW i x hx
        have hl200 := hG.len
        have hkn5 : Dp K H6 (.ref kn) (knD g b) := dp_same (s4.trans s5) hkn3
        have hrow5 : Dp K H6 x (rowD row) := dp_same (s4.trans s5) hrow
        obtain ⟨r, ys, rfl, hL, hY⟩ := dp_lst hrow5
        -- handed = list(row)
        refine ⟨_, rfl, r, ys, rfl, .inl hL, fun h hh => ?_⟩
        have lvh : Live [h] (upd H6 h (.lst ys)) := live_cons upd_same live_nil
        have sh : Same H6 (Fz [h] (upd H6 h (.lst ys))) := same_fz (by simpa using hh) (same_new hh)
        -- due
        refine ⟨_, rfl, .ref r, row, [h], rfl, lvh, dp_same sh hrow5, by omega, fun l xs H7 hl s7 hxl hX7 => ?_⟩
        have xl7 : xs.length = (plcs row).length := by rw [dpa_length hX7, List.length_map]
        have pl := plcs_length row
        have lv7 : Live [h] H7 := lvh.mono s7
        refine ⟨l, rfl, ⟨xs, SqL.of hxl⟩, fun D2 hD2 => lc_it (walk_list (xs := xs)) (fun i H' => ∃ acc, Same H7 H' ∧ H' D2 = some (.lst acc) ∧ acc.length = i ∧ DpAll K (Fz [D2, h] H') acc ((shD row).take i))
          ⟨[], same_new hD2, upd_same, rfl, .nil⟩ (fun i H' _ ⟨_, e, _⟩ => SqL.of (e _ _ hxl)) ?_ ?_⟩
        · rintro j y H8 H9 hj ⟨acc, s8, hd8, hal, hA⟩ ⟨rfl, hy⟩
          obtain ⟨⟨h0, se⟩, hm, hz⟩ := dpa_map_at hX7 hy
          obtain ⟨q, rfl, hq⟩ := dp_ii (dp_same s8 (dp_fz hz))
          refine ⟨q, _, rfl, hq, rfl, _, _, rfl, _, _, rfl, rfl, rfl, ?_⟩
          refine ⟨_, rfl, se, rfl, fun p H10 hp s10 hp10 => ?_⟩
          have nD2 : p ≠ D2 := (ne_of_none hd8 hp).symm
          have lv9 : Live [D2, h] H9 := live_cons hd8 (lv7.mono s8)
          refine ⟨acc, s10 _ _ hd8, small1000 (by omega), acc ++ [.ref p], same_put hD2 (s8.trans s10), upd_same, by rw [List.length_append, List.length_singleton, hal], ?_⟩
          have e1 : (shD row)[j]? = some (ppD (pr se)) := by
            unfold shD
            rw [List.getElem?_map, hm]
            rfl
          rw [take_snoc e1]
          refine dpa_put (dpa_same (fz_mono s10) hA) ?_
          exact .tup (SqT.of (by rw [fz_out (lv9.new hp)]; exact hp10)) (dpa_ii _ _)
        · rintro H8 ⟨acc, s8, hd8, hal, hA⟩
          have e2 : (shD row).take xs.length = shD row := List.take_of_length_le (by unfold shD; rw [List.length_map]; omega)
          rw [e2] at hA
          have nD2h : D2 ∉ [h] := lv7.new hD2
          have hdue : Dp K (Fz [h] H8) (.ref D2) (.list (shD row)) := dp_doneL nD2h hd8 hA
          have hh8 : H8 h = some (.lst ys) := s8 _ _ (s7 _ _ upd_same)
          have s68 : Same H6 (Fz [h] H8) := same_fz (by simpa using hh) (((same_new hh).trans s7).trans s8)
          have hnest : Nest 2 (.list (shD row)) := by
            have e : shD row = ((plcs row).map fun q => pr q.2).map ppD := by unfold shD; rw [List.map_map]; rfl
            rw [e]
            exact nest_pairs (by rw [List.length_map]; omega)
          -- found = shown(knob, handed)
          refine ⟨_, rfl, _, rfl, .ref kn, .ref h, g, b, row, [], rfl, live_nil, ?_, g1, g6, b0, b1, ?_, hG, fun p zs H9 hp s9 hp9 hZ => ?_⟩
          · rw [fz_nil]; exact dp_same (s68.trans fz_le) hkn5
          · rw [fz_nil]; exact .lst (SqL.of hh8) (dpa_same (s68.trans fz_le) hY)
          have hfound : Dp K H9 (.ref p) (.list (shD row)) := .lst (SqL.of hp9) (dpa_same fz_le hZ)
          refine ⟨_, rfl, _, rfl, _, _, _, rfl, hfound, dp_same s9 (dp_fz hdue), hnest, fun H10 s10 => ⟨_, rfl, ?_⟩⟩
          have hh10 : H10 h = some (.lst ys) := s10 _ _ (s9 _ _ hh8)
          have s610 : Same H6 H10 := ((s68.trans fz_le).trans s9).trans s10
          refine ⟨_, rfl, _, rfl, rowD row, rowD row, .lst (SqL.of hh10) (dpa_same s610 hY), dp_same s610 hrow5, shaped_nest (nest_row (by omega)) (by decide), shaped_nest (nest_row (by omega)) (by decide), _, rfl, ?_⟩
          rw [eqv_nest (nest_row (show row.length ≤ 1000 by omega))]
          -- handed.clear()
          refine ⟨_, rfl, .inl ⟨rfl, _, SqL.of hh10⟩, h, ys, rfl, rfl, hh10, ?_⟩
          have hp10 : H10 p = some (.lst zs) := s10 _ _ hp9
          have nph : p ≠ h := fun z => by rw [z, hh8] at hp; cases hp
          have s11 : Same H6 (upd H10 h (.lst [])) := same_put hh s610
          have hdue11 : Dp K (upd H10 h (.lst [])) (.ref D2) (.list (shD row)) := by
            have q := dp_same (fz_mono (s9.trans s10)) hdue
            rw [← fz_set (H := H10) (o := .lst []) (List.mem_singleton_self h)] at q
            exact dp_fz q
          -- shown(knob, row)
          refine ⟨_, rfl, _, rfl, .ref kn, .ref r, g, b, row, [], rfl, live_nil, ?_, g1, g6, b0, b1, ?_, hG, fun p' zs' H12 hp' s12 hp12 hZ' => ?_⟩
          · rw [fz_nil]; exact dp_same s11 hkn5
          · rw [fz_nil]; exact dp_same s11 hrow5
          refine ⟨_, rfl, _, _, _, rfl, .lst (SqL.of hp12) (dpa_same fz_le hZ'), dp_same s12 hdue11, hnest, fun H13 s13 => ⟨_, rfl, ?_⟩⟩
          have hp13 : H13 p = some (.lst zs) := s13 _ _ (s12 _ _ (by rw [upd_ne nph]; exact hp10))
          refine ⟨_, rfl, .inl ⟨rfl, _, SqL.of hp13⟩, p, zs, _, rfl, rfl, hp13, small1000 ?_, ?_⟩
          · rw [dpa_length hZ]; unfold shD; rw [List.length_map]; omega
          have h6p : H6 p = none := by
            cases q : H6 p with
            | none => rfl
            | some o => rw [(s68.trans fz_le) _ _ q] at hp; cases hp
          exact ⟨_, _, _, _, _, _, _, rfl, s5.trans (same_put h6p (s11.trans (s12.trans s13)))⟩
      · rintro σ H5 ⟨u4, u5, u6, u7, u8, u9, u10, rfl, s5⟩
        exact k H5
end
theorem all_mk {l : PySem.W.OpenLaw} {w : World} {K : PySem.W.Frag} {h : Heap} {mg : Str → Option Value} {fa : Addr} (X : K.In h) (G : h.Ns mainGlobals mg) (hfa : mg "law" = some (.ref fa))
    {f1 : Addr} {od1 an1 : Option Addr} {sl1 : Array (Option Value)} {oc1 kV1 dc1 pm1 cd1 ct1 : Value}
    {f2 : Addr} {od2 an2 : Option Addr} {sl2 : Array (Option Value)} {oc2 kV2 dc2 pm2 cd2 ct2 : Value}
    {f3 : Addr} {od3 an3 : Option Addr} {sl3 : Array (Option Value)} {oc3 kV3 dc3 pm3 cd3 ct3 : Value}
    {f4 : Addr} {od4 an4 : Option Addr} {sl4 : Array (Option Value)} {oc4 kV4 dc4 pm4 cd4 ct4 : Value}
    {f5 : Addr} {od5 an5 : Option Addr} {sl5 : Array (Option Value)} {oc5 kV5 dc5 pm5 cd5 ct5 : Value}
    {f6 : Addr} {od6 an6 : Option Addr} {sl6 : Array (Option Value)} {oc6 kV6 dc6 pm6 cd6 ct6 : Value}
    {f7 : Addr} {od7 an7 : Option Addr} {sl7 : Array (Option Value)} {oc7 kV7 dc7 pm7 cd7 ct7 : Value}
    {f8 : Addr} {od8 an8 : Option Addr} {sl8 : Array (Option Value)} {oc8 kV8 dc8 pm8 cd8 ct8 : Value}
    {f9 : Addr} {od9 an9 : Option Addr} {sl9 : Array (Option Value)} {oc9 kV9 dc9 pm9 cd9 ct9 : Value}
    {f10 : Addr} {od10 an10 : Option Addr} {sl10 : Array (Option Value)} {oc10 kV10 dc10 pm10 cd10 ct10 : Value}
    {f11 : Addr} {od11 an11 : Option Addr} {sl11 : Array (Option Value)} {oc11 kV11 dc11 pm11 cd11 ct11 : Value}
    {f12 : Addr} {od12 an12 : Option Addr} {sl12 : Array (Option Value)} {oc12 kV12 dc12 pm12 cd12 ct12 : Value}
    {tg_MOST_GAP : Tok}
    {tg_MOST_ROW : Tok}
    {aP p0 p1 p2 p3 : Addr}
    {odP0 : Option Addr} {nP0 : Nat} {slP0 : Array (Option Value)}
    {odP1 : Option Addr} {nP1 : Nat} {slP1 : Array (Option Value)}
    {u00 u01 : Tok}
    {odP2 : Option Addr} {nP2 : Nat} {slP2 : Array (Option Value)}
    {u10 u11 : Tok}
    {odP3 : Option Addr} {nP3 : Nat} {slP3 : Array (Option Value)}
    {u20 u21 : Tok}
    {odP4 : Option Addr} {nP4 : Nat} {slP4 : Array (Option Value)}
    {u30 u31 : Tok}
    (a1 : PySem.W.nsIn K mainGlobals "_law_dice" = some (some (.ref f1)))
    (l1 : K.lookup f1 = some ⟨oc1, od1, .func (PySem.W.fnOf "_law_dice" "_law_dice" (defArgs (top 13)) (defBody (top 13)) (defScope (top 13)) .none kV1 dc1 pm1 an1 cd1 ct1), sl1⟩)
    (c1 : PySem.W.codeIn K cd1 "_law_dice" = true)
    (k1 : PySem.W.keepIn K (.ref f1) = true)
    (a2 : PySem.W.nsIn K mainGlobals "_law_off" = some (some (.ref f2)))
    (l2 : K.lookup f2 = some ⟨oc2, od2, .func (PySem.W.fnOf "_law_off" "_law_off" (defArgs (top 14)) (defBody (top 14)) (defScope (top 14)) .none kV2 dc2 pm2 an2 cd2 ct2), sl2⟩)
    (c2 : PySem.W.codeIn K cd2 "_law_off" = true)
    (k2 : PySem.W.keepIn K (.ref f2) = true)
    (a3 : PySem.W.nsIn K mainGlobals "_law_knob" = some (some (.ref f3)))
    (l3 : K.lookup f3 = some ⟨oc3, od3, .func (PySem.W.fnOf "_law_knob" "_law_knob" (defArgs (top 16)) (defBody (top 16)) (defScope (top 16)) .none kV3 dc3 pm3 an3 cd3 ct3), sl3⟩)
    (c3 : PySem.W.codeIn K cd3 "_law_knob" = true)
    (k3 : PySem.W.keepIn K (.ref f3) = true)
    (a4 : PySem.W.nsIn K mainGlobals "_law_row" = some (some (.ref f4)))
    (l4 : K.lookup f4 = some ⟨oc4, od4, .func (PySem.W.fnOf "_law_row" "_law_row" (defArgs (top 17)) (defBody (top 17)) (defScope (top 17)) .none kV4 dc4 pm4 an4 cd4 ct4), sl4⟩)
    (c4 : PySem.W.codeIn K cd4 "_law_row" = true)
    (k4 : PySem.W.keepIn K (.ref f4) = true)
    (a5 : PySem.W.nsIn K mainGlobals "_law_places" = some (some (.ref f5)))
    (l5 : K.lookup f5 = some ⟨oc5, od5, .func (PySem.W.fnOf "_law_places" "_law_places" (defArgs (top 18)) (defBody (top 18)) (defScope (top 18)) .none kV5 dc5 pm5 an5 cd5 ct5), sl5⟩)
    (c5 : PySem.W.codeIn K cd5 "_law_places" = true)
    (k5 : PySem.W.keepIn K (.ref f5) = true)
    (a6 : PySem.W.nsIn K mainGlobals "_law_pair" = some (some (.ref f6)))
    (l6 : K.lookup f6 = some ⟨oc6, od6, .func (PySem.W.fnOf "_law_pair" "_law_pair" (defArgs (top 19)) (defBody (top 19)) (defScope (top 19)) .none kV6 dc6 pm6 an6 cd6 ct6), sl6⟩)
    (c6 : PySem.W.codeIn K cd6 "_law_pair" = true)
    (k6 : PySem.W.keepIn K (.ref f6) = true)
    (a7 : PySem.W.nsIn K mainGlobals "need_knob" = some (some (.ref f7)))
    (l7 : K.lookup f7 = some ⟨oc7, od7, .func (PySem.W.fnOf "need_knob" "need_knob" (defArgs (top 8)) (defBody (top 8)) (defScope (top 8)) .none kV7 dc7 pm7 an7 cd7 ct7), sl7⟩)
    (c7 : PySem.W.codeIn K cd7 "need_knob" = true)
    (k7 : PySem.W.keepIn K (.ref f7) = true)
    (a8 : PySem.W.nsIn K mainGlobals "need_row" = some (some (.ref f8)))
    (l8 : K.lookup f8 = some ⟨oc8, od8, .func (PySem.W.fnOf "need_row" "need_row" (defArgs (top 9)) (defBody (top 9)) (defScope (top 9)) .none kV8 dc8 pm8 an8 cd8 ct8), sl8⟩)
    (c8 : PySem.W.codeIn K cd8 "need_row" = true)
    (k8 : PySem.W.keepIn K (.ref f8) = true)
    (a9 : PySem.W.nsIn K mainGlobals "positions" = some (some (.ref f9)))
    (l9 : K.lookup f9 = some ⟨oc9, od9, .func (PySem.W.fnOf "positions" "positions" (defArgs (top 10)) (defBody (top 10)) (defScope (top 10)) .none kV9 dc9 pm9 an9 cd9 ct9), sl9⟩)
    (c9 : PySem.W.codeIn K cd9 "positions" = true)
    (k9 : PySem.W.keepIn K (.ref f9) = true)
    (a10 : PySem.W.nsIn K mainGlobals "shown" = some (some (.ref f10)))
    (l10 : K.lookup f10 = some ⟨oc10, od10, .func (PySem.W.fnOf "shown" "shown" (defArgs (top 11)) (defBody (top 11)) (defScope (top 11)) .none kV10 dc10 pm10 an10 cd10 ct10), sl10⟩)
    (c10 : PySem.W.codeIn K cd10 "shown" = true)
    (k10 : PySem.W.keepIn K (.ref f10) = true)
    (a11 : PySem.W.nsIn K mainGlobals "_law_alike" = some (some (.ref f11)))
    (l11 : K.lookup f11 = some ⟨oc11, od11, .func (PySem.W.fnOf "_law_alike" "_law_alike" (defArgs (top 15)) (defBody (top 15)) (defScope (top 15)) .none kV11 dc11 pm11 an11 cd11 ct11), sl11⟩)
    (c11 : PySem.W.codeIn K cd11 "_law_alike" = true)
    (k11 : PySem.W.keepIn K (.ref f11) = true)
    (a12 : PySem.W.nsIn K mainGlobals "law" = some (some (.ref f12)))
    (l12 : K.lookup f12 = some ⟨oc12, od12, .func (PySem.W.fnOf "law" "law" (defArgs (top 20)) (defBody (top 20)) (defScope (top 20)) .none kV12 dc12 pm12 an12 cd12 ct12), sl12⟩)
    (c12 : PySem.W.codeIn K cd12 "law" = true)
    (k12 : PySem.W.keepIn K (.ref f12) = true)
    (zg_MOST_GAP : PySem.W.nsIn K mainGlobals "MOST_GAP" = some (some (.int 6 tg_MOST_GAP)))
    (zg_MOST_ROW : PySem.W.nsIn K mainGlobals "MOST_ROW" = some (some (.int 200 tg_MOST_ROW)))
    (zP : PySem.W.nsIn K mainGlobals "PAIRS" = some (some (.ref aP)))
    (zP0 : K.lookup aP = some ⟨.type "tuple", odP0, .seq #[.ref p0, .ref p1, .ref p2, .ref p3] nP0, slP0⟩)
    (zP1 : K.lookup p0 = some ⟨.type "tuple", odP1, .seq #[.int 0 u00, .int 0 u01] nP1, slP1⟩)
    (zP2 : K.lookup p1 = some ⟨.type "tuple", odP2, .seq #[.int 0 u10, .int 1 u11] nP2, slP2⟩)
    (zP3 : K.lookup p2 = some ⟨.type "tuple", odP3, .seq #[.int 1 u20, .int 1 u21] nP3, slP3⟩)
    (zP4 : K.lookup p3 = some ⟨.type "tuple", odP4, .seq #[.int 1 u30, .int 0 u31] nP4, slP4⟩)
    (zn_abs : PySem.W.nsIn K mainGlobals "abs" = some none)
    (zn_all : PySem.W.nsIn K mainGlobals "all" = some none)
    (zn_bool : PySem.W.nsIn K mainGlobals "bool" = some none)
    (zn_enumerate : PySem.W.nsIn K mainGlobals "enumerate" = some none)
    (zn_int : PySem.W.nsIn K mainGlobals "int" = some none)
    (zn_isinstance : PySem.W.nsIn K mainGlobals "isinstance" = some none)
    (zn_len : PySem.W.nsIn K mainGlobals "len" = some none)
    (zn_list : PySem.W.nsIn K mainGlobals "list" = some none)
    (zn_min : PySem.W.nsIn K mainGlobals "min" = some none)
    (zn_range : PySem.W.nsIn K mainGlobals "range" = some none)
    (zn_str : PySem.W.nsIn K mainGlobals "str" = some none)
    (zn_tuple : PySem.W.nsIn K mainGlobals "tuple" = some none)
    : ∃ fd : FuncData, (∀ (s : Shared) (v : Value), BindsTo s fd ⟨[v], []⟩ [("_law_script", v)]) ∧ ∀ base : Heap, K.In base → base.Ns mainGlobals mg → FnOk l.prog w K mg base CX0 5 fa fd ["_law_script"] (spLaw K) := by
  have e := hfa.symm.trans (PySem.W.mg_of X G a12)
  cases e
  have F1 := fun_mk (st := top 13) l1 c1 k1
  have b1 := F1.binds (ps := ["_law_script", "_law_k"]) fun _ _ _ _ _ _ us hl => match us, hl with | [_, _], _ => rfl
  have F2 := fun_mk (st := top 14) l2 c2 k2
  have b2 := F2.binds (ps := ["_law_d", "_law_most"]) fun _ _ _ _ _ _ us hl => match us, hl with | [_, _], _ => rfl
  have F3 := fun_mk (st := top 16) l3 c3 k3
  have b3 := F3.binds (ps := ["_law_d"]) fun _ _ _ _ _ _ us hl => match us, hl with | [_], _ => rfl
  have F4 := fun_mk (st := top 17) l4 c4 k4
  have b4 := F4.binds (ps := ["_law_d", "_law_knob_here", "_law_many"]) fun _ _ _ _ _ _ us hl => match us, hl with | [_, _, _], _ => rfl
  have F5 := fun_mk (st := top 18) l5 c5 k5
  have b5 := F5.binds (ps := ["_law_row_here"]) fun _ _ _ _ _ _ us hl => match us, hl with | [_], _ => rfl
  have F6 := fun_mk (st := top 19) l6 c6 k6
  have b6 := F6.binds (ps := ["_law_place"]) fun _ _ _ _ _ _ us hl => match us, hl with | [_], _ => rfl
  have F7 := fun_mk (st := top 8) l7 c7 k7
  have b7 := F7.binds (ps := ["knob"]) fun _ _ _ _ _ _ us hl => match us, hl with | [_], _ => rfl
  have F8 := fun_mk (st := top 9) l8 c8 k8
  have b8 := F8.binds (ps := ["knob", "row"]) fun _ _ _ _ _ _ us hl => match us, hl with | [_, _], _ => rfl
  have F9 := fun_mk (st := top 10) l9 c9 k9
  have b9 := F9.binds (ps := ["row"]) fun _ _ _ _ _ _ us hl => match us, hl with | [_], _ => rfl
  have F10 := fun_mk (st := top 11) l10 c10 k10
  have b10 := F10.binds (ps := ["knob", "row"]) fun _ _ _ _ _ _ us hl => match us, hl with | [_, _], _ => rfl
  have F11 := fun_mk (st := top 15) l11 c11 k11
  have b11 := F11.binds (ps := ["_law_found", "_law_due"]) fun _ _ _ _ _ _ us hl => match us, hl with | [_, _], _ => rfl
  have F12 := fun_mk (st := top 20) l12 c12 k12
  have b12 := F12.binds (ps := ["_law_script"]) fun _ _ _ _ _ _ us hl => match us, hl with | [_], _ => rfl
  have g_MOST_GAP := PySem.W.mg_of X G zg_MOST_GAP
  have g_MOST_ROW := PySem.W.mg_of X G zg_MOST_ROW
  have g_PAIRS := PySem.W.mg_of X G zP
  have pk : PairsK K aP p0 p1 p2 p3 := ⟨knT_of zP0 rfl (by show 4 ≤ sizeLine; decide) (.cons rfl (.cons rfl (.cons rfl (.cons rfl .nil)))), knT_of zP1 rfl (by show 2 ≤ sizeLine; decide) (.cons ⟨_, rfl⟩ (.cons ⟨_, rfl⟩ .nil)), knT_of zP2 rfl (by show 2 ≤ sizeLine; decide) (.cons ⟨_, rfl⟩ (.cons ⟨_, rfl⟩ .nil)), knT_of zP3 rfl (by show 2 ≤ sizeLine; decide) (.cons ⟨_, rfl⟩ (.cons ⟨_, rfl⟩ .nil)), knT_of zP4 rfl (by show 2 ≤ sizeLine; decide) (.cons ⟨_, rfl⟩ (.cons ⟨_, rfl⟩ .nil))⟩
  have n_abs := PySem.W.mg_none_of X G zn_abs
  have n_all := PySem.W.mg_none_of X G zn_all
  have n_bool := PySem.W.mg_none_of X G zn_bool
  have n_enumerate := PySem.W.mg_none_of X G zn_enumerate
  have n_int := PySem.W.mg_none_of X G zn_int
  have n_isinstance := PySem.W.mg_none_of X G zn_isinstance
  have n_len := PySem.W.mg_none_of X G zn_len
  have n_list := PySem.W.mg_none_of X G zn_list
  have n_min := PySem.W.mg_none_of X G zn_min
  have n_range := PySem.W.mg_none_of X G zn_range
  have n_str := PySem.W.mg_none_of X G zn_str
  have n_tuple := PySem.W.mg_none_of X G zn_tuple
  refine ⟨PySem.W.fnOf "law" "law" (defArgs (top 20)) (defBody (top 20)) (defScope (top 20)) .none kV12 dc12 pm12 an12 cd12 ct12, fun s v => .of_eq rfl, fun base _ _ => ?_⟩
  have c__law_alike : Cal l.prog w K mg base 1 "_law_alike" ["_law_found", "_law_due"] (spAlike K 0) := ⟨f11, _, ok_alike0 F11, PySem.W.mg_of X G a11, k11, b11⟩
  have c__law_alike : Cal l.prog w K mg base 2 "_law_alike" ["_law_found", "_law_due"] (spAlike K 1) := ⟨f11, _, ok_alikeS F11 c__law_alike n_isinstance n_bool n_int n_str n_tuple n_list n_len n_all n_range, PySem.W.mg_of X G a11, k11, b11⟩
  have c__law_alike : Cal l.prog w K mg base 3 "_law_alike" ["_law_found", "_law_due"] (spAlike K 2) := ⟨f11, _, ok_alikeS F11 c__law_alike n_isinstance n_bool n_int n_str n_tuple n_list n_len n_all n_range, PySem.W.mg_of X G a11, k11, b11⟩
  have c__law_alike : Cal l.prog w K mg base 4 "_law_alike" ["_law_found", "_law_due"] (spAlike K 3) := ⟨f11, _, ok_alikeS F11 c__law_alike n_isinstance n_bool n_int n_str n_tuple n_list n_len n_all n_range, PySem.W.mg_of X G a11, k11, b11⟩
  have c__law_dice : Cal l.prog w K mg base 1 "_law_dice" ["_law_script", "_law_k"] (spDice K) := ⟨f1, _, ok_dice F1 n_abs, PySem.W.mg_of X G a1, k1, b1⟩
  have c__law_off : Cal l.prog w K mg base 1 "_law_off" ["_law_d", "_law_most"] (spOff) := ⟨f2, _, ok_off F2 n_len, PySem.W.mg_of X G a2, k2, b2⟩
  have c__law_knob : Cal l.prog w K mg base 2 "_law_knob" ["_law_d"] (spKnob) := ⟨f3, _, ok_knob F3 c__law_off, PySem.W.mg_of X G a3, k3, b3⟩
  have c__law_row : Cal l.prog w K mg base 2 "_law_row" ["_law_d", "_law_knob_here", "_law_many"] (spRow K) := ⟨f4, _, ok_row F4 c__law_off n_range n_int, PySem.W.mg_of X G a4, k4, b4⟩
  have c__law_places : Cal l.prog w K mg base 1 "_law_places" ["_law_row_here"] (spPos K) := ⟨f5, _, ok_places F5 n_int, PySem.W.mg_of X G a5, k5, b5⟩
  have c__law_pair : Cal l.prog w K mg base 1 "_law_pair" ["_law_place"] (spPair K) := ⟨f6, _, ok_pair F6 , PySem.W.mg_of X G a6, k6, b6⟩
  have c_need_knob : Cal l.prog w K mg base 1 "need_knob" ["knob"] (spNeedKnob K) := ⟨f7, _, ok_need_knob F7 g_MOST_GAP, PySem.W.mg_of X G a7, k7, b7⟩
  have c_need_row : Cal l.prog w K mg base 1 "need_row" ["knob", "row"] (spNeedRow K) := ⟨f8, _, ok_need_row F8 g_MOST_ROW n_enumerate n_min, PySem.W.mg_of X G a8, k8, b8⟩
  have c_positions : Cal l.prog w K mg base 1 "positions" ["row"] (spPos K) := ⟨f9, _, ok_positions F9 , PySem.W.mg_of X G a9, k9, b9⟩
  have c_shown : Cal l.prog w K mg base 2 "shown" ["knob", "row"] (spShown K) := ⟨f10, _, ok_shown F10 g_PAIRS pk c_need_knob c_need_row c_positions, PySem.W.mg_of X G a10, k10, b10⟩
  exact ok_law F12 n_range n_list c__law_dice c__law_off c__law_knob c__law_row c__law_places c__law_pair c__law_alike c_shown
theorem walk {l : PySem.W.OpenLaw} {q : Program} {loose : List Str} {XP : (Str → Option Value) → Heap → Prop} {YP : World → Heap → Prop} {d : DefRec} {K : Params → PySem.W.Frag} (hn : l.most = some 63) (hdf : d.params.defaults = []) (hY : ∀ (w : World) (h : Heap), YP w h → (K w.params).In h)
    (F : ∀ (w : World) (mg : Str → Option Value) (fa : Addr) (h : Heap), (K w.params).In h → h.Ns mainGlobals mg → mg d.name = some (.ref fa) → ∃ fd : FuncData, (∀ (s : Shared) (u : Value), BindsTo s fd ⟨[u], []⟩ [("_law_script", u)]) ∧
      ∀ base : Heap, (K w.params).In base → base.Ns mainGlobals mg → FnOk l.prog w (K w.params) mg base CX0 5 fa fd ["_law_script"] (spLaw (K w.params))) :
    PySem.W.WalkO q loose XP YP l.row.toRowW d [] (fun f vs => PySem.call f vs) :=
  L2.walk_of (n := 63) (k := 5) (x := "_law_script") (CX := fun _ => CX0) (sp := fun w => spLaw (K w.params)) hn (by decide) hdf ⟨rfl, by decide, by decide⟩ hY F (fun _ _ a ns hl _ hS => ⟨a, ns, rfl, hS, hl, fun _ => rfl⟩) fun _ _ _ _ _ z => z
end KT
open PySem PySem.W PyProof.Rows in
set_option maxRecDepth 100000 in
set_option maxHeartbeats 0 in
theorem PySem.Challenge.cw_knobturn_k03_what_wires_show_holds : PySem.Challenge.rw_knobturn_k03_what_wires_show.Holds := by
  w_on; o_law; k_head; (case hw => w_witness2)
  k_fill
  refine KT.walk (l := PySem.Challenge.rw_knobturn_k03_what_wires_show) rfl rfl (fun w h Y => PySem.W.kIn_of Y) ?F
  case F =>
    intro w mg fa h KX G hmg
    refine' KT.all_mk KX G hmg ?a1 ?l1 ?c1 ?k1 ?a2 ?l2 ?c2 ?k2 ?a3 ?l3 ?c3 ?k3 ?a4 ?l4 ?c4 ?k4 ?a5 ?l5 ?c5 ?k5 ?a6 ?l6 ?c6 ?k6 ?a7 ?l7 ?c7 ?k7 ?a8 ?l8 ?c8 ?k8 ?a9 ?l9 ?c9 ?k9 ?a10 ?l10 ?c10 ?k10 ?a11 ?l11 ?c11 ?k11 ?a12 ?l12 ?c12 ?k12 ?zg_MOST_GAP ?zg_MOST_ROW ?zP ?zP0 ?zP1 ?zP2 ?zP3 ?zP4 ?zn_abs ?zn_all ?zn_bool ?zn_enumerate ?zn_int ?zn_isinstance ?zn_len ?zn_list ?zn_min ?zn_range ?zn_str ?zn_tuple
    (case a1 => k_is)
    (case l1 => k_is)
    (case c1 => k_is)
    (case k1 => k_is)
    (case a2 => k_is)
    (case l2 => k_is)
    (case c2 => k_is)
    (case k2 => k_is)
    (case a3 => k_is)
    (case l3 => k_is)
    (case c3 => k_is)
    (case k3 => k_is)
    (case a4 => k_is)
    (case l4 => k_is)
    (case c4 => k_is)
    (case k4 => k_is)
    (case a5 => k_is)
    (case l5 => k_is)
    (case c5 => k_is)
    (case k5 => k_is)
    (case a6 => k_is)
    (case l6 => k_is)
    (case c6 => k_is)
    (case k6 => k_is)
    (case a7 => k_is)
    (case l7 => k_is)
    (case c7 => k_is)
    (case k7 => k_is)
    (case a8 => k_is)
    (case l8 => k_is)
    (case c8 => k_is)
    (case k8 => k_is)
    (case a9 => k_is)
    (case l9 => k_is)
    (case c9 => k_is)
    (case k9 => k_is)
    (case a10 => k_is)
    (case l10 => k_is)
    (case c10 => k_is)
    (case k10 => k_is)
    (case a11 => k_is)
    (case l11 => k_is)
    (case c11 => k_is)
    (case k11 => k_is)
    (case a12 => k_is)
    (case l12 => k_is)
    (case c12 => k_is)
    (case k12 => k_is)
    (case zg_MOST_GAP => k_is)
    (case zg_MOST_ROW => k_is)
    (case zP => k_is)
    (case zP0 => k_is)
    (case zP1 => k_is)
    (case zP2 => k_is)
    (case zP3 => k_is)
    (case zP4 => k_is)
    (case zn_abs => k_is)
    (case zn_all => k_is)
    (case zn_bool => k_is)
    (case zn_enumerate => k_is)
    (case zn_int => k_is)
    (case zn_isinstance => k_is)
    (case zn_len => k_is)
    (case zn_list => k_is)
    (case zn_min => k_is)
    (case zn_range => k_is)
    (case zn_str => k_is)
    (case zn_tuple => k_is)
