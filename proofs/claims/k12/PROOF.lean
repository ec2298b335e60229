import PyProof.Rows.All
import Wide.All
import OpenK.AllK
import Wide.FinOn
import HandS.ForMost
import HandS.IsInst
import HandS.Codes
import HandS.Walk
import HandS.Deep
import HandS.Strs
import HandS.SetFor
import PySem.Challenge.RW_knobturn_k12_whole_turned_about
set_option Elab.async false
set_option linter.all false
set_option maxRecDepth 100000
/-! # Heaps with some places hidden, data read off a heap, calls in short -/
namespace KT
open PySem L2

/-! ### heaps with some places hidden -/
def Fz (ps : List Addr) (H : Hp) : Hp := fun a => if a ∈ ps then none else H a
section
variable {ps qs : List Addr} {H H' H1 H2 : Hp} {a b p : Addr} {o : HO} {K : PySem.W.Frag}
theorem fz_out (h : a ∉ ps) : Fz ps H a = H a := if_neg h
theorem fz_in (h : a ∈ ps) : Fz ps H a = none := if_pos h
theorem fz_some : Fz ps H a = some o ↔ a ∉ ps ∧ H a = some o := by
  unfold Fz
  by_cases h : a ∈ ps
  · rw [if_pos h]; simp [h]
  · rw [if_neg h]; simp [h]
theorem fz_nil : Fz [] H = H := by funext a; exact fz_out (by simp)
theorem fz_le : Same (Fz ps H) H := fun b o h => (fz_some.mp h).2
theorem fz_less (h : ∀ a ∈ ps, a ∈ qs) : Same (Fz qs H) (Fz ps H) := fun b o e => by
  obtain ⟨n, e⟩ := fz_some.mp e
  exact fz_some.mpr ⟨fun z => n (h b z), e⟩
theorem fz_tail : Same (Fz (a :: ps) H) (Fz ps H) := fz_less fun _ h => List.mem_cons_of_mem _ h
theorem fz_mono (h : Same H H') : Same (Fz ps H) (Fz ps H') := fun b o e => by
  obtain ⟨n, e⟩ := fz_some.mp e
  exact fz_some.mpr ⟨n, h b o e⟩
/-- a store at a hidden place -/
theorem fz_set (h : a ∈ ps) : Fz ps (upd H a o) = Fz ps H := by
  funext b
  by_cases hb : b ∈ ps
  · rw [fz_in hb, fz_in hb]
  · rw [fz_out hb, fz_out hb, upd_ne (fun z : b = a => hb (by rw [z]; exact h))]
theorem same_new (h : H a = none) : Same H (upd H a o) := fun b u e => by
  rw [upd_ne (ne_of_none e h)]
  exact e
theorem same_put (h : H a = none) (e : Same H H') : Same H (upd H' a o) := fun b u q => by
  rw [upd_ne (ne_of_none q h)]
  exact e b u q
def Live (ps : List Addr) (H : Hp) : Prop := ∀ p ∈ ps, H p ≠ none
theorem live_nil : Live [] H := fun _ h => by cases h
theorem live_cons (h : H a = some o) (l : Live ps H) : Live (a :: ps) H := fun p hp => by
  rcases List.mem_cons.mp hp with rfl | hp
  · rw [h]; exact fun z => by cases z
  · exact l p hp
theorem Live.tail (l : Live (a :: ps) H) : Live ps H := fun p hp => l p (List.mem_cons_of_mem _ hp)
theorem Live.new (l : Live ps H) (h : H a = none) : a ∉ ps := fun z => l a z h
theorem Live.mono (l : Live ps H) (e : Same H H') : Live ps H' := fun p hp z => by
  cases q : H p with
  | none => exact l p hp q
  | some o => rw [e p o q] at z; cases z
theorem Live.upd (l : Live ps H) : Live ps (upd H a o) := fun p hp z => by
  by_cases h : p = a
  · rw [h, upd_same] at z; cases z
  · rw [upd_ne h] at z; exact l p hp z
theorem fz_new (h : a ∉ ps) : Fz ps (upd H a o) = upd (Fz ps H) a o := by
  funext b
  by_cases hb : b = a
  · rw [hb, fz_out h, upd_same, upd_same]
  · rw [upd_ne hb]
    by_cases hp : b ∈ ps
    · rw [fz_in hp, fz_in hp]
    · rw [fz_out hp, fz_out hp, upd_ne hb]
theorem same_fz (h : ∀ p ∈ ps, H p = none) (e : Same H H') : Same H (Fz ps H') := fun b o q => fz_some.mpr ⟨(fun z => by rw [h b z] at q; cases q), e b o q⟩
/-- all but the hidden places is as it was -/
def Frm (ps : List Addr) (H H' : Hp) : Prop := ∀ b o, b ∉ ps → H b = some o → H' b = some o
theorem Frm.refl : Frm ps H H := fun _ _ _ h => h
theorem Frm.trans (a : Frm ps H H1) (b : Frm ps H1 H2) : Frm ps H H2 := fun c o n h => b c o n (a c o n h)
theorem Frm.fz (a : Frm ps H H') : Same (Fz ps H) (Fz ps H') := fun b o e => by
  obtain ⟨n, e⟩ := fz_some.mp e
  exact fz_some.mpr ⟨n, a b o n e⟩
theorem Frm.of_same (a : Same H H') : Frm ps H H' := fun b o _ h => a b o h
theorem Frm.mono (h : ∀ a ∈ ps, a ∈ qs) (a : Frm ps H H') : Frm qs H H' := fun b o n e => a b o (fun z => n (h b z)) e
theorem Frm.set (h : a ∈ ps) : Frm ps H (upd H a o) := fun b u n e => by
  rw [upd_ne (fun z : b = a => n (by rw [z]; exact h))]
  exact e
theorem Frm.new (h : H a = none) : Frm ps H (upd H a o) := Frm.of_same (same_new h)
/-- what is new may change -/
theorem Frm.off (e : Frm (a :: ps) H H') (h : H a = none) : Frm ps H H' := fun b o n q => e b o (fun z => by
  rcases List.mem_cons.mp z with rfl | z
  · rw [h] at q; cases q
  · exact n z) q
theorem Frm.same (e : Frm [] H H') : Same H H' := fun b o h => e b o (by simp) h
theorem same_seqT {xs : List V} (e : Same H H') (h : SqT K H a xs) : SqT K H' a xs := by
  rcases h with (h | ⟨o, h⟩) | h
  · exact .inl (.inl (e _ _ h))
  · exact .inl (.inr ⟨o, e _ _ h⟩)
  · exact .inr h
end

/-! ### lists -/
theorem int_at {ns : List Int} {i : Nat} {y : V} (h : (ns.map V.int)[i]? = some y) : ∃ z, ns[i]? = some z ∧ y = V.int z := by
  rw [List.getElem?_map] at h
  cases e : ns[i]? with
  | none => rw [e] at h; cases h
  | some z => rw [e] at h; exact ⟨z, rfl, (Option.some.inj h).symm⟩
theorem ixN_nat {n j : Nat} (h : j < n) : ixN n (j : Int) = some j := by
  unfold ixN
  simp [h]
theorem seqIndex_nat {n j : Nat} (h : j < n) : seqIndex? (j : Int) n = some j := by
  have e : ¬ ((j : Int) < 0) := by omega
  unfold seqIndex?
  simp [h, e]
theorem upd_id {H : Hp} {a : Addr} {o : HO} (h : H a = some o) : upd H a o = H := by
  funext b
  by_cases e : b = a
  · rw [e, upd_same, h]
  · rw [upd_ne e]
theorem min2 (a b : Int) : min a b = if b < a then b else a := by
  rw [Int.min_def]
  by_cases h : b < a
  · rw [if_pos h, if_neg (by omega)]
  · rw [if_neg h, if_pos (by omega)]
/-! ### tests -/
theorem iteNT {c A B : Prop} [Decidable c] (hc : ¬ c) (h : A) : if (!decide c) = true then A else B := by
  rw [decide_eq_false hc]
  exact iteT h
theorem iteDT {c A B : Prop} [Decidable c] (hc : c) (h : A) : if decide c = true then A else B := by
  rw [decide_eq_true hc]
  exact iteT h
theorem iteDF {c A B : Prop} [Decidable c] (hc : ¬ c) (h : B) : if decide c = true then A else B := by
  rw [decide_eq_false hc]
  exact iteF h
theorem iteBT {b : Bool} {A B : Prop} (hb : b = true) (h : A) : if b = true then A else B := by rw [if_pos hb]; exact h
theorem iteBF {b : Bool} {A B : Prop} (hb : b = false) (h : B) : if b = true then A else B := by rw [hb]; exact iteF h
theorem iteB {b : Bool} {A B : Prop} (h1 : b = true → A) (h2 : b = false → B) : if b = true then A else B := by
  cases b with
  | true => exact iteT (h1 rfl)
  | false => exact iteF (h2 rfl)
theorem vint_ne {i j : Int} (h : i ≠ j) : V.int i ≠ V.int j := fun e => h (V.int.inj e)
theorem vint_eq {i j : Int} (h : i = j) : V.int i = V.int j := congrArg V.int h
/-! ### data -/
section
variable {K : PySem.W.Frag} {H H' : Hp} {ps : List Addr}
mutual
theorem dp_same (e : Same H H') : ∀ {v : V} {d : PyData}, Dp K H v d → Dp K H' v d
  | _, _, .non => .non
  | _, _, .bl b => .bl b
  | _, _, .int i => .int i
  | _, _, .str x => .str x
  | _, _, .lst h a => .lst (e.seq h) (dpa_same e a)
  | _, _, .tup h a => .tup (same_seqT e h) (dpa_same e a)
theorem dpa_same (e : Same H H') : ∀ {vs : List V} {ds : List PyData}, DpAll K H vs ds → DpAll K H' vs ds
  | _, _, .nil => .nil
  | _, _, .cons h t => .cons (dp_same e h) (dpa_same e t)
end
theorem dp_fz {v : V} {d : PyData} (h : Dp K (Fz ps H) v d) : Dp K H v d := dp_same fz_le h
theorem dpa_length : ∀ {vs : List V} {ds : List PyData}, DpAll K H vs ds → vs.length = ds.length
  | _, _, .nil => rfl
  | _, _, .cons _ t => congrArg (· + 1) (dpa_length t)
theorem dpa_get : ∀ {vs : List V} {ds : List PyData} {i : Nat} {v : V}, DpAll K H vs ds → vs[i]? = some v → ∃ d, ds[i]? = some d ∧ Dp K H v d
  | _, _, _, _, .nil, e => by simp at e
  | _, _, 0, _, .cons h _, e => by simp at e; subst e; exact ⟨_, rfl, h⟩
  | _, _, i + 1, v, .cons _ t, e => by
    obtain ⟨d, h1, h2⟩ := dpa_get (i := i) (v := v) t (by simpa using e)
    exact ⟨d, by simpa using h1, h2⟩
theorem dpa_at : ∀ {vs : List V} {ds : List PyData} {i : Nat} {d : PyData}, DpAll K H vs ds → ds[i]? = some d → ∃ v, vs[i]? = some v ∧ Dp K H v d
  | _, _, _, _, .nil, e => by simp at e
  | _, _, 0, _, .cons h _, e => by simp at e; subst e; exact ⟨_, rfl, h⟩
  | _, _, i + 1, d, .cons _ t, e => by
    obtain ⟨v, h1, h2⟩ := dpa_at (i := i) (d := d) t (by simpa using e)
    exact ⟨v, by simpa using h1, h2⟩
theorem dpa_append : ∀ {vs us : List V} {ds es : List PyData}, DpAll K H vs ds → DpAll K H us es → DpAll K H (vs ++ us) (ds ++ es)
  | _, _, _, _, .nil, t => t
  | _, _, _, _, .cons h t, u => .cons h (dpa_append t u)
theorem dpa_snoc {vs : List V} {ds : List PyData} {v : V} {d : PyData} (h : DpAll K H vs ds) (q : Dp K H v d) : DpAll K H (vs ++ [v]) (ds ++ [d]) := dpa_append h (.cons q .nil)
theorem dpa_take : ∀ {vs : List V} {ds : List PyData} (n : Nat), DpAll K H vs ds → DpAll K H (vs.take n) (ds.take n)
  | _, _, 0, _ => by simp; exact .nil
  | _, _, _ + 1, .nil => by simp; exact .nil
  | _, _, n + 1, .cons h t => .cons h (dpa_take n t)
theorem dpa_drop : ∀ {vs : List V} {ds : List PyData} (n : Nat), DpAll K H vs ds → DpAll K H (vs.drop n) (ds.drop n)
  | _, _, 0, h => h
  | _, _, _ + 1, .nil => by simp; exact .nil
  | _, _, n + 1, .cons _ t => dpa_drop n t
theorem dpa_ints : ∀ (ns : List Int), DpAll K H (ns.map V.int) (ns.map PyData.int)
  | [] => .nil
  | n :: r => .cons (.int n) (dpa_ints r)
theorem dpa_ints_eq : ∀ {ns : List Int} {vs : List V}, DpAll K H vs (ns.map PyData.int) → vs = ns.map V.int
  | [], _, h => by cases h; rfl
  | n :: r, _, h => by
    cases h with
    | cons q t => cases q; rw [dpa_ints_eq t]; rfl
theorem dpa_map {α : Type} {f : α → PyData} : ∀ {l : List α} {vs : List V}, (∀ (i : Nat) (v : V), vs[i]? = some v → ∃ x, l[i]? = some x ∧ Dp K H v (f x)) → vs.length = l.length → DpAll K H vs (l.map f)
  | [], [], _, _ => .nil
  | [], _ :: _, _, e => by simp at e
  | _ :: _, [], _, e => by simp at e
  | x :: l, v :: vs, h, e => by
    obtain ⟨y, h1, h2⟩ := h 0 v rfl
    have : x = y := Option.some.inj h1
    subst this
    exact .cons h2 (dpa_map (fun i u q => h (i + 1) u q) (by simpa using e))
theorem dpa_map_at {α : Type} {f : α → PyData} {l : List α} {vs : List V} {i : Nat} {v : V} (h : DpAll K H vs (l.map f)) (e : vs[i]? = some v) : ∃ x, l[i]? = some x ∧ Dp K H v (f x) := by
  obtain ⟨d, h1, h2⟩ := dpa_get h e
  rw [List.getElem?_map] at h1
  cases q : l[i]? with
  | none => rw [q] at h1; cases h1
  | some x => rw [q] at h1; cases h1; exact ⟨x, rfl, h2⟩
theorem dp_int {v : V} {i : Int} (h : Dp K H v (.int i)) : v = .int i := by cases h; rfl
theorem dp_bl {v : V} {b : Bool} (h : Dp K H v (.bool b)) : v = .bl b := by cases h; rfl
theorem dp_str {v : V} {x : Str} (h : Dp K H v (.str x)) : v = .str x := by cases h; rfl
theorem dp_non {v : V} (h : Dp K H v .none) : v = .non := by cases h; rfl
theorem dp_lst {v : V} {ds : List PyData} (h : Dp K H v (.list ds)) : ∃ a xs, v = .ref a ∧ SqL K H a xs ∧ DpAll K H xs ds := by
  cases h with | lst h a => exact ⟨_, _, rfl, h, a⟩
theorem dp_tup {v : V} {ds : List PyData} (h : Dp K H v (.tuple ds)) : ∃ a xs, v = .ref a ∧ SqT K H a xs ∧ DpAll K H xs ds := by
  cases h with | tup h a => exact ⟨_, _, rfl, h, a⟩
/-- a pair of plain things -/
theorem dp_two {v : V} {d e : PyData} (h : Dp K H v (.tuple [d, e])) : ∃ a x y, v = .ref a ∧ SqT K H a [x, y] ∧ Dp K H x d ∧ Dp K H y e := by
  obtain ⟨a, xs, rfl, h, t⟩ := dp_tup h
  cases t with
  | cons h1 t =>
    cases t with
    | cons h2 t => cases t; exact ⟨a, _, _, rfl, h, h1, h2⟩
theorem dp_ii {v : V} {i j : Int} (h : Dp K H v (.tuple [.int i, .int j])) : ∃ a, v = .ref a ∧ SqT K H a [.int i, .int j] := by
  obtain ⟨a, x, y, rfl, h, h1, h2⟩ := dp_two h
  rw [dp_int h1, dp_int h2] at h
  exact ⟨a, rfl, h⟩
theorem dp_ib {v : V} {i : Int} {b : Bool} (h : Dp K H v (.tuple [.int i, .bool b])) : ∃ a, v = .ref a ∧ SqT K H a [.int i, .bl b] := by
  obtain ⟨a, x, y, rfl, h, h1, h2⟩ := dp_two h
  rw [dp_int h1, dp_bl h2] at h
  exact ⟨a, rfl, h⟩
/-- a new tuple, a new list -/
theorem dp_newT {a : Addr} {xs : List V} {ds : List PyData} (l : Live ps H) (h : H a = none) (t : DpAll K (Fz ps H) xs ds) : Dp K (Fz ps (upd H a (.tup xs))) (.ref a) (.tuple ds) := by
  rw [fz_new (l.new h)]
  refine .tup (SqT.of upd_same) (dpa_same (same_new ?_) t)
  rw [fz_out (l.new h)]; exact h
theorem dp_newL {a : Addr} {xs : List V} {ds : List PyData} (l : Live ps H) (h : H a = none) (t : DpAll K (Fz ps H) xs ds) : Dp K (Fz ps (upd H a (.lst xs))) (.ref a) (.list ds) := by
  rw [fz_new (l.new h)]
  refine .lst (SqL.of upd_same) (dpa_same (same_new ?_) t)
  rw [fz_out (l.new h)]; exact h
/-- a list that was being made is let go -/
theorem dp_doneL {a : Addr} {xs : List V} {ds : List PyData} (n : a ∉ ps) (h : H a = some (.lst xs)) (t : DpAll K (Fz (a :: ps) H) xs ds) : Dp K (Fz ps H) (.ref a) (.list ds) :=
  .lst (SqL.of (by rw [fz_out n]; exact h)) (dpa_same fz_tail t)
/-- found.append((..)), found hidden -/
theorem dpa_push {a t : Addr} {o : HO} {xs ys : List V} {ds es : List PyData} (l : Live (a :: ps) H) (ht : H t = none) (h : DpAll K (Fz (a :: ps) H) xs ds) (q : DpAll K (Fz (a :: ps) H) ys es) :
    DpAll K (Fz (a :: ps) (upd (upd H t (.tup ys)) a o)) (xs ++ [.ref t]) (ds ++ [.tuple es]) := by
  rw [fz_set (List.mem_cons_self ..)]
  exact dpa_snoc (dpa_same (fz_mono (same_new ht)) h) (dp_newT l ht q)
theorem dpa_put {a : Addr} {o : HO} {v : V} {d : PyData} {xs : List V} {ds : List PyData} (h : DpAll K (Fz (a :: ps) H) xs ds) (q : Dp K (Fz (a :: ps) H) v d) :
    DpAll K (Fz (a :: ps) (upd H a o)) (xs ++ [v]) (ds ++ [d]) := by
  rw [fz_set (List.mem_cons_self ..)]
  exact dpa_snoc h q
theorem dpa_ii (i j : Int) : DpAll K H [.int i, .int j] [.int i, .int j] := .cons (.int i) (.cons (.int j) .nil)
theorem dpa_ib (i : Int) (b : Bool) : DpAll K H [.int i, .bl b] [.int i, .bool b] := .cons (.int i) (.cons (.bl b) .nil)
/-- the types that isinstance sees -/
theorem ty_lst {a : Addr} {xs : List V} (h : SqL K H a xs) : TyX K H (.ref a) (.type "list") := by
  rcases h with (h | ⟨o, h⟩) | ⟨o, its, n, h, c, _⟩
  · exact .base (.lst h)
  · exact .base (.frz h)
  · exact .kList h c
theorem ty_tup {a : Addr} {xs : List V} (h : SqT K H a xs) : TyX K H (.ref a) (.type "tuple") := by
  rcases h with (h | ⟨o, h⟩) | ⟨o, its, n, h, c, _⟩
  · exact .base (.tup h)
  · exact .fTuple h
  · exact .kTuple h c
end

/-! ### calls in short -/
/-- a def of the module: it keeps sp -/
def Cal (P : Program) (w : World) (K : PySem.W.Frag) (mg : Str → Option Value) (base : Heap) (k : Nat) (x : Str) (ps : List Str) (sp : Sp) : Prop :=
  ∃ f fd, FnOk P w K mg base CX0 k f fd ps sp ∧ mg x = some (.ref f) ∧ PySem.W.keepIn K (.ref f) = true ∧ Binds K fd ps []
/-- a method of the class at C -/
def Mtd (P : Program) (w : World) (K : PySem.W.Frag) (mg : Str → Option Value) (base : Heap) (k : Nat) (C : Addr) (m : Str) (ps : List Str) (sp : Sp) : Prop :=
  ∃ f fd, FnOk P w K mg base CX0 k f fd ps sp ∧ Meth K C m f ∧ Binds K fd ps []
/-- a class that is called -/
def Mkr (P : Program) (w : World) (K : PySem.W.Frag) (mg : Str → Option Value) (base : Heap) (k : Nat) (C : Addr) (x : Str) (ps : List Str) (sp : Sp) : Prop :=
  ∃ f fd, FnOk P w K mg base CX0 k f fd ps sp ∧ mg x = some (.ref C) ∧ Mk K C f ∧ Binds K fd ps []
section
variable {X : Cx} {k : Nat} {C : Addr} {x m : Str} {qs : List Str} {sp : Sp} {p pos apos : Pos} {e o : Expr} {es : List Expr} {t : TA} {ta : TE}
/-! rules whose readings name K plainly (within a comprehension X.K does not do) -/
def rLenQ (K : PySem.W.Frag) : List V → Hp → VK → Prop := fun xs H Q => ∃ p ys, xs = [.ref p] ∧ (SqL K H p ys ∨ SqT K H p ys) ∧ Q (.int ys.length) H
theorem call_lenQ : CallR X (.builtin "len") (rLenQ X.K) := call_len_seq
def rListQ (K : PySem.W.Frag) : List V → Hp → VK → Prop := fun xs H Q => ∃ p ys, xs = [.ref p] ∧ (SqL K H p ys ∨ SqT K H p ys) ∧ ∀ l, H l = none → Q (.ref l) (upd H l (.lst ys))
theorem call_listQ : CallR X (.type "list") (rListQ X.K) := call_list_of
def rTupleQ (K : PySem.W.Frag) : List V → Hp → VK → Prop := fun xs H Q => ∃ p ys, xs = [.ref p] ∧ ((SqL K H p ys ∧ ∀ l, H l = none → Q (.ref l) (upd H l (.tup ys))) ∨ (SqT K H p ys ∧ Q (.ref p) H))
theorem call_tupleQ : CallR X (.type "tuple") (rTupleQ X.K) := call_tuple_of
theorem pe_fldK {K : PySem.W.Frag} {f : Str} (hK : X.K = K) (he : PE X e ta) (hb : attributeBase e f X.env (eval e X.env) = eval e X.env := by rfl) : PE X (.Attribute e f pos) (tFld K ta f) := by
  subst hK
  exact pe_fld he hb
/-- a word between an expression and what follows -/
def tCutE (t : TE) : TE := fun σ H Q => ∃ R : VK, t σ H R ∧ ∀ v H', R v H' → Q v H'
theorem pe_cut {t : TE} (h : PE X e t) : PE X e (tCutE t) := ⟨fun pins s σ H Q I ⟨R, h1, h2⟩ => thn (h.run pins s σ H R I h1) fun v s1 ⟨x, H1, I1, r1, q1⟩ => ⟨x, H1, I1, r1, h2 _ _ q1⟩⟩
def tCutT (t : TT) : TT := fun σ H Q => ∃ R : Bool → Hp → Prop, t σ H R ∧ ∀ v H', R v H' → Q v H'
theorem pt_cut {t : TT} (h : PT X e t) : PT X e (tCutT t) := ⟨fun pins s σ H Q I ⟨R, h1, h2⟩ => thn (h.run pins s σ H R I h1) fun v s1 ⟨H1, I1, q1⟩ => ⟨H1, I1, h2 _ _ q1⟩⟩
theorem pe_cal (c : Cal X.prog X.w X.K X.mg X.base k x qs sp) (hr : Room k X.A) (ha : PA X (e :: es) t) (hg : Gl X x := by rfl) (hdb : (x == ("__debug__" : Str)) = false := by decide)
    (he : starEach (e :: es) X.env = (false, eval e X.env) :: starEach es X.env := by rfl) (hpl : (backTo pos (starEach es X.env)).any (·.1) = false := by rfl) : PE X (.Call (.Name x p) (e :: es) [] pos) (tCall sp [] E0 t) := by
  obtain ⟨f, fd, F, hm, hk, hb⟩ := c
  exact pe_call F hr hg hm hk hb .nil pass0 ha hdb he hpl
theorem pe_cal0 (c : Cal X.prog X.w X.K X.mg X.base k x qs sp) (hr : Room k X.A) (hg : Gl X x := by rfl) (hdb : (x == ("__debug__" : Str)) = false := by decide) : PE X (.Call (.Name x p) [] [] pos) (tCall sp [] E0 tNil) := by
  obtain ⟨f, fd, F, hm, hk, hb⟩ := c
  exact pe_call0 F hr hg hm hk hb .nil pass0 hdb
theorem pe_mtd {pl : Sem Bool} (c : Mtd X.prog X.w X.K X.mg X.base k C m qs sp) (cl : Cls X.K C) (hr : Room k X.A) (he : PE X o ta) (ha : PA X (e :: es) t)
    (hst : starEach (e :: es) X.env = (false, eval e X.env) :: starEach es X.env := by rfl) (hpl : (backTo pos (starEach es X.env)).any (·.1) = false := by rfl)
    (ht : eval (.Call (.Attribute o m apos) (e :: es) [] pos) X.env = (do
      let ov ← eval o X.env
      standAt apos.atName
      let (f, first) ← holding [ov] (getMethod ov m pl)
      callWith pos f first (backTo pos (starEach (e :: es) X.env)) (backToKw pos (keywordEach [] X.env))) := by rfl) :
    PE X (.Call (.Attribute o m apos) (e :: es) [] pos) (tMeth C m sp [] E0 ta t) := by
  obtain ⟨f, fd, F, hm, hb⟩ := c
  exact pe_meth he cl hm F hr hb .nil pass0 ha hst hpl ht
theorem pe_mtd0 {pl : Sem Bool} (c : Mtd X.prog X.w X.K X.mg X.base k C m qs sp) (cl : Cls X.K C) (hr : Room k X.A) (he : PE X o ta)
    (ht : eval (.Call (.Attribute o m apos) [] [] pos) X.env = (do
      let ov ← eval o X.env
      standAt apos.atName
      let (f, first) ← holding [ov] (getMethod ov m pl)
      callWith pos f first (backTo pos (starEach [] X.env)) (backToKw pos (keywordEach [] X.env))) := by rfl) :
    PE X (.Call (.Attribute o m apos) [] [] pos) (tMeth C m sp [] E0 ta tNil) := by
  obtain ⟨f, fd, F, hm, hb⟩ := c
  exact pe_meth0 he cl hm F hr hb .nil pass0 ht
theorem pe_mkr (c : Mkr X.prog X.w X.K X.mg X.base k C x qs sp) (hr : Room (k + 1) X.A) (ha : PA X (e :: es) t) (hg : Gl X x := by rfl) (hdb : (x == ("__debug__" : Str)) = false := by decide)
    (he : starEach (e :: es) X.env = (false, eval e X.env) :: starEach es X.env := by rfl) (hpl : (backTo pos (starEach es X.env)).any (·.1) = false := by rfl) : PE X (.Call (.Name x p) (e :: es) [] pos) (tMake C sp [] E0 t) := by
  obtain ⟨f, fd, F, hm, M, hb⟩ := c
  exact pe_make M F hr hg hm hb .nil pass0 ha hdb he hpl
end
/-! ### t.index(x) of data at any depth -/
theorem hu65 {k : Nat} {A : Around} (r : Room k A) : A.units + 65 < cLine := by have := r.un; omega
def rTupIndexD (K : PySem.W.Frag) : V → List V → Hp → VK → Prop := fun x xs H Q => ∃ (a : Addr) (y : V) (d : PyData) (ds : List PyData) (j : Nat) (z : PyData), x = V.ref a ∧ xs = [y] ∧ Dp K H (V.ref a) (.tuple ds) ∧ Dp K H y d ∧
  SeqAt.shaped (.tuple ds) = true ∧ SeqAt.shaped d = true ∧ ds[j]? = some z ∧ PyData.eqv z d = true ∧ (∀ (m : Nat) (z' : PyData), m < j → ds[m]? = some z' → PyData.eqv z' d = false) ∧ Q (.int (j : Nat)) H
theorem mt_tup_indexD {X : Cx} (hu : X.A.units + 65 < cLine) : MtR X "tuple.index" (rTupIndexD X.K) := by
  intro pins s σ H x xs v us Q I rx rxs h
  obtain ⟨a, y, d, ds, j, z, rfl, rfl, hl, hy, sl, sd, hz, hzj, hno, q⟩ := h
  cases rx
  cases rxs with
  | cons ry rt =>
    rename_i uy ut
    cases rt
    obtain ⟨bs, r1⟩ := Dp.reads I d y uy hy ry
    have hxs : PyData.canLayAll0 ds = true := by
      have := SeqAt.canLay_of_shaped sl
      simpa [PyData.canLay0] using this
    have hroom : X.A.units + 1 + min (PyData.depthAll ds) d.depth < cLine := PyProof.Rows.room_in_shaped sd hu
    cases hl with
    | tup hs ha =>
      obtain ⟨its, rv, ⟨⟨cls, dd, dt, sls⟩, ho, hc, n, hdt⟩, hlen⟩ := I.tuple hs
      simp only at hc hdt
      subst hc hdt
      obtain ⟨as, h4⟩ := Dp.readsAll I ds _ its ha rv
      have hn : its.length = ds.length := SeqAt.ReadsAll.length ds its as h4
      have hmap : its.map (SeqAt.readOf s.heap) = ds := SeqAt.readsAll_map ds its as hxs h4
      obtain ⟨hjd, _⟩ := List.getElem?_eq_some_iff.mp hz
      have hjl : j < its.length := by omega
      have hj : j < its.toArray.size := by simpa using hjl
      have at_ : ∀ (m : Nat) (hm : m < its.toArray.size) (z' : PyData), ds[m]? = some z' → SeqAt.readOf s.heap its.toArray[m] = z' := by
        intro m hm z' hz'
        have hml : m < its.length := by simpa using hm
        rw [← hmap, List.getElem?_map, List.getElem?_eq_getElem hml] at hz'
        have e1 : SeqAt.readOf s.heap its[m] = z' := Option.some.inj (show some (SeqAt.readOf s.heap its[m]) = some z' from hz')
        simpa using e1
      refine call_meets PySem.F.slot_tuple_index ⟨_, ho, rfl⟩ PySem.F.entry_tuple_index (PySem.F.args_tuple_index_2 _ _)
        (TI.tuple_indexAt a its.toArray n dd sls uy (fun u => PyData.eqv (SeqAt.readOf s.heap u) d) j hj ?_ ?_) ⟨ho, SeqAt.items_eqAt (vs := its.toArray) (show ReadsAll s.heap its.toArray.toList ds as from h4) r1 hxs (SeqAt.canLay_of_shaped sd) hroom, ?_⟩
      · show PyData.eqv (SeqAt.readOf s.heap its.toArray[j]) d = true
        rw [at_ j hj z hz]
        exact hzj
      · intro m hm hmj
        have hmd : m < ds.length := by omega
        have hz' : ds[m]? = some ds[m] := List.getElem?_eq_getElem hmd
        show PyData.eqv (SeqAt.readOf s.heap its.toArray[m]) d = false
        rw [at_ m hm _ hz']
        exact hno m _ hmj hz'
      · exact ⟨.int (j : Nat), H, I.tok _, ⟨_, rfl⟩, q⟩
theorem few {α : Type} {fs : List α} (n : Nat) (h : fs.length = n) (hn : n < 1000 := by decide) : fs.length < 1000 := by omega
theorem iteD {c A B : Prop} [Decidable c] (h1 : c → A) (h2 : ¬ c → B) : if decide c = true then A else B := by
  by_cases h : c
  · exact iteDT h (h1 h)
  · exact iteDF h (h2 h)
end KT

namespace KT
open PySem L2
def top (i : Nat) : Stmt := PySem.Challenge.pw_knobturn_k12_whole_turned_about.main.body.getD i (.Pass ⟨0, 0, 0, 0⟩)
/-! ### rows: what a knob can go -/
abbrev Mv := Int × Bool
/-- moments since the latest turn (at most gap), whether it ever turned; one moment on -/
def stp (gap : Int) (s : Int × Bool) (m : Mv) : Int × Bool := (min gap ((if m.1 = 0 then s.1 else 0) + 1), s.2 || decide (m.1 ≠ 0))
def rst (gap : Int) (row : List Mv) : Int × Bool := row.foldl (stp gap) (gap, false)
structure OkM (gap bounce : Int) (s : Int × Bool) (m : Mv) : Prop where
  turn : m.1 = -1 ∨ m.1 = 0 ∨ m.1 = 1
  soon : m.1 ≠ 0 → gap ≤ s.1
  old : m.2 = true → (s.2 = true ∨ m.1 ≠ 0) ∧ (if m.1 = 0 then s.1 else 0) < bounce
structure Good (gap bounce : Int) (row : List Mv) : Prop where
  len : row.length ≤ 200
  ok : ∀ (i : Nat) (m : Mv), row[i]? = some m → OkM gap bounce (rst gap (row.take i)) m
theorem take_snoc {α : Type} {l : List α} {i : Nat} {x : α} (h : l[i]? = some x) : l.take (i + 1) = l.take i ++ [x] := by
  rw [List.take_add_one, h]
  rfl
theorem rst_snoc {gap : Int} {row : List Mv} {i : Nat} {m : Mv} (h : row[i]? = some m) : rst gap (row.take (i + 1)) = stp gap (rst gap (row.take i)) m := by
  unfold rst
  rw [take_snoc h, List.foldl_append]
  rfl
theorem rst_app {gap : Int} {row : List Mv} {m : Mv} : rst gap (row ++ [m]) = stp gap (rst gap row) m := by
  unfold rst
  rw [List.foldl_append]
  rfl
theorem good_snoc {gap bounce : Int} {row : List Mv} {m : Mv} (h : Good gap bounce row) (hl : row.length < 200) (hm : OkM gap bounce (rst gap row) m) : Good gap bounce (row ++ [m]) := by
  refine ⟨by rw [List.length_append, List.length_singleton]; omega, fun i x hx => ?_⟩
  by_cases hi : i < row.length
  · rw [List.getElem?_append_left hi] at hx
    rw [List.take_append_of_le_length (by omega)]
    exact h.ok i x hx
  · have hi2 : i = row.length := by
      have := (List.getElem?_eq_some_iff.mp hx).1
      rw [List.length_append, List.length_singleton] at this
      omega
    subst hi2
    simp at hx
    subst hx
    rw [List.take_append_of_le_length (Nat.le_refl _), List.take_length]
    exact hm
theorem good_nil {gap bounce : Int} : Good gap bounce [] := ⟨by simp, fun i m h => by simp at h⟩
def mvD (m : Mv) : PyData := .tuple [.int m.1, .bool m.2]
def rowD (row : List Mv) : PyData := .list (row.map mvD)
def knD (g b : Int) : PyData := .tuple [.int g, .int b]
/-- (where the knob is, which the latest turn was) -/
def pst (s : Int × Int) (m : Mv) : Int × Int := (s.1 + m.1, if m.1 = 0 then s.2 else m.1)
def pas (row : List Mv) : Int × Int := row.foldl pst (0, 0)
/-- what is told of a moment: where the knob is, where it is seen to be -/
def seenOf (s : Int × Int) (old : Bool) : Int × Int := (s.1, if old then s.1 - s.2 else s.1)
def plcs (row : List Mv) : List (Int × Int) := (List.range row.length).map fun i => match row[i]? with
  | some m => seenOf (pas (row.take (i + 1))) m.2
  | none => (0, 0)
theorem pas_snoc {row : List Mv} {i : Nat} {m : Mv} (h : row[i]? = some m) : pas (row.take (i + 1)) = pst (pas (row.take i)) m := by
  unfold pas
  rw [take_snoc h, List.foldl_append]
  rfl
theorem plcs_take {row : List Mv} {i : Nat} (hi : i ≤ row.length) : plcs (row.take i) = (plcs row).take i := by
  unfold plcs
  rw [List.length_take, Nat.min_eq_left hi, ← List.map_take, List.take_range, Nat.min_eq_left hi]
  refine List.map_congr_left fun j hj => ?_
  have hj : j < i := List.mem_range.mp hj
  rw [List.getElem?_take, if_pos hj, List.take_take, Nat.min_eq_left hj]
theorem plcs_snoc {row : List Mv} {i : Nat} {m : Mv} (h : row[i]? = some m) : plcs (row.take (i + 1)) = plcs (row.take i) ++ [seenOf (pst (pas (row.take i)) m) m.2] := by
  have hi := (List.getElem?_eq_some_iff.mp h).1
  rw [plcs_take hi, plcs_take (Nat.le_of_lt hi), List.take_add_one]
  have e : (plcs row)[i]? = some (seenOf (pst (pas (row.take i)) m) m.2) := by
    unfold plcs
    rw [List.getElem?_map, List.getElem?_range hi, Option.map_some, h]
    show some (seenOf (pas (row.take (i + 1))) m.2) = _
    rw [pas_snoc h]
  rw [e]
  rfl
theorem plcs_length (row : List Mv) : (plcs row).length = row.length := by unfold plcs; simp
def ppD (p : Int × Int) : PyData := .tuple [.int p.1, .int p.2]
/-- what both wires show in a place -/
def pr (z : Int) : Int × Int := if z % 4 = 0 then (0, 0) else if z % 4 = 1 then (0, 1) else if z % 4 = 2 then (1, 1) else (1, 0)
theorem mod4 (z : Int) : z % 4 = 0 ∨ z % 4 = 1 ∨ z % 4 = 2 ∨ z % 4 = 3 := by omega
/-! ### the dice -/
/-- the numbers of the dice: a number below 2 ^ 31, what is left of a great number, great numbers -/
def Dice (ns : List Int) : Prop := ∃ (a b : Int) (r : List Int), ns = a :: b :: r ∧ 0 ≤ a ∧ a < 2147483647 ∧ 0 ≤ b ∧ (∀ x ∈ r, 0 < x) ∧ r.length ≤ 63
def spDice (K : PySem.W.Frag) : Sp := fun vs H Q _ => ∃ (a : Addr) (ns : List Int), vs = [.ref a, .int 0] ∧ SqL K H a (ns.map V.int) ∧ ns.length ≤ 63 ∧
  ∀ (p : Addr) (ms : List Int) (H' : Hp), H p = none → Same H H' → H' p = some (.lst (ms.map V.int)) → Dice ms → Q (.ref p) H'
/-- a draw below m: any -/
def spOff : Sp := fun vs H Q _ => ∃ (d : Addr) (ns : List Int) (m : Int), vs = [.ref d, .int m] ∧ H d = some (.lst (ns.map V.int)) ∧ Dice ns ∧ 0 < m ∧ m < 1073741824 ∧
  ∀ (v : Int) (ms : List Int), 0 ≤ v → v < m → Dice ms → Q (.int v) (upd H d (.lst (ms.map V.int)))
section
variable {P : Program} {w : World} {K : PySem.W.Frag} {mg : Str → Option Value} {base : Heap}
theorem sc_dice : FnScope ["_law_script", "_law_k", "_law_found", "_law_cell"] ["_law_script", "_law_k"] (defScope (top 21)) := ⟨rfl, rfl, rfl, by decide +kernel, rfl, by decide +kernel, by decide +kernel⟩
theorem ok_dice {f : Addr} {fd : FuncData} (F : Fun K "_law_dice" "_law_dice" (top 21) f fd) (n_abs : mg "abs" = none) : FnOk P w K mg base CX0 1 f fd ["_law_script", "_law_k"] (spDice K) := by
  have sc := sc_dice
  refine F.ok sc (fun vs H Q E h => ?_) (fun cdv A outer s H vs Q E hr h => ?_)
  · obtain ⟨a, ns, rfl, _⟩ := h
    rfl
  · obtain ⟨a, ns, rfl, hS, hlen, k⟩ := h
    refine ⟨_, (pss_cons (ps_set (i := 2) sc.nd rfl (Or.inl rfl) (pv 1))
(pss_cons (ps_for PassesOwn.never rfl (pi_list (pv 0)) (pg_name (i := 3) sc.nd rfl (Or.inl rfl))
(pss_one (ps_set (i := 2) sc.nd rfl (Or.inl rfl) (pe_op op_mod (pe_op op_add (pe_op op_mul (pv 2) pe_int) (pe_callB call_abs (by rfl) n_abs (by decide +kernel) (pa_cons (pv 3) pa_nil))) pe_int))))
(pss_one (ps_ret (pe_op op_cat (pe_lst (pa_cons (pv 2) (pa_cons pe_int pa_nil))) (pe_lc (own := [("_law_cell", 3)]) (g := gName 3) rfl sc.nd (pi_list (pv 0)) (blkOk_by (own := [("_law_cell", 3)]) (N := ["_law_script", "_law_k", "_law_found", "_law_cell"]) (sc := defScope (top 21)) (by decide +kernel)) (fun _ _ _ _ _ => (pg_name (i := 3) sc.nd rfl (Or.inl rfl))) (fun _ _ _ _ _ => (pts_one (pt_cmpR op_ge (pv 3) (pe_op op_pow pe_int pe_int) (nomark _)))) (fun _ _ _ _ _ => (pv 3)))))))), ?_⟩
    refine ⟨_, rfl, _, rfl, a, rfl, ⟨_, hS⟩, for_list (K := K) (a := a) (xs := ns.map V.int) (fun i σ H' => ∃ (f : Int) (v : Option V), σ = [some (.ref a), some (.int 0), some (.int f), v] ∧ 0 ≤ f ∧ f < 2147483647 ∧ H' = H)
      ⟨0, none, rfl, by omega, by omega, rfl⟩ (fun i σ H' _ ⟨_, _, _, _, _, e⟩ => by rw [e]; exact hS) ?_ ?_⟩
    · rintro i y σ H' hi ⟨f, v, rfl, f0, f1, rfl⟩
      obtain ⟨z, _, rfl⟩ := int_at hi
      refine ⟨_, rfl, _, _, rfl, rfl, .inl ⟨by omega, by omega⟩, _, rfl, _, rfl, _, _, rfl, rfl, _, _, rfl, rfl, (by show (0 : Int) < 2147483647; decide), ?_⟩
      exact ⟨_, _, rfl, Int.emod_nonneg _ (by decide), Int.emod_lt_of_pos _ (by decide), rfl⟩
    · rintro σ H' ⟨f, v, rfl, f0, f1, rfl⟩
      refine ⟨_, rfl, (by show 2 ≤ sizeLine; decide), fun l hl => ?_⟩
      have s1 : Same H' (upd H' l (.lst [.int f, .int 0])) := same_new hl
      refine ⟨_, rfl, a, rfl, ⟨_, s1.seq hS⟩, fun D hD => lc_list (K := K) (a := a) (xs := ns.map V.int) (fun i H2 => ∃ ms : List Int, H2 = upd (upd H' l (.lst [.int f, .int 0])) D (.lst (ms.map V.int)) ∧ (∀ x ∈ ms, 0 < x) ∧ ms.length ≤ i)
        ⟨[], rfl, by simp, by simp⟩ (fun i H2 _ ⟨ms, e, _⟩ => by rw [e]; exact (s1.trans (same_new hD)).seq hS) ?_ ?_⟩
      · rintro i y H2 hi ⟨ms, rfl, hp, hm⟩
        obtain ⟨z, hz, rfl⟩ := int_at hi
        have hil := (List.getElem?_eq_some_iff.mp hz).1
        refine ⟨rfl, _, rfl, _, _, rfl, rfl, ⟨by decide, by decide, by decide⟩, _, _, rfl, rfl, _, rfl, ?_⟩
        by_cases c : (10 : Int) ^ (18 : Int).toNat ≤ z
        · rw [decide_eq_true c]
          refine iteT ⟨_, rfl, ms.map V.int, upd_same, ?_, ms ++ [z], ?_, ?_, ?_⟩
          · rw [List.length_map]; exact small1000 (by omega)
          · rw [upd_upd, List.map_append]; rfl
          · intro x hx
            rcases List.mem_append.mp hx with hx | hx
            · exact hp x hx
            · rw [List.mem_singleton.mp hx]
              have : (10 : Int) ^ (18 : Int).toNat = 1000000000000000000 := by decide
              omega
          · rw [List.length_append, List.length_singleton]; omega
        · rw [decide_eq_false c]
          exact iteF ⟨ms, rfl, hp, by omega⟩
      · rintro H2 ⟨ms, rfl, hms, hm⟩
        rw [List.length_map] at hm
        have nl : l ≠ D := fun z => by rw [z, upd_same] at hD; cases hD
        refine ⟨l, D, [.int f, .int 0], ms.map V.int, rfl, rfl, (by rw [upd_ne nl, upd_same]), upd_same, ?_, fun p hp => ?_⟩
        · rw [List.length_map]
          exact Nat.le_of_lt (small1000 (by show 2 + ms.length ≤ 1000; omega))
        · have s2 : Same H' (upd (upd H' l (.lst [.int f, .int 0])) D (.lst (ms.map V.int))) := s1.trans (same_new hD)
          exact k p (f :: 0 :: ms) _ (s2.free hp) (s2.trans (same_new hp)) upd_same ⟨f, 0, ms, rfl, f0, f1, by omega, hms, by omega⟩
theorem sc_off : FnScope ["_law_d", "_law_most", "_law_found"] ["_law_d", "_law_most"] (defScope (top 22)) := ⟨rfl, rfl, rfl, by decide +kernel, rfl, by decide +kernel, by decide +kernel⟩
theorem ok_off {f : Addr} {fd : FuncData} (F : Fun K "_law_off" "_law_off" (top 22) f fd) (n_len : mg "len" = none) : FnOk P w K mg base CX0 1 f fd ["_law_d", "_law_most"] spOff := by
  have sc := sc_off
  refine F.ok sc (fun vs H Q E h => ?_) (fun cdv A outer s H vs Q E hr h => ?_)
  · obtain ⟨d, ns, m, rfl, _⟩ := h
    rfl
  · obtain ⟨d, ns, m, rfl, hd, hD, m0, m1, k⟩ := h
    refine ⟨_, (C8.pss_cut (ps_if (PW.pt (pw_and (pt_cmpR op_eq (pe_ix (r := rIxL K) ix_list (pv 0) pe_int (fun _ _ => rfl)) pe_int (nomark _)) (pw_and1 (pt_cmpR op_gt (pe_callB (r := rLenQ K) call_lenQ (by rfl) n_len PySem.boot_len (pa_cons (pv 0) pa_nil)) pe_int (nomark _)))))
(pss_one (ps_asg (pe_bm PySem.F.plainAttrs_list PySem.F.slot_list_pop PySem.F.type_list_pop mt_popAt (pv 0) (pa_cons pe_int pa_nil)) (pg_sub (pv 0) pe_int set_list)))
pss_nil)
(pss_cons (ps_if (pt_cmpR op_gt (pe_ix (r := rIxL K) ix_list (pv 0) pe_int (fun _ _ => rfl)) pe_int (nomark _))
(pss_cons (ps_set (i := 2) sc.nd rfl (Or.inl rfl) (pe_op op_mod (pe_ix (r := rIxL K) ix_list (pv 0) pe_int (fun _ _ => rfl)) (pv 1)))
(pss_cons (ps_asg (pe_op op_fdiv (pe_ix (r := rIxL K) ix_list (pv 0) pe_int (fun _ _ => rfl)) (pv 1)) (pg_sub (pv 0) pe_int set_list))
(pss_one (ps_ret (pv 2)))))
pss_nil)
(pss_cons (ps_asg (pe_op op_mod (pe_op op_add (pe_op op_mul (pe_ix (r := rIxL K) ix_list (pv 0) pe_int (fun _ _ => rfl)) pe_int) pe_int) pe_int) (pg_sub (pv 0) pe_int set_list))
(pss_one (ps_ret (pe_op op_mod (pe_op op_fdiv (pe_ix (r := rIxL K) ix_list (pv 0) pe_int (fun _ _ => rfl)) pe_int) (pv 1))))))), ?_⟩
    refine ⟨fun σ H' => ∃ ms : List Int, σ = [some (.ref d), some (.int m), none] ∧ H' = upd H d (.lst (ms.map V.int)) ∧ Dice ms, ?_, ?_⟩
    · obtain ⟨a, b, r, rfl, a0, a1, b0, hr', rl⟩ := hD
      refine ⟨_, rfl, d, _, _, _, rfl, rfl, SqL.of hd, at_of (j := 1) rfl rfl, rfl, _, rfl, ?_⟩
      refine ite2 (fun c => ?_) (fun c => ?_)
      · refine ⟨_, rfl, d, _, rfl, .inl (SqL.of hd), _, _, rfl, rfl, _, rfl, ?_⟩
        refine ite2 (fun c2 => ?_) (fun c2 => ?_)
        · cases r with
          | nil => simp at c2
          | cons x r =>
            refine ⟨_, rfl, .inl ⟨rfl, _, SqL.of hd⟩, d, _, 2, 2, _, rfl, rfl, hd, by decide, by decide, ?_, rfl, ?_⟩
            · show seqIndex? 2 ((a :: b :: x :: r).map V.int).length = some 2
              rw [List.length_map]
              exact seqIndex_nat (by simp)
            · refine ⟨_, rfl, d, _, 1, 1, rfl, rfl, upd_same, ixN_nat (by simp), ?_⟩
              refine ⟨a :: x :: r, rfl, by rw [upd_upd]; rfl, a, x, r, rfl, a0, a1, Int.le_of_lt (hr' x (by simp)), fun y hy => hr' y (by simp [hy]), by simp at rl; omega⟩
        · exact ⟨_, rfl, (upd_id hd).symm, a, b, r, rfl, a0, a1, b0, hr', rl⟩
      · exact ⟨_, rfl, (upd_id hd).symm, a, b, r, rfl, a0, a1, b0, hr', rl⟩
    · rintro σ H' ⟨ms, rfl, rfl, hD2⟩
      obtain ⟨a, b, r, rfl, a0, a1, b0, hr', rl⟩ := hD2
      refine ⟨_, rfl, d, _, _, _, rfl, rfl, SqL.of upd_same, at_of (j := 1) rfl rfl, _, _, rfl, rfl, _, rfl, ?_⟩
      refine ite2 (fun c => ?_) (fun c => ?_)
      · refine ⟨_, rfl, d, _, _, _, rfl, rfl, SqL.of upd_same, at_of (j := 1) rfl rfl, _, rfl, _, _, rfl, rfl, m0, ?_⟩
        refine ⟨_, rfl, d, _, _, _, rfl, rfl, SqL.of upd_same, at_of (j := 1) rfl rfl, _, rfl, _, _, rfl, rfl, ⟨m0, m1⟩, _, rfl, d, _, 1, 1, rfl, rfl, upd_same, ixN_nat (by simp), ?_⟩
        refine ⟨_, rfl, ?_⟩
        rw [upd_upd]
        exact k (b % m) (a :: b / m :: r) (Int.emod_nonneg _ (by omega)) (Int.emod_lt_of_pos _ m0) ⟨a, b / m, r, rfl, a0, a1, Int.ediv_nonneg b0 (by omega), hr', rl⟩
      · refine ⟨_, rfl, d, _, _, _, rfl, rfl, SqL.of upd_same, at_of (j := 0) rfl rfl, _, _, rfl, rfl, .inl ⟨by omega, by omega⟩, _, _, rfl, rfl, _, _, rfl, rfl, (by show (0 : Int) < 2147483647; decide), _, rfl, d, _, 0, 0, rfl, rfl, upd_same, ixN_nat (by simp), ?_⟩
        rw [upd_upd]
        refine ⟨_, rfl, d, _, _, _, rfl, rfl, SqL.of upd_same, at_of (j := 0) rfl rfl, _, _, rfl, rfl, ⟨by decide, by decide⟩, _, rfl, _, _, rfl, rfl, m0, ?_⟩
        exact k _ (((a * 48271 + 11) % 2147483647) :: b :: r) (Int.emod_nonneg _ (by omega)) (Int.emod_lt_of_pos _ m0) ⟨_, b, r, rfl, Int.emod_nonneg _ (by decide), Int.emod_lt_of_pos _ (by decide), b0, hr', rl⟩
end
/-! ### data that are alike -/
/-- lists and tuples at most n deep, of bounded length -/
def Nest : Nat → PyData → Prop
  | _, .none => True
  | _, .bool _ => True
  | _, .int _ => True
  | _, .str x => PyData.strOk x = true
  | n + 1, .list ds => ds.length ≤ 1000 ∧ ∀ d ∈ ds, Nest n d
  | n + 1, .tuple ds => ds.length ≤ 1000 ∧ ∀ d ∈ ds, Nest n d
  | _, _ => False
/-- alike of two readings of one thing -/
def spAlike (K : PySem.W.Frag) : Nat → Sp
  | 0 => fun _ _ _ _ => False
  | n + 1 => fun vs H Q _ => ∃ (v u : V) (d : PyData), vs = [v, u] ∧ Dp K H v d ∧ Dp K H u d ∧ Nest n d ∧ ∀ H', Same H H' → Q (.bl true) H'
section
variable {K : PySem.W.Frag} {H : Hp} {σ : St} {x : V} {i : Nat} {t T : String} {b : Bool}
theorem e_isi {Q : VK} (h : σ[i]? = some (some x)) (ty : TyX K H x (.type t)) (e : kitB t T = some b) (q : Q (.bl b) H) : tCB (rIsi K) (tCons (tVar i) (tCons (tC (.ty T)) tNil)) σ H Q :=
  ⟨x, h, x, .ty T, .type t, .type T, b, rfl, .ty T, ty, kit_ty e, q⟩
theorem t_isi {Q : Bool → Hp → Prop} (h : σ[i]? = some (some x)) (ty : TyX K H x (.type t)) (e : kitB t T = some b) (q : Q b H) : tB (tCB (rIsi K) (tCons (tVar i) (tCons (tC (.ty T)) tNil))) σ H Q :=
  e_isi h ty e ⟨b, rfl, q⟩
theorem t_isi2 {Q : Bool → Hp → Prop} {j : Nat} {y : V} (h : σ[i]? = some (some x)) (h' : σ[j]? = some (some y)) (ty : TyX K H x (.type t)) (ty' : TyX K H y (.type t)) (e : kitB t T = some b) (q : Q false H) :
    tTest (tOp rNe (tCB (rIsi K) (tCons (tVar i) (tCons (tC (.ty T)) tNil))) (tCB (rIsi K) (tCons (tVar j) (tCons (tC (.ty T)) tNil)))) σ H Q := by
  refine e_isi h ty e (e_isi h' ty' e ⟨rfl, _, rfl, ?_⟩)
  rw [decide_eq_true rfl]
  exact q
end
section
variable {P : Program} {w : World} {K : PySem.W.Frag} {mg : Str → Option Value} {base : Heap}
theorem sc_alike : FnScope ["_law_found", "_law_due", "_law_k"] ["_law_found", "_law_due"] (defScope (top 23)) := ⟨rfl, rfl, rfl, by decide +kernel, rfl, by decide +kernel, by decide +kernel⟩
theorem ok_alike0 {f : Addr} {fd : FuncData} (F : Fun K "_law_alike" "_law_alike" (top 23) f fd) : FnOk P w K mg base CX0 1 f fd ["_law_found", "_law_due"] (spAlike K 0) :=
  F.ok sc_alike (fun vs H Q E h => h.elim) (fun cdv A outer s H vs Q E hr h => h.elim)
theorem ok_alikeS {f : Addr} {fd : FuncData} {n : Nat} (F : Fun K "_law_alike" "_law_alike" (top 23) f fd) (c__law_alike : Cal P w K mg base (n + 1) "_law_alike" ["_law_found", "_law_due"] (spAlike K n))
    (n_isinstance : mg "isinstance" = none) (n_bool : mg "bool" = none) (n_int : mg "int" = none) (n_str : mg "str" = none) (n_tuple : mg "tuple" = none) (n_list : mg "list" = none) (n_len : mg "len" = none) (n_all : mg "all" = none) (n_range : mg "range" = none) :
    FnOk P w K mg base CX0 (n + 2) f fd ["_law_found", "_law_due"] (spAlike K (n + 1)) := by
  have sc := sc_alike
  refine F.ok sc (fun vs H Q E h => ?_) (fun cdv A outer s H vs Q E hr h => ?_)
  · obtain ⟨v, u, d, rfl, _⟩ := h
    rfl
  · obtain ⟨v, u, d, rfl, hv, hu, hN, k⟩ := h
    refine ⟨_, (pss_cons (ps_if (pt_cmpR op_isN (pv 1) pe_non (nomark _))
(pss_one (ps_ret (pe_cmpR op_isN (pv 0) pe_non (nomark _))))
pss_nil)
(pss_cons (ps_if (pt_val (pe_callB (r := rIsi K) call_isi (by rfl) n_isinstance (by decide +kernel) (pa_cons (pv 1) (pa_cons (pe_bltn (v := .ty "bool") (by rfl) n_bool (by decide +kernel) rfl) pa_nil))))
(pss_one (ps_ret (pe_and (pe_callB (r := rIsi K) call_isi (by rfl) n_isinstance (by decide +kernel) (pa_cons (pv 0) (pa_cons (pe_bltn (v := .ty "bool") (by rfl) n_bool (by decide +kernel) rfl) pa_nil))) (pe_one (pe_cmpR op_eq (pv 0) (pv 1) (nomark _))))))
pss_nil)
(pss_cons (ps_if (pt_val (pe_callB (r := rIsi K) call_isi (by rfl) n_isinstance (by decide +kernel) (pa_cons (pv 1) (pa_cons (pe_bltn (v := .ty "int") (by rfl) n_int (by decide +kernel) rfl) pa_nil))))
(pss_one (ps_ret (pe_and (pe_callB (r := rIsi K) call_isi (by rfl) n_isinstance (by decide +kernel) (pa_cons (pv 0) (pa_cons (pe_bltn (v := .ty "int") (by rfl) n_int (by decide +kernel) rfl) pa_nil))) (pe_and (pe_not (pe_callB (r := rIsi K) call_isi (by rfl) n_isinstance (by decide +kernel) (pa_cons (pv 0) (pa_cons (pe_bltn (v := .ty "bool") (by rfl) n_bool (by decide +kernel) rfl) pa_nil)))) (pe_one (pe_cmpR op_eq (pv 0) (pv 1) (nomark _)))))))
pss_nil)
(pss_cons (ps_if (pt_val (pe_callB (r := rIsi K) call_isi (by rfl) n_isinstance (by decide +kernel) (pa_cons (pv 1) (pa_cons (pe_bltn (v := .ty "str") (by rfl) n_str (by decide +kernel) rfl) pa_nil))))
(pss_one (ps_ret (pe_and (pe_callB (r := rIsi K) call_isi (by rfl) n_isinstance (by decide +kernel) (pa_cons (pv 0) (pa_cons (pe_bltn (v := .ty "str") (by rfl) n_str (by decide +kernel) rfl) pa_nil))) (pe_one (pe_cmpR op_eq (pv 0) (pv 1) (nomark _))))))
pss_nil)
(pss_cons (ps_if (PW.pt (pw_or (pt_cmpR op_ne (pe_callB (r := rIsi K) call_isi (by rfl) n_isinstance (by decide +kernel) (pa_cons (pv 1) (pa_cons (pe_bltn (v := .ty "tuple") (by rfl) n_tuple (by decide +kernel) rfl) pa_nil))) (pe_callB (r := rIsi K) call_isi (by rfl) n_isinstance (by decide +kernel) (pa_cons (pv 0) (pa_cons (pe_bltn (v := .ty "tuple") (by rfl) n_tuple (by decide +kernel) rfl) pa_nil))) (nomark _)) (pw_or1 (pt_cmpR op_ne (pe_callB (r := rIsi K) call_isi (by rfl) n_isinstance (by decide +kernel) (pa_cons (pv 1) (pa_cons (pe_bltn (v := .ty "list") (by rfl) n_list (by decide +kernel) rfl) pa_nil))) (pe_callB (r := rIsi K) call_isi (by rfl) n_isinstance (by decide +kernel) (pa_cons (pv 0) (pa_cons (pe_bltn (v := .ty "list") (by rfl) n_list (by decide +kernel) rfl) pa_nil))) (nomark _)))))
(pss_one (ps_ret pe_bl))
pss_nil)
(pss_cons (ps_if (pt_cmpR op_ne (pe_callB (r := rLenQ K) call_lenQ (by rfl) n_len PySem.boot_len (pa_cons (pv 0) pa_nil)) (pe_callB (r := rLenQ K) call_lenQ (by rfl) n_len PySem.boot_len (pa_cons (pv 1) pa_nil)) (nomark _))
(pss_one (ps_ret pe_bl))
pss_nil)
(pss_one (ps_ret (pe_callB (r := rAll K) (cr_all rfl) (by rfl) n_all (by decide +kernel) (pa_cons (pe_lc (own := [("_law_k", 2)]) (g := gName 2) rfl sc.nd (pi_range1 rfl n_range (pa_cons (pe_callB (r := rLenQ K) call_lenQ (by rfl) n_len PySem.boot_len (pa_cons (pv 1) pa_nil)) pa_nil)) (blkOk_by (own := [("_law_k", 2)]) (N := ["_law_found", "_law_due", "_law_k"]) (sc := defScope (top 23)) (by decide +kernel)) (fun _ _ _ _ _ => (pg_name (i := 2) sc.nd rfl (Or.inl rfl))) (fun _ _ _ _ _ => pts_nil) (fun _ _ _ _ _ => (pe_cal c__law_alike (hr.mono (by first | decide | omega)) (pa_cons (pe_ix (r := rIx K) ix_seq (pv 0) (pv 2) (fun _ _ => rfl)) (pa_cons (pe_ix (r := rIx K) ix_seq (pv 1) (pv 2) (fun _ _ => rfl)) pa_nil))))) pa_nil)))))))))), ?_⟩
    refine ⟨_, rfl, rfl, _, rfl, ?_⟩
    cases d with
    | none =>
      cases hv; cases hu
      exact iteDT rfl ⟨_, rfl, rfl, by rw [decide_eq_true rfl]; exact k H (Same.refl H)⟩
    | bool b =>
      cases hv; cases hu
      refine iteDF (by simp) (t_isi (t := "bool") (b := true) rfl (.base (.bl b)) (by decide +kernel) (iteT ?_))
      refine e_isi (t := "bool") (b := true) rfl (.base (.bl b)) (by decide +kernel) ⟨_, rfl, iteT ⟨_, rfl, _, rfl, rfl, ?_⟩⟩
      rw [decide_eq_true rfl]; exact k H (Same.refl H)
    | int b =>
      cases hv; cases hu
      refine iteDF (by simp) (t_isi (t := "int") (b := false) rfl (.base (.int b)) (by decide +kernel) (iteF ?_))
      refine t_isi (t := "int") (b := true) rfl (.base (.int b)) (by decide +kernel) (iteT ?_)
      refine e_isi (t := "int") (b := true) rfl (.base (.int b)) (by decide +kernel) ⟨_, rfl, iteT ?_⟩
      refine e_isi (t := "int") (b := false) rfl (.base (.int b)) (by decide +kernel) ⟨_, rfl, _, rfl, iteT ⟨_, rfl, _, rfl, rfl, ?_⟩⟩
      rw [decide_eq_true rfl]; exact k H (Same.refl H)
    | str b =>
      cases hv; cases hu
      refine iteDF (by simp) (t_isi (t := "str") (b := false) rfl (.base (.str b)) (by decide +kernel) (iteF ?_))
      refine t_isi (t := "str") (b := false) rfl (.base (.str b)) (by decide +kernel) (iteF ?_)
      refine t_isi (t := "str") (b := true) rfl (.base (.str b)) (by decide +kernel) (iteT ?_)
      refine e_isi (t := "str") (b := true) rfl (.base (.str b)) (by decide +kernel) ⟨_, rfl, iteT ⟨_, rfl, _, rfl, rfl, ?_⟩⟩
      rw [decide_eq_true rfl]; exact k H (Same.refl H)
    | list ds =>
      obtain ⟨a, xs, rfl, hL, hX⟩ := dp_lst hv
      obtain ⟨b, ys, rfl, hM, hY⟩ := dp_lst hu
      have ta := ty_lst hL
      have tb := ty_lst hM
      have lx := dpa_length hX
      have ly := dpa_length hY
      refine iteDF (by simp) (t_isi (t := "list") (b := false) rfl tb (by decide +kernel) (iteF ?_))
      refine t_isi (t := "list") (b := false) rfl tb (by decide +kernel) (iteF ?_)
      refine t_isi (t := "list") (b := false) rfl tb (by decide +kernel) (iteF ?_)
      refine t_isi2 (t := "list") (b := false) rfl rfl tb ta (by decide +kernel) (iteF ?_)
      refine t_isi2 (t := "list") (b := true) rfl rfl tb ta (by decide +kernel) (iteF ?_)
      refine ⟨_, rfl, a, xs, rfl, .inl hL, _, rfl, b, ys, rfl, .inl hM, rfl, _, rfl, iteNS (vint_eq (by omega)) ?_⟩
      match n, hN, c__law_alike, hr with
      | n + 1, hN, c__law_alike, hr =>
      obtain ⟨hl, hN⟩ := hN
      refine ⟨_, rfl, b, ys, rfl, .inl hM, _, rfl, by omega, by omega, fun D hD => lc_range (lo := 0) (n := ((ys.length : Nat) : Int).toNat) (fun i H' => Same H H' ∧ H' D = some (.lst (List.replicate i (V.bl true)))) ⟨same_new hD, upd_same⟩ ?_ ?_⟩
      · rintro i H1 hi ⟨hs, hd1⟩
        have hiy : i < ys.length := by omega
        have hix : i < xs.length := by omega
        obtain ⟨d1, e1, q1⟩ := dpa_get hX (List.getElem?_eq_getElem hix)
        obtain ⟨d2, e2, q2⟩ := dpa_get hY (List.getElem?_eq_getElem hiy)
        rw [e1] at e2
        cases e2
        refine ⟨rfl, _, rfl, _, rfl, .inl ⟨a, xs, _, _, rfl, rfl, hs.seq hL, at_of (j := i) (by omega) (List.getElem?_eq_getElem hix), _, rfl, _, rfl, .inl ⟨b, ys, _, _, rfl, rfl, hs.seq hM, at_of (j := i) (by omega) (List.getElem?_eq_getElem hiy), ?_⟩⟩⟩
        refine ⟨_, _, d1, rfl, dp_same hs q1, dp_same hs q2, hN d1 (List.mem_of_getElem? e1), fun H2 hs2 => ?_⟩
        refine ⟨_, hs2 _ _ hd1, small1000 (by rw [List.length_replicate]; omega), same_put hD (hs.trans hs2), ?_⟩
        rw [upd_same, List.replicate_succ']
      · rintro H1 ⟨hs, hd1⟩
        refine ⟨D, List.replicate ((ys.length : Nat) : Int).toNat true, rfl, SqL.of (by rw [hd1, List.map_replicate]), ?_⟩
        rw [List.all_replicate]
        show Q (.bl (if _ then true else true)) _
        rw [ite_self]
        exact k _ hs
    | tuple ds =>
      obtain ⟨a, xs, rfl, hL, hX⟩ := dp_tup hv
      obtain ⟨b, ys, rfl, hM, hY⟩ := dp_tup hu
      have ta := ty_tup hL
      have tb := ty_tup hM
      have lx := dpa_length hX
      have ly := dpa_length hY
      refine iteDF (by simp) (t_isi (t := "tuple") (b := false) rfl tb (by decide +kernel) (iteF ?_))
      refine t_isi (t := "tuple") (b := false) rfl tb (by decide +kernel) (iteF ?_)
      refine t_isi (t := "tuple") (b := false) rfl tb (by decide +kernel) (iteF ?_)
      refine t_isi2 (t := "tuple") (b := true) rfl rfl tb ta (by decide +kernel) (iteF ?_)
      refine t_isi2 (t := "tuple") (b := false) rfl rfl tb ta (by decide +kernel) (iteF ?_)
      refine ⟨_, rfl, a, xs, rfl, .inr hL, _, rfl, b, ys, rfl, .inr hM, rfl, _, rfl, iteNS (vint_eq (by omega)) ?_⟩
      match n, hN, c__law_alike, hr with
      | n + 1, hN, c__law_alike, hr =>
      obtain ⟨hl, hN⟩ := hN
      refine ⟨_, rfl, b, ys, rfl, .inr hM, _, rfl, by omega, by omega, fun D hD => lc_range (lo := 0) (n := ((ys.length : Nat) : Int).toNat) (fun i H' => Same H H' ∧ H' D = some (.lst (List.replicate i (V.bl true)))) ⟨same_new hD, upd_same⟩ ?_ ?_⟩
      · rintro i H1 hi ⟨hs, hd1⟩
        have hiy : i < ys.length := by omega
        have hix : i < xs.length := by omega
        obtain ⟨d1, e1, q1⟩ := dpa_get hX (List.getElem?_eq_getElem hix)
        obtain ⟨d2, e2, q2⟩ := dpa_get hY (List.getElem?_eq_getElem hiy)
        rw [e1] at e2
        cases e2
        refine ⟨rfl, _, rfl, _, rfl, .inr (.inl ⟨a, xs, _, _, rfl, rfl, same_seqT hs hL, at_of (j := i) (by omega) (List.getElem?_eq_getElem hix), _, rfl, _, rfl, .inr (.inl ⟨b, ys, _, _, rfl, rfl, same_seqT hs hM, at_of (j := i) (by omega) (List.getElem?_eq_getElem hiy), ?_⟩)⟩)⟩
        refine ⟨_, _, d1, rfl, dp_same hs q1, dp_same hs q2, hN d1 (List.mem_of_getElem? e1), fun H2 hs2 => ?_⟩
        refine ⟨_, hs2 _ _ hd1, small1000 (by rw [List.length_replicate]; omega), same_put hD (hs.trans hs2), ?_⟩
        rw [upd_same, List.replicate_succ']
      · rintro H1 ⟨hs, hd1⟩
        refine ⟨D, List.replicate ((ys.length : Nat) : Int).toNat true, rfl, SqL.of (by rw [hd1, List.map_replicate]), ?_⟩
        rw [List.all_replicate]
        show Q (.bl (if _ then true else true)) _
        rw [ite_self]
        exact k _ hs
    | dict _ => cases hv
end
/-! ### what is alike itself by == -/
theorem lay_nest : ∀ (n : Nat) (d : PyData), Nest n d → d.canLay0 = true ∧ d.depth ≤ n := by
  have all : ∀ (n : Nat) (ds : List PyData), (∀ d ∈ ds, d.canLay0 = true ∧ d.depth ≤ n) → PyData.canLayAll0 ds = true ∧ PyData.depthAll ds ≤ n := by
    intro n ds
    induction ds with
    | nil => intro _; exact ⟨rfl, Nat.zero_le _⟩
    | cons d ds ih =>
      intro h
      obtain ⟨h1, h2⟩ := h d (by simp)
      obtain ⟨h3, h4⟩ := ih fun x hx => h x (by simp [hx])
      refine ⟨by simp [PyData.canLayAll0, h1, h3], ?_⟩
      show max d.depth (PyData.depthAll ds) ≤ n
      omega
  intro n
  induction n with
  | zero =>
    intro d h
    cases d with
    | none => exact ⟨rfl, Nat.le_refl _⟩
    | bool _ => exact ⟨rfl, Nat.le_refl _⟩
    | int _ => exact ⟨rfl, Nat.le_refl _⟩
    | str _ => exact ⟨h, Nat.le_refl _⟩
    | list _ => exact h.elim
    | tuple _ => exact h.elim
    | dict _ => exact h.elim
  | succ n ih =>
    intro d h
    cases d with
    | none => exact ⟨rfl, Nat.zero_le _⟩
    | bool _ => exact ⟨rfl, Nat.zero_le _⟩
    | int _ => exact ⟨rfl, Nat.zero_le _⟩
    | str _ => exact ⟨h, Nat.zero_le _⟩
    | list ds =>
      obtain ⟨h1, h2⟩ := all n ds fun d hd => ih d (h.2 d hd)
      exact ⟨by simpa [PyData.canLay0] using h1, Nat.succ_le_succ h2⟩
    | tuple ds =>
      obtain ⟨h1, h2⟩ := all n ds fun d hd => ih d (h.2 d hd)
      exact ⟨by simpa [PyData.canLay0] using h1, Nat.succ_le_succ h2⟩
    | dict _ => exact h.elim
theorem shaped_nest {n : Nat} {d : PyData} (h : Nest n d) (hn : n ≤ 64) : SeqAt.shaped d = true := by
  obtain ⟨h1, h2⟩ := lay_nest n d h
  unfold SeqAt.shaped
  rw [h1, decide_eq_true (Nat.le_trans h2 hn)]
  rfl
theorem eqv_nest {n : Nat} {d : PyData} (h : Nest n d) : PyData.eqv d d = true := SeqAt.eqv_refl d (lay_nest n d h).1
theorem nest_row {row : List Mv} (h : row.length ≤ 1000) : Nest 2 (rowD row) := by
  refine ⟨by rw [List.length_map]; exact h, fun d hd => ?_⟩
  obtain ⟨m, _, rfl⟩ := List.mem_map.mp hd
  refine ⟨by show 2 ≤ 1000; decide, fun x hx => ?_⟩
  simp at hx
  rcases hx with rfl | rfl <;> trivial
theorem nest_pairs {l : List (Int × Int)} (h : l.length ≤ 1000) : Nest 2 (.list (l.map ppD)) := by
  refine ⟨by rw [List.length_map]; exact h, fun d hd => ?_⟩
  obtain ⟨m, _, rfl⟩ := List.mem_map.mp hd
  refine ⟨by show 2 ≤ 1000; decide, fun x hx => ?_⟩
  simp at hx
  rcases hx with rfl | rfl <;> trivial
/-! ### PAIRS -/
structure PairsK (K : PySem.W.Frag) (aP p0 p1 p2 p3 : Addr) : Prop where
  ty : ∃ o, K.lookup aP = some o ∧ o.cls = .type "tuple" ∧ o.dict = none
  all : ∀ H, SqT K H aP [.ref p0, .ref p1, .ref p2, .ref p3]
  q0 : ∀ H, SqT K H p0 [.int 0, .int 0]
  q1 : ∀ H, SqT K H p1 [.int 0, .int 1]
  q2 : ∀ H, SqT K H p2 [.int 1, .int 1]
  q3 : ∀ H, SqT K H p3 [.int 1, .int 0]
theorem PairsK.at {K : PySem.W.Frag} {aP p0 p1 p2 p3 : Addr} (k : PairsK K aP p0 p1 p2 p3) (z : Int) : ∃ p, atI [V.ref p0, .ref p1, .ref p2, .ref p3] (z % 4) = some (.ref p) ∧ ∀ H, Dp K H (.ref p) (ppD (pr z)) := by
  unfold pr
  rcases mod4 z with h | h | h | h <;> rw [h]
  · exact ⟨p0, rfl, fun H => .tup (k.q0 H) (dpa_ii 0 0)⟩
  · exact ⟨p1, rfl, fun H => .tup (k.q1 H) (dpa_ii 0 1)⟩
  · exact ⟨p2, rfl, fun H => .tup (k.q2 H) (dpa_ii 1 1)⟩
  · exact ⟨p3, rfl, fun H => .tup (k.q3 H) (dpa_ii 1 0)⟩
theorem knT_of {K : PySem.W.Frag} {aP : Addr} {oc : Value} {od : Option Addr} {its : Array Value} {n : Nat} {sl : Array (Option Value)} {xs : List V} (h : K.lookup aP = some ⟨oc, od, .seq its n, sl⟩) (c : oc = .type "tuple") (z : its.size ≤ sizeLine) (r : Vals xs its.toList) (H : Hp) : SqT K H aP xs :=
  .inr ⟨_, its, n, h, c, rfl, z, r⟩
/-! ### need_knob, need_row of what is one; positions -/
def spNeedKnob (K : PySem.W.Frag) : Sp := fun vs H Q _ => ∃ (v : V) (g b : Int), vs = [v] ∧ Dp K H v (knD g b) ∧ 1 ≤ g ∧ g ≤ 6 ∧ 0 ≤ b ∧ b ≤ g ∧ Q .non H
def spNeedRow (K : PySem.W.Frag) : Sp := fun vs H Q _ => ∃ (v u : V) (g b : Int) (row : List Mv), vs = [v, u] ∧ Dp K H v (knD g b) ∧ Dp K H u (rowD row) ∧ Good g b row ∧ ∀ H', Same H H' → Q .non H'
/-- positions, places: a new list -/
def spPos (K : PySem.W.Frag) : Sp := fun vs H Q _ => ∃ (u : V) (row : List Mv) (ps : List Addr), vs = [u] ∧ Live ps H ∧ Dp K (Fz ps H) u (rowD row) ∧ row.length ≤ 1000 ∧
  ∀ (p : Addr) (xs : List V) (H' : Hp), H p = none → Same H H' → H' p = some (.lst xs) → DpAll K (Fz (p :: ps) H') xs ((plcs row).map ppD) → Q (.ref p) H'
section
variable {P : Program} {w : World} {K : PySem.W.Frag} {mg : Str → Option Value} {base : Heap}
theorem sc_need_knob : FnScope ["knob", "gap", "bounce"] ["knob"] (defScope (top 11)) := ⟨rfl, rfl, rfl, by decide +kernel, rfl, by decide +kernel, by decide +kernel⟩
theorem ok_need_knob {f : Addr} {fd : FuncData} {t1 : Tok} (F : Fun K "need_knob" "need_knob" (top 11) f fd) (g_MOST_GAP : mg "MOST_GAP" = some (.int 6 t1)) : FnOk P w K mg base CX0 1 f fd ["knob"] (spNeedKnob K) := by
  have sc := sc_need_knob
  refine F.ok sc (fun vs H Q E h => ?_) (fun cdv A outer s H vs Q E hr h => ?_)
  · obtain ⟨v, g, b, rfl, _⟩ := h
    rfl
  · obtain ⟨v, g, b, rfl, hd, g1, g6, b0, b1, k⟩ := h
    obtain ⟨a, rfl, hT⟩ := dp_ii hd
    refine ⟨_, (pss_cons (ps_asg (pv 0) (pg_tup rfl (pgs_cons (pg_name (i := 1) sc.nd rfl (Or.inl rfl)) (pgs_cons (pg_name (i := 2) sc.nd rfl (Or.inl rfl)) pgs_nil))))
(pss_cons (ps_if (pt_not (pt_chain op_le op_le pe_int (pv 1) (pe_glob (v := .int 6) rfl g_MOST_GAP ⟨_, rfl⟩)))
(pss_one ps_never)
pss_nil)
(pss_one (ps_if (pt_not (pt_chain op_le op_le pe_int (pv 2) (pv 1)))
(pss_one ps_never)
pss_nil)))), ?_⟩
    refine ⟨_, rfl, a, _, rfl, hT, rfl, _, _, rfl, _, _, rfl, rfl, ?_⟩
    refine ⟨_, rfl, _, _, rfl, rfl, _, rfl, ?_⟩
    rw [decide_eq_true g1]
    refine iteT ⟨_, _, rfl, rfl, _, rfl, ?_⟩
    rw [decide_eq_true g6]
    refine iteF ?_
    refine ⟨_, rfl, _, _, rfl, rfl, _, rfl, ?_⟩
    rw [decide_eq_true b0]
    refine iteT ⟨_, rfl, _, _, rfl, rfl, _, rfl, ?_⟩
    rw [decide_eq_true b1]
    exact iteF k
theorem sc_need_row : FnScope ["knob", "row", "gap", "bounce", "since", "turned", "at", "turn", "old"] ["knob", "row"] (defScope (top 13)) := ⟨rfl, rfl, rfl, by decide +kernel, rfl, by decide +kernel, by decide +kernel⟩
theorem ok_need_row {f : Addr} {fd : FuncData} {t1 : Tok} (F : Fun K "need_row" "need_row" (top 13) f fd) (g_MOST_ROW : mg "MOST_ROW" = some (.int 200 t1)) (n_enumerate : mg "enumerate" = none) (n_min : mg "min" = none) : FnOk P w K mg base CX0 1 f fd ["knob", "row"] (spNeedRow K) := by
  have sc := sc_need_row
  refine F.ok sc (fun vs H Q E h => ?_) (fun cdv A outer s H vs Q E hr h => ?_)
  · obtain ⟨v, u, g, b, row, rfl, _⟩ := h
    rfl
  · obtain ⟨v, u, g, b, row, rfl, hd, hrow, hG, k⟩ := h
    obtain ⟨a, rfl, hT⟩ := dp_ii hd
    obtain ⟨l, xs, rfl, hL, hX⟩ := dp_lst hrow
    have hxl : xs.length = row.length := by rw [dpa_length hX, List.length_map]
    refine ⟨_, (pss_cons (ps_asg (pv 0) (pg_tup rfl (pgs_cons (pg_name (i := 2) sc.nd rfl (Or.inl rfl)) (pgs_cons (pg_name (i := 3) sc.nd rfl (Or.inl rfl)) pgs_nil))))
(pss_cons (ps_set (i := 4) sc.nd rfl (Or.inl rfl) (pv 2))
(pss_cons (ps_set (i := 5) sc.nd rfl (Or.inl rfl) pe_bl)
(pss_one (ps_for PassesOwn.never rfl (pi_enum (by rfl) n_enumerate (pa_cons (pv 1) pa_nil)) (pg_tup rfl (pgs_cons (pg_name (i := 6) sc.nd rfl (Or.inl rfl)) (pgs_cons (pg_tup rfl (pgs_cons (pg_name (i := 7) sc.nd rfl (Or.inl rfl)) (pgs_cons (pg_name (i := 8) sc.nd rfl (Or.inl rfl)) pgs_nil))) pgs_nil)))
(pss_cons (ps_if (PW.pt (pw_or (pt_cmpR op_ge (pv 6) (pe_glob (v := .int 200) rfl g_MOST_ROW ⟨_, rfl⟩) (nomark _)) (pw_or (pt_cmpR (r := rIn K true) op_notIn_seq (pv 7) (pe_tup (pa_cons (pe_un un_neg pe_int) (pa_cons pe_int (pa_cons pe_int pa_nil)))) (by rfl)) (pw_or1 (PW.pt (pw_and (pt_cmpR op_ne (pv 7) pe_int (nomark _)) (pw_and1 (pt_cmpR op_lt (pv 4) (pv 2) (nomark _)))))))))
(pss_one ps_never)
pss_nil)
(C8.pss_cut (ps_if (pt_cmpR op_ne (pv 7) pe_int (nomark _))
(pss_cons (ps_set (i := 4) sc.nd rfl (Or.inl rfl) pe_int)
(pss_one (ps_set (i := 5) sc.nd rfl (Or.inl rfl) pe_bl)))
pss_nil)
(pss_cons (ps_if (PW.pt (pw_and (pt_val (pv 8)) (pw_and1 (PW.pt (pw_or (pt_not (pt_val (pv 5))) (pw_or1 (pt_cmpR op_ge (pv 4) (pv 3) (nomark _))))))))
(pss_one ps_never)
pss_nil)
(pss_one (ps_set (i := 4) sc.nd rfl (Or.inl rfl) (pe_callB (call_min2 rfl) (by rfl) n_min (by decide +kernel) (pa_cons (pv 2) (pa_cons (pe_op op_add (pv 4) pe_int) pa_nil))))))))))))), ?_⟩
    refine ⟨_, rfl, a, _, rfl, hT, rfl, _, _, rfl, _, _, rfl, rfl, ?_⟩
    refine ⟨_, rfl, ?_⟩
    refine ⟨_, rfl, l, xs, rfl, hL, for_it (walk_enum (xs := xs)) (fun i σ H' => ∃ v1 v2 v3, σ = [some (.ref a), some (.ref l), some (.int g), some (.int b), some (.int (rst g (row.take i)).1), some (.bl (rst g (row.take i)).2), v1, v2, v3] ∧ Same H H')
      ⟨none, none, none, rfl, Same.refl H⟩ (fun i σ H' _ ⟨_, _, _, _, e⟩ => e.seq hL) ?_ ?_⟩
    · rintro i x σ H1 H2 hi ⟨v1, v2, v3, rfl, hs⟩ ⟨T, y, z, rfl, hT0, rfl, hy, hz⟩
      cases hy
      obtain ⟨m, hm, hz2⟩ := dpa_map_at (dpa_same hs hX) hz
      have hz3 := dp_same (same_new hT0 (o := .tup [.int ((i : Nat) : Int), z])) hz2
      obtain ⟨q, rfl, hq⟩ := dp_ib hz3
      have ok := hG.ok i m hm
      have hi200 : i < 200 := by have := hG.len; omega
      refine ⟨T, _, rfl, SqT.of upd_same, rfl, _, _, rfl, _, _, rfl, ?_⟩
      refine ⟨q, _, rfl, hq, rfl, _, _, rfl, _, _, rfl, rfl, rfl, ?_⟩
      have e0 : (rst g (row.take (i + 1))) = stp g (rst g (row.take i)) m := rst_snoc hm
      refine ⟨_, rfl, _, _, rfl, rfl, _, rfl, ?_⟩
      rw [decide_eq_false (show ¬ (200 : Int) ≤ (i : Nat) by omega)]
      refine iteF ⟨_, rfl, _, rfl, (by show 3 ≤ sizeLine; decide), fun tp htp => ?_⟩
      have s2 : Same H (upd (upd H1 T (.tup [.int ((i : Nat) : Int), .ref q])) tp (.tup [.int (-1), .int 0, .int 1])) := (hs.trans (same_new hT0)).trans (same_new htp)
      refine ⟨tp, _, rfl, .inr (SqT.of upd_same), rfl, rfl, _, rfl, ?_⟩
      refine iteBF ?_ ?_
      · show (!(inV (V.int m.1) [V.int (-1), V.int 0, V.int 1])) = false
        rcases ok.turn with h | h | h <;> rw [h] <;> decide
      have third : ∀ {R : Bool → Hp → Prop} {σ : St} {Hq : Hp}, σ[7]? = some (some (.int m.1)) → σ[4]? = some (some (.int (rst g (row.take i)).1)) → σ[2]? = some (some (.int g)) → R false Hq →
          tAnd (tTest (tOp rNe (tVar 7) (tC (.int 0)))) (tTest (tOp (rI0 fun i j => .bl (decide (i < j))) (tVar 4) (tVar 2))) σ Hq R := by
        intro R σ Hq h7 h4 h2 hR
        refine ⟨_, h7, rfl, _, rfl, ?_⟩
        by_cases h0 : m.1 = 0
        · exact iteNS (vint_eq h0) hR
        · refine iteNT (vint_ne h0) ⟨_, h4, _, h2, _, _, rfl, rfl, _, rfl, ?_⟩
          rw [decide_eq_false (show ¬ (rst g (row.take i)).1 < g by have := ok.soon h0; omega)]
          exact hR
      refine third rfl rfl rfl (iteF ?_)
      refine ⟨fun σ H' => σ = [some (.ref a), some (.ref l), some (.int g), some (.int b), some (.int (if m.1 = 0 then (rst g (row.take i)).1 else 0)), some (.bl ((rst g (row.take i)).2 || decide (m.1 ≠ 0))), some (.int ((i : Nat) : Int)), some (.int m.1), some (.bl m.2)] ∧ Same H H', ?_, ?_⟩
      · refine ⟨_, rfl, rfl, _, rfl, ?_⟩
        by_cases h0 : m.1 = 0
        · refine iteNS (vint_eq h0) ⟨?_, s2⟩
          rw [if_pos h0, decide_eq_false (show ¬ m.1 ≠ 0 from fun z => z h0), Bool.or_false]
          rfl
        · refine iteNT (vint_ne h0) ⟨?_, s2⟩
          rw [if_neg h0, decide_eq_true (show m.1 ≠ 0 from h0), Bool.or_true]
          rfl
      · rintro σ H' ⟨rfl, s3⟩
        refine ⟨_, rfl, _, rfl, ?_⟩
        have fin : ∃ v1 v2 v3, [some (V.ref a), some (V.ref l), some (.int g), some (.int b), some (.int (if (if m.1 = 0 then (rst g (row.take i)).1 else 0) + 1 < g then (if m.1 = 0 then (rst g (row.take i)).1 else 0) + 1 else g)), some (.bl ((rst g (row.take i)).2 || decide (m.1 ≠ 0))), some (.int ((i : Nat) : Int)), some (.int m.1), some (.bl m.2)] =
            [some (.ref a), some (.ref l), some (.int g), some (.int b), some (.int (rst g (row.take (i + 1))).1), some (.bl (rst g (row.take (i + 1))).2), v1, v2, v3] ∧ Same H H' := by
          refine ⟨some (.int ((i : Nat) : Int)), some (.int m.1), some (.bl m.2), ?_, s3⟩
          rw [e0]
          unfold stp
          dsimp only
          rw [min2]
        have last : ∀ {Z : Prop}, Z → (if m.2 = true then Z else Z) := fun z => by split <;> exact z
        by_cases ho : m.2 = true
        · obtain ⟨o1, o2⟩ := ok.old ho
          refine iteBT ho ⟨_, rfl, _, rfl, ?_⟩
          have e1 : ((rst g (row.take i)).2 || decide (m.1 ≠ 0)) = true := by
            rcases o1 with h | h
            · rw [h, Bool.true_or]
            · rw [decide_eq_true h, Bool.or_true]
          rw [e1]
          refine iteF ⟨_, rfl, _, rfl, _, _, rfl, rfl, _, rfl, ?_⟩
          rw [decide_eq_false (show ¬ b ≤ (if m.1 = 0 then (rst g (row.take i)).1 else 0) by omega)]
          refine iteF ?_
          rw [e1] at fin
          exact ⟨_, rfl, _, rfl, _, _, rfl, rfl, _, _, rfl, fin⟩
        · refine iteBF (by simpa using ho) (iteF ⟨_, rfl, _, rfl, _, _, rfl, rfl, _, _, rfl, fin⟩)
    · rintro σ H1 ⟨v1, v2, v3, rfl, hs⟩
      exact k H1 hs
end
section
variable {P : Program} {w : World} {K : PySem.W.Frag} {mg : Str → Option Value} {base : Heap}
theorem sc_positions : FnScope ["row", "here", "last", "found", "turn", "old"] ["row"] (defScope (top 14)) := ⟨rfl, rfl, rfl, by decide +kernel, rfl, by decide +kernel, by decide +kernel⟩
theorem ok_positions {f : Addr} {fd : FuncData} (F : Fun K "positions" "positions" (top 14) f fd) : FnOk P w K mg base CX0 1 f fd ["row"] (spPos K) := by
  have sc := sc_positions
  refine F.ok sc (fun vs H Q E h => ?_) (fun cdv A outer s H vs Q E hr h => ?_)
  · obtain ⟨u, row, ps, rfl, _⟩ := h
    rfl
  · obtain ⟨u, row, ps, rfl, lv, hrow, hlen, k⟩ := h
    obtain ⟨a, ys, rfl, hL, hY⟩ := dp_lst hrow
    have hyl : ys.length = row.length := by rw [dpa_length hY, List.length_map]
    refine ⟨_, (pss_cons (ps_set (i := 1) sc.nd rfl (Or.inl rfl) pe_int)
(pss_cons (ps_set (i := 2) sc.nd rfl (Or.inl rfl) pe_int)
(pss_cons (ps_set (i := 3) sc.nd rfl (Or.inl rfl) (pe_lst pa_nil))
(pss_cons (ps_for PassesOwn.never rfl (pi_list (pv 0)) (pg_tup rfl (pgs_cons (pg_name (i := 4) sc.nd rfl (Or.inl rfl)) (pgs_cons (pg_name (i := 5) sc.nd rfl (Or.inl rfl)) pgs_nil)))
(pss_cons (ps_set (i := 1) sc.nd rfl (Or.inl rfl) (pe_op op_add (pv 1) (pv 4)))
(pss_cons (ps_set (i := 2) sc.nd rfl (Or.inl rfl) (pe_ifExp (pt_cmpR op_ne (pv 4) pe_int (nomark _)) (pv 4) (pv 2)))
(pss_one (ps_expr (pe_bm PySem.F.plainAttrs_list PySem.F.slot_list_append PySem.F.type_list_append mt_append (pv 3) (pa_cons (pe_tup (pa_cons (pv 1) (pa_cons (pe_ifExp (pt_val (pv 5)) (pe_op op_sub (pv 1) (pv 2)) (pv 1)) pa_nil))) pa_nil)))))))
(pss_one (ps_ret (pv 3))))))), ?_⟩
    refine ⟨Nat.zero_le _, fun l hl => ?_⟩
    have s0 : Same H (upd H l (.lst [])) := same_new hl
    refine ⟨_, rfl, a, rfl, ⟨ys, s0.seq (fz_le.seq hL)⟩, for_it (walk_list (xs := ys)) (fun i σ H' => ∃ (xs : List V) (v1 v2 : Option V), σ = [some (.ref a), some (.int (pas (row.take i)).1), some (.int (pas (row.take i)).2), some (.ref l), v1, v2] ∧ Same H H' ∧
        H' l = some (.lst xs) ∧ DpAll K (Fz (l :: ps) H') xs ((plcs (row.take i)).map ppD))
      ⟨[], none, none, rfl, s0, upd_same, .nil⟩ (fun i σ H' _ ⟨_, _, _, _, e, _⟩ => e.seq (fz_le.seq hL)) ?_ ?_⟩
    · rintro i x σ H1 H2 hi ⟨xs, v1, v2, rfl, hs, hxl, hX⟩ ⟨rfl, hx⟩
      obtain ⟨⟨t, o⟩, hm, hz⟩ := dpa_map_at hY hx
      obtain ⟨q, rfl, hq⟩ := dp_ib (dp_same hs (dp_fz hz))
      have ep := pas_snoc hm
      have el := plcs_snoc hm
      have hxn : xs.length ≤ 1000 := by
        rw [dpa_length hX, List.length_map, plcs_length, List.length_take]; omega
      have lv2 : Live (l :: ps) H2 := live_cons hxl (lv.mono hs)
      refine ⟨q, _, rfl, hq, rfl, _, _, rfl, _, _, rfl, rfl, ?_⟩
      refine ⟨_, rfl, _, rfl, _, _, rfl, rfl, ?_⟩
      have fin : ∀ (z : Int) (tp : Addr), H2 tp = none → z = (if o = true then (pst (pas (row.take i)) (t, o)).1 - (pst (pas (row.take i)) (t, o)).2 else (pst (pas (row.take i)) (t, o)).1) →
          DpAll K (Fz (l :: ps) (upd (upd H2 tp (.tup [.int ((pas (row.take i)).1 + t), .int z])) l (.lst (xs ++ [.ref tp])))) (xs ++ [.ref tp]) ((plcs (row.take (i + 1))).map ppD) := by
        intro z tp htp ez
        rw [el, List.map_append]
        refine dpa_push lv2 htp hX ?_
        rw [ez]
        exact dpa_ii _ _
      have fins : ∀ (tp : Addr) (ws : List V) (us : List V), H2 tp = none → Same H (upd (upd H2 tp (.tup ws)) l (.lst us)) := fun tp ws us htp => same_put hl (hs.trans (same_new htp))
      have el1 : (pas (row.take (i + 1))).1 = (pas (row.take i)).1 + t := by rw [ep]; rfl
      have el2 : (pas (row.take (i + 1))).2 = (if t = 0 then (pas (row.take i)).2 else t) := by rw [ep]; rfl
      refine ⟨_, rfl, rfl, _, rfl, ?_⟩
      by_cases h0 : t = 0
      · refine iteNS (vint_eq h0) ⟨_, rfl, ?_⟩
        rw [if_pos h0] at el2
        have e2 : (pst (pas (row.take i)) (t, o)).2 = (pas (row.take i)).2 := if_pos h0
        refine ⟨_, rfl, .inl ⟨rfl, _, SqL.of hxl⟩, _, rfl, _, rfl, _, rfl, iteB (fun ho => ?_) (fun ho => ?_)⟩
        · refine ⟨_, rfl, _, rfl, _, _, rfl, rfl, (by show 2 ≤ sizeLine; decide), fun tp htp => ?_⟩
          have ntl : l ≠ tp := ne_of_none hxl htp
          refine ⟨l, xs, _, rfl, rfl, (by rw [upd_ne ntl]; exact hxl), small1000 hxn, _, some (.int t), some (.bl o), ?_, fins _ _ _ htp, upd_same, fin _ _ htp ?_⟩
          · rw [el1, el2]; rfl
          · rw [if_pos ho, e2]; rfl
        · refine ⟨_, rfl, (by show 2 ≤ sizeLine; decide), fun tp htp => ?_⟩
          have ntl : l ≠ tp := ne_of_none hxl htp
          refine ⟨l, xs, _, rfl, rfl, (by rw [upd_ne ntl]; exact hxl), small1000 hxn, _, some (.int t), some (.bl o), ?_, fins _ _ _ htp, upd_same, fin _ _ htp ?_⟩
          · rw [el1, el2]; rfl
          · rw [if_neg (by rw [show o = false from ho]; decide)]; rfl
      · refine iteNT (vint_ne h0) ⟨_, rfl, ?_⟩
        rw [if_neg h0] at el2
        have e2 : (pst (pas (row.take i)) (t, o)).2 = t := if_neg h0
        refine ⟨_, rfl, .inl ⟨rfl, _, SqL.of hxl⟩, _, rfl, _, rfl, _, rfl, iteB (fun ho => ?_) (fun ho => ?_)⟩
        · refine ⟨_, rfl, _, rfl, _, _, rfl, rfl, (by show 2 ≤ sizeLine; decide), fun tp htp => ?_⟩
          have ntl : l ≠ tp := ne_of_none hxl htp
          refine ⟨l, xs, _, rfl, rfl, (by rw [upd_ne ntl]; exact hxl), small1000 hxn, _, some (.int t), some (.bl o), ?_, fins _ _ _ htp, upd_same, fin _ _ htp ?_⟩
          · rw [el1, el2]; rfl
          · rw [if_pos ho, e2]; rfl
        · refine ⟨_, rfl, (by show 2 ≤ sizeLine; decide), fun tp htp => ?_⟩
          have ntl : l ≠ tp := ne_of_none hxl htp
          refine ⟨l, xs, _, rfl, rfl, (by rw [upd_ne ntl]; exact hxl), small1000 hxn, _, some (.int t), some (.bl o), ?_, fins _ _ _ htp, upd_same, fin _ _ htp ?_⟩
          · rw [el1, el2]; rfl
          · rw [if_neg (by rw [show o = false from ho]; decide)]; rfl
    · rintro σ H1 ⟨xs, v1, v2, rfl, hs, hxl, hX⟩
      rw [hyl, List.take_length] at hX
      exact ⟨_, rfl, k l xs H1 hl hs hxl hX⟩
end
/-! ### a knob, a row that it can go -/
def spKnob : Sp := fun vs H Q _ => ∃ (d : Addr) (ns : List Int), vs = [.ref d] ∧ H d = some (.lst (ns.map V.int)) ∧ Dice ns ∧
  ∀ (g b : Int) (ms : List Int) (p : Addr), 1 ≤ g → g ≤ 6 → 0 ≤ b → b ≤ g → Dice ms → H p = none → Q (.ref p) (upd (upd H d (.lst (ms.map V.int))) p (.tup [.int g, .int b]))
def spRow (K : PySem.W.Frag) : Sp := fun vs H Q _ => ∃ (d kn : Addr) (ns : List Int) (many g b : Int) (ps : List Addr), vs = [.ref d, .ref kn, .int many] ∧ H d = some (.lst (ns.map V.int)) ∧ Dice ns ∧ d ∈ ps ∧ Live ps H ∧
  Dp K (Fz ps H) (.ref kn) (knD g b) ∧ 1 ≤ g ∧ g ≤ 6 ∧ 0 ≤ b ∧ b ≤ g ∧ 0 ≤ many ∧ many ≤ 200 ∧
  ∀ (row : List Mv) (ms : List Int) (p : Addr) (xs : List V) (H' : Hp), Good g b row → row.length = many.toNat → Dice ms → H p = none → Frm [d] H H' → H' d = some (.lst (ms.map V.int)) → H' p = some (.lst xs) →
    DpAll K (Fz (p :: ps) H') xs (row.map mvD) → Q (.ref p) H'
section
variable {P : Program} {w : World} {K : PySem.W.Frag} {mg : Str → Option Value} {base : Heap}
theorem sc_knob : FnScope ["_law_d", "_law_gap"] ["_law_d"] (defScope (top 24)) := ⟨rfl, rfl, rfl, by decide +kernel, rfl, by decide +kernel, by decide +kernel⟩
theorem ok_knob {f : Addr} {fd : FuncData} (F : Fun K "_law_knob" "_law_knob" (top 24) f fd) (c__law_off : Cal P w K mg base 1 "_law_off" ["_law_d", "_law_most"] spOff) : FnOk P w K mg base CX0 2 f fd ["_law_d"] spKnob := by
  have sc := sc_knob
  refine F.ok sc (fun vs H Q E h => ?_) (fun cdv A outer s H vs Q E hr h => ?_)
  · obtain ⟨d, ns, rfl, _⟩ := h
    rfl
  · obtain ⟨d, ns, rfl, hd, hD, k⟩ := h
    refine ⟨_, (pss_cons (ps_set (i := 1) sc.nd rfl (Or.inl rfl) (pe_op op_add pe_int (pe_cal c__law_off (hr.mono (by first | decide | omega)) (pa_cons (pv 0) (pa_cons pe_int pa_nil)))))
(pss_one (ps_ret (pe_tup (pa_cons (pv 1) (pa_cons (pe_cal c__law_off (hr.mono (by first | decide | omega)) (pa_cons (pv 0) (pa_cons (pe_op op_add (pv 1) pe_int) pa_nil))) pa_nil)))))), ?_⟩
    refine ⟨_, rfl, d, ns, 6, rfl, hd, hD, by decide, by decide, fun v ms v0 v1 hD1 => ?_⟩
    refine ⟨_, _, rfl, rfl, ?_⟩
    refine ⟨_, rfl, _, rfl, _, rfl, _, _, rfl, rfl, d, ms, 1 + v + 1, rfl, upd_same, hD1, by omega, by omega, fun u ms2 u0 u1 hD2 => ?_⟩
    refine ⟨(by show 2 ≤ sizeLine; decide), fun p hp => ?_⟩
    rw [upd_upd] at hp ⊢
    exact k (1 + v) u ms2 p (by omega) (by omega) u0 (by omega) hD2 (by
      have n : p ≠ d := fun z => by rw [z, upd_same] at hp; cases hp
      rw [upd_ne n] at hp; exact hp)
theorem sc_row : FnScope ["_law_d", "_law_knob_here", "_law_many", "_law_often", "_law_back", "_law_way", "_law_since", "_law_ever", "_law_row_here", "_law_k", "_law_turn"] ["_law_d", "_law_knob_here", "_law_many"] (defScope (top 26)) := ⟨rfl, rfl, rfl, by decide +kernel, rfl, by decide +kernel, by decide +kernel⟩
set_option maxHeartbeats 1000000 in
theorem ok_row {f : Addr} {fd : FuncData} (F : Fun K "_law_row" "_law_row" (top 26) f fd) (c__law_off : Cal P w K mg base 1 "_law_off" ["_law_d", "_law_most"] spOff) (n_range : mg "range" = none) (n_int : mg "int" = none) : FnOk P w K mg base CX0 2 f fd ["_law_d", "_law_knob_here", "_law_many"] (spRow K) := by
  have sc := sc_row
  refine F.ok sc (fun vs H Q E h => ?_) (fun cdv A outer s H vs Q E hr h => ?_)
  · obtain ⟨d, kn, ns, many, g, b, ps, rfl, _⟩ := h
    rfl
  · obtain ⟨d, kn, ns, many, g, b, ps, rfl, hd, hD, dps, lv, hkn, g1, g6, b0, b1, m0, m1, k⟩ := h
    obtain ⟨kn', e, hT⟩ := dp_ii hkn
    cases e
    refine ⟨_, (pss_cons (ps_set (i := 3) sc.nd rfl (Or.inl rfl) (pe_op op_add pe_int (pe_cal c__law_off (hr.mono (by first | decide | omega)) (pa_cons (pv 0) (pa_cons pe_int pa_nil)))))
(pss_cons (ps_set (i := 4) sc.nd rfl (Or.inl rfl) (pe_op op_add pe_int (pe_cal c__law_off (hr.mono (by first | decide | omega)) (pa_cons (pv 0) (pa_cons pe_int pa_nil)))))
(pss_cons (ps_set (i := 5) sc.nd rfl (Or.inl rfl) (pe_ix (r := rIxL K) ix_list (pe_lst (pa_cons pe_int (pa_cons (pe_un un_neg pe_int) pa_nil))) (pe_cal c__law_off (hr.mono (by first | decide | omega)) (pa_cons (pv 0) (pa_cons pe_int pa_nil))) (fun _ _ => rfl)))
(pss_cons (ps_set (i := 6) sc.nd rfl (Or.inl rfl) (pe_ix (r := rIxT K) ix_tup (pv 1) pe_int (fun _ _ => rfl)))
(pss_cons (ps_set (i := 7) sc.nd rfl (Or.inl rfl) pe_bl)
(pss_cons (ps_set (i := 8) sc.nd rfl (Or.inl rfl) (pe_lst pa_nil))
(pss_cons (ps_for PassesOwn.never rfl (pi_range1 rfl n_range (pa_cons (pv 2) pa_nil)) (pg_name (i := 9) sc.nd rfl (Or.inl rfl))
(pss_cons (ps_set (i := 10) sc.nd rfl (Or.inl rfl) pe_int)
(C8.pss_cut (ps_if (PW.pt (pw_and (pt_cmpR op_ge (pv 6) (pe_ix (r := rIxT K) ix_tup (pv 1) pe_int (fun _ _ => rfl)) (nomark _)) (pw_and1 (pt_cmpR op_eq (pe_cal c__law_off (hr.mono (by first | decide | omega)) (pa_cons (pv 0) (pa_cons (pv 3) pa_nil))) pe_int (nomark _)))))
(pss_cons (ps_set (i := 5) sc.nd rfl (Or.inl rfl) (pe_op op_mul (pv 5) (pe_ix (r := rIxL K) ix_list (pe_lst (pa_cons pe_int (pa_cons (pe_un un_neg pe_int) pa_nil))) (pe_callTy call_int1 (by rfl) n_int (by decide +kernel) (pa_cons (pe_cmpR op_eq (pe_cal c__law_off (hr.mono (by first | decide | omega)) (pa_cons (pv 0) (pa_cons (pv 4) pa_nil))) pe_int (nomark _)) pa_nil)) (fun _ _ => rfl))))
(pss_cons (ps_set (i := 10) sc.nd rfl (Or.inl rfl) (pv 5))
(pss_cons (ps_set (i := 6) sc.nd rfl (Or.inl rfl) pe_int)
(pss_one (ps_set (i := 7) sc.nd rfl (Or.inl rfl) pe_bl)))))
pss_nil)
(pss_cons (ps_expr (pe_bm PySem.F.plainAttrs_list PySem.F.slot_list_append PySem.F.type_list_append mt_append (pv 8) (pa_cons (pe_tup (pa_cons (pv 10) (pa_cons (pe_cut (pe_and (pv 7) (pe_and (pe_cmpR op_lt (pv 6) (pe_ix (r := rIxT K) ix_tup (pv 1) pe_int (fun _ _ => rfl)) (nomark _)) (pe_one (pe_cmpR op_eq (pe_cal c__law_off (hr.mono (by first | decide | omega)) (pa_cons (pv 0) (pa_cons pe_int pa_nil))) pe_int (nomark _)))))) pa_nil))) pa_nil)))
(pss_one (ps_set (i := 6) sc.nd rfl (Or.inl rfl) (pe_op op_add (pv 6) pe_int)))))))
(pss_one (ps_ret (pv 8)))))))))), ?_⟩
    -- often, back
    refine ⟨_, rfl, d, ns, 4, rfl, hd, hD, by decide, by decide, fun v1 ms1 v10 v11 hD1 => ?_⟩
    refine ⟨_, _, rfl, rfl, ?_⟩
    refine ⟨_, rfl, d, ms1, 6, rfl, upd_same, hD1, by decide, by decide, fun v2 ms2 v20 v21 hD2 => ?_⟩
    refine ⟨_, _, rfl, rfl, ?_⟩
    rw [upd_upd]
    -- way
    refine ⟨_, rfl, (by show 2 ≤ sizeLine; decide), fun l1 h1 => ?_⟩
    have n1 : d ≠ l1 := fun z => by rw [← z, upd_same] at h1; cases h1
    refine ⟨_, rfl, d, ms2, 2, rfl, (by rw [upd_ne n1, upd_same]), hD2, by decide, by decide, fun v3 ms3 v30 v31 hD3 => ?_⟩
    have f0 : Frm [d] H (upd H d (.lst (ms2.map V.int))) := Frm.set (by simp)
    have f1 : Frm [d] H (upd (upd (upd H d (.lst (ms2.map V.int))) l1 (.lst [.int 1, .int (-1)])) d (.lst (ms3.map V.int))) := (f0.trans (Frm.new h1)).trans (Frm.set (by simp))
    refine ⟨l1, _, _, .int (if v3 = 0 then 1 else -1), rfl, rfl, SqL.of (by rw [upd_ne n1.symm]; exact upd_same), ?_, ?_⟩
    · show atI [V.int 1, V.int (-1)] v3 = _
      have : v3 = 0 ∨ v3 = 1 := by omega
      rcases this with h | h <;> rw [h] <;> decide
    -- since, ever, the list
    have frT : ∀ {H' : Hp}, Frm [d] H H' → SqT K H' kn [.int g, .int b] := fun {H'} fr => same_seqT (fz_le (ps := ps)) (same_seqT (Frm.fz (Frm.mono (by simpa using dps) fr)) hT)
    refine ⟨_, rfl, kn, _, _, _, rfl, rfl, frT f1, at_of (j := 0) rfl rfl, ?_⟩
    refine ⟨Nat.zero_le _, fun l hl => ?_⟩
    have hlH : H l = none := by
      cases q : H l with
      | none => rfl
      | some o =>
        by_cases e : l = d
        · rw [e, upd_same] at hl; cases hl
        · rw [f1 l o (by simpa using e) q] at hl; cases hl
    have nld : l ≠ d := fun z => by rw [z, upd_same] at hl; cases hl
    refine ⟨_, rfl, many, rfl, by omega, by omega, for_range (lo := 0) (n := many.toNat) (fun i σ H' => ∃ (row : List Mv) (ms : List Int) (xs : List V) (way since : Int) (ever : Bool) (u1 u2 : Option V),
        σ = [some (.ref d), some (.ref kn), some (.int many), some (.int (1 + v1)), some (.int (1 + v2)), some (.int way), some (.int since), some (.bl ever), some (.ref l), u1, u2] ∧
        (way = 1 ∨ way = -1) ∧ 0 ≤ since ∧ Good g b row ∧ row.length = i ∧ rst g row = (min g since, ever) ∧ Dice ms ∧ Frm [d] H H' ∧ H' d = some (.lst (ms.map V.int)) ∧ H' l = some (.lst xs) ∧ DpAll K (Fz (l :: ps) H') xs (row.map mvD)) ?_ ?_ ?_⟩
    · refine ⟨[], ms3, [], _, _, _, _, _, rfl, ?_, by omega, good_nil, rfl, ?_, hD3, f1.trans (Frm.new hl), by rw [upd_ne nld.symm, upd_same], upd_same, .nil⟩
      · split <;> simp
      · show (g, false) = _
        rw [Int.min_self]
    · rintro i σ H1 hi ⟨row, ms, xs, way, since, ever, u1, u2, rfl, hw, s0, hG, hrl, hst, hDm, fr, hd1, hl1, hX⟩
      have hi200 : row.length < 200 := by omega
      -- the turn
      refine ⟨fun σ H' => ∃ (t way' since' : Int) (ever' : Bool) (ms' : List Int), σ = [some (.ref d), some (.ref kn), some (.int many), some (.int (1 + v1)), some (.int (1 + v2)), some (.int way'), some (.int since'), some (.bl ever'), some (.ref l), some (.int (0 + (i : Int))), some (.int t)] ∧
        (way' = 1 ∨ way' = -1) ∧ (t = -1 ∨ t = 0 ∨ t = 1) ∧ since' = (if t = 0 then since else 0) ∧ ever' = (ever || decide (t ≠ 0)) ∧ (t ≠ 0 → g ≤ since) ∧ Dice ms' ∧ Frm [d] H H' ∧ H' d = some (.lst (ms'.map V.int)) ∧ H' l = some (.lst xs) ∧ DpAll K (Fz (l :: ps) H') xs (row.map mvD), ?_, ?_⟩
      · refine ⟨_, rfl, _, rfl, kn, _, _, _, rfl, rfl, frT fr, at_of (j := 0) rfl rfl, _, _, rfl, rfl, _, rfl, ?_⟩
        by_cases c : g ≤ since
        · refine iteDT c ⟨_, rfl, _, rfl, d, ms, 1 + v1, rfl, hd1, hDm, by omega, by omega, fun v4 ms4 v40 v41 hD4 => ?_⟩
          refine ⟨rfl, _, rfl, ?_⟩
          have fr4 : Frm [d] H (upd H1 d (.lst (ms4.map V.int))) := fr.trans (Frm.set (by simp))
          have hX4 : DpAll K (Fz (l :: ps) (upd H1 d (.lst (ms4.map V.int)))) xs (row.map mvD) := by rw [fz_set (by simp [dps])]; exact hX
          by_cases c4 : v4 = 0
          · refine iteDT (vint_eq c4) ?_
            refine ⟨_, rfl, _, rfl, (by show 2 ≤ sizeLine; decide), fun l5 h5 => ?_⟩
            have n5 : d ≠ l5 := fun z => by rw [← z, upd_same] at h5; cases h5
            have n5l : l ≠ l5 := fun z => by rw [← z, upd_ne nld, hl1] at h5; cases h5
            refine ⟨_, rfl, _, rfl, d, ms4, 1 + v2, rfl, (by rw [upd_ne n5, upd_same]), hD4, by omega, by omega, fun v6 ms6 v60 v61 hD6 => ?_⟩
            refine ⟨rfl, .inr ⟨_, rfl, ?_⟩⟩
            refine ⟨l5, _, _, .int (if v6 = 0 then -1 else 1), rfl, rfl, SqL.of (by rw [upd_ne n5.symm]; exact upd_same), ?_, ?_⟩
            · show atI [V.int 1, V.int (-1)] (if decide (V.int v6 = V.int 0) = true then 1 else 0) = _
              by_cases c6 : v6 = 0
              · rw [if_pos c6, decide_eq_true (vint_eq c6)]; decide
              · rw [if_neg c6, decide_eq_false (vint_ne c6)]; decide
            refine ⟨_, _, rfl, rfl, .inl ⟨by omega, by omega⟩, ?_⟩
            refine ⟨_, rfl, ?_⟩
            have hw6 : way * (if v6 = 0 then -1 else 1) = 1 ∨ way * (if v6 = 0 then -1 else 1) = -1 := by
              rcases hw with h | h <;> rw [h] <;> split <;> simp
            have hn6 : way * (if v6 = 0 then -1 else 1) ≠ 0 := by omega
            refine ⟨way * (if v6 = 0 then -1 else 1), way * (if v6 = 0 then -1 else 1), 0, true, ms6, rfl, hw6, by omega, by rw [if_neg hn6], by rw [decide_eq_true hn6, Bool.or_true], fun _ => c, hD6, (fr4.trans (Frm.new h5)).trans (Frm.set (by simp)), upd_same, ?_, ?_⟩
            · rw [upd_ne nld, upd_ne n5l, upd_ne nld]; exact hl1
            · rw [fz_set (by simp [dps])]; exact dpa_same (fz_mono (same_new h5)) hX4
          · refine iteDF (vint_ne c4) ?_
            exact ⟨0, way, since, ever, ms4, rfl, hw, by simp, by simp, by simp, by simp, hD4, fr4, upd_same, by rw [upd_ne nld]; exact hl1, hX4⟩
        · refine iteDF c ?_
          exact ⟨0, way, since, ever, ms, rfl, hw, by simp, by simp, by simp, by simp, hDm, fr, hd1, hl1, hX⟩
      · rintro σ H2 ⟨t, way', since', ever', ms', rfl, hw', ht, hs', he', hso, hD', fr2, hd2, hl2, hX2⟩
        have s0' : 0 ≤ since' := by rw [hs']; split <;> omega
        have nxt : min g (since' + 1) = min g ((if t = 0 then min g since else 0) + 1) := by
          rw [hs']; by_cases c : t = 0
          · rw [if_pos c, if_pos c]; omega
          · rw [if_neg c, if_neg c]
        refine ⟨_, rfl, .inl ⟨rfl, _, SqL.of hl2⟩, _, rfl, ?_⟩
        -- whether the old is shown
        refine ⟨fun v H' => ∃ (o : Bool) (ms3 : List Int), v = .bl o ∧ (o = true → ever' = true ∧ since' < b) ∧ Dice ms3 ∧ Frm [d] H H' ∧ H' d = some (.lst (ms3.map V.int)) ∧ H' l = some (.lst xs) ∧ DpAll K (Fz (l :: ps) H') xs (row.map mvD), ?_, ?_⟩
        · refine ⟨_, rfl, _, rfl, ?_⟩
          refine iteB (fun ce => ?_) (fun ce => ?_)
          · refine ⟨_, rfl, _, rfl, kn, _, _, _, rfl, rfl, frT fr2, at_of (j := 1) rfl rfl, _, _, rfl, rfl, _, rfl, ?_⟩
            refine iteB (fun cs => ?_) (fun cs => ?_)
            · refine ⟨_, rfl, d, ms', 2, rfl, hd2, hD', by decide, by decide, fun v7 ms7 v70 v71 hD7 => ?_⟩
              refine ⟨rfl, _, ms7, rfl, fun _ => ⟨ce, of_decide_eq_true cs⟩, hD7, fr2.trans (Frm.set (by simp)), upd_same, by rw [upd_ne nld]; exact hl2, ?_⟩
              rw [fz_set (by simp [dps])]; exact hX2
            · exact ⟨false, ms', rfl, by simp, hD', fr2, hd2, hl2, hX2⟩
          · exact ⟨false, ms', rfl, by simp, hD', fr2, hd2, hl2, hX2⟩
        · rintro v H3 ⟨o, ms3, rfl, ho, hD3', fr3, hd3, hl3, hX3⟩
          refine ⟨(by show 2 ≤ sizeLine; decide), fun tp htp => ?_⟩
          have ntl : l ≠ tp := ne_of_none hl3 htp
          have ntd : d ≠ tp := ne_of_none hd3 htp
          have hxn : xs.length ≤ 1000 := by rw [dpa_length hX3, List.length_map]; omega
          refine ⟨l, xs, _, rfl, rfl, (by rw [upd_ne ntl]; exact hl3), small1000 hxn, ?_⟩
          refine ⟨_, rfl, _, _, rfl, rfl, row ++ [(t, o)], ms3, xs ++ [.ref tp], way', since' + 1, ever', _, _, rfl, hw', by omega, ?_, ?_, ?_, hD3', ?_, ?_, upd_same, ?_⟩
          · refine good_snoc hG hi200 ⟨ht, fun z => ?_, fun z => ⟨?_, ?_⟩⟩
            · rw [hst]; have := hso z; show g ≤ min g since; omega
            · obtain ⟨z1, _⟩ := ho z
              rw [he'] at z1
              rw [hst]
              simpa using z1
            · obtain ⟨_, z2⟩ := ho z
              rw [hs'] at z2
              rw [hst]
              show (if t = 0 then min g since else 0) < b
              by_cases c : t = 0
              · rw [if_pos c] at z2 ⊢; omega
              · rw [if_neg c] at z2 ⊢; omega
          · rw [List.length_append, List.length_singleton, hrl]
          · rw [rst_app, hst]
            unfold stp
            dsimp only
            rw [he', nxt]
          · exact fun b o n q => by
              have nb : b ≠ l := fun z => by rw [z, hlH] at q; cases q
              rw [upd_ne nb]
              exact same_new htp b o (fr3 b o n q)
          · rw [upd_ne nld.symm, upd_ne ntd]; exact hd3
          · rw [List.map_append]
            exact dpa_push (live_cons hl3 (fun p hp z => by
              by_cases e : p = d
              · rw [e, hd3] at z; cases z
              · cases q : H p with
                | none => exact lv p hp q
                | some o => rw [fr3 p o (by simpa using e) q] at z; cases z)) htp hX3 (dpa_ib t o)
    · rintro σ H1 ⟨row, ms, xs, way, since, ever, u1, u2, rfl, hw, s0, hG, hrl, hst, hDm, fr, hd1, hl1, hX⟩
      exact ⟨_, rfl, k row ms l xs H1 hG hrl hDm hlH fr hd1 hl1 hX⟩
end
/-! ### counters -/
/-- what a counter holds: pairs by one of their places -/
structure CS where
  same : Int
  kept : Int
  met : Option Int
  many : Int
  total : Int
  lost : Int
def tells (z : Int) : Int := if z % 4 = 0 then 0 else if z % 4 = 1 then 1 else if z % 4 = 2 then 2 else -1
def seenAs (m : Option Int) (z : Int) : Bool := match m with
  | none => false
  | some m => decide (m % 4 = z % 4)
def manyOf (s : CS) (z : Int) : Int := if seenAs s.met z = true then s.many + 1 else 1
def lookC (s : CS) (z : Int) : CS :=
  if manyOf s z < s.same ∨ s.kept % 4 = z % 4 then { s with met := some z, many := manyOf s z }
  else if (z - s.kept) % 4 = 2 then { s with met := some z, many := manyOf s z, kept := z, lost := s.lost + 1 }
  else { s with met := some z, many := manyOf s z, kept := z, total := s.total + tells (z - s.kept) }
def saysC (s : CS) (z : Int) : Int := if manyOf s z < s.same then 0 else tells (z - s.kept)
def newC (same : Int) : CS := ⟨same, 0, none, 0, 0, 0⟩
def metD : Option Int → PyData
  | none => .none
  | some m => ppD (pr m)
theorem pr_eq {y z : Int} : pr y = pr z ↔ y % 4 = z % 4 := by
  unfold pr
  rcases mod4 y with h | h | h | h <;> rcases mod4 z with h' | h' | h' | h' <;> rw [h, h'] <;> decide
theorem eqv_pp (p q : Int × Int) : PyData.eqv (ppD p) (ppD q) = decide (p = q) := by
  obtain ⟨a, b⟩ := p
  obtain ⟨c, d⟩ := q
  have e : PyData.eqv (ppD (a, b)) (ppD (c, d)) = ((a == c) && ((b == d) && true)) := by simp only [ppD, PyData.eqv, PyData.eqvAll]
  rw [e]
  by_cases h1 : a = c
  · by_cases h2 : b = d
    · subst h1; subst h2; simp
    · have : ¬ ((a, b) = (c, d)) := fun z => h2 (congrArg Prod.snd z)
      rw [decide_eq_false this, beq_eq_false_iff_ne.mpr h2]; simp
  · have : ¬ ((a, b) = (c, d)) := fun z => h1 (congrArg Prod.fst z)
    rw [decide_eq_false this, beq_eq_false_iff_ne.mpr h1]; simp
theorem shaped_pp (p : Int × Int) : SeqAt.shaped (ppD p) = true := by
  obtain ⟨a, b⟩ := p
  rfl
theorem shaped_met (m : Option Int) : SeqAt.shaped (metD m) = true := by
  cases m with
  | none => rfl
  | some m => exact shaped_pp _
theorem eqv_met (m : Option Int) (z : Int) : PyData.eqv (ppD (pr z)) (metD m) = seenAs m z := by
  cases m with
  | none => rfl
  | some m =>
    show PyData.eqv (ppD (pr z)) (ppD (pr m)) = decide (m % 4 = z % 4)
    rw [eqv_pp]
    by_cases h : m % 4 = z % 4
    · rw [decide_eq_true h, decide_eq_true (pr_eq.mpr h.symm)]
    · rw [decide_eq_false h, decide_eq_false (fun e => h (pr_eq.mp e).symm)]
theorem eqv_pr (y z : Int) : PyData.eqv (ppD (pr z)) (ppD (pr y)) = decide (y % 4 = z % 4) := eqv_met (some y) z
def pairsD : List PyData := [ppD (pr 0), ppD (pr 1), ppD (pr 2), ppD (pr 3)]
theorem PairsK.dp {K : PySem.W.Frag} {aP p0 p1 p2 p3 : Addr} (k : PairsK K aP p0 p1 p2 p3) (H : Hp) : Dp K H (.ref aP) (.tuple pairsD) :=
  .tup (k.all H) (.cons (.tup (k.q0 H) (dpa_ii 0 0)) (.cons (.tup (k.q1 H) (dpa_ii 0 1)) (.cons (.tup (k.q2 H) (dpa_ii 1 1)) (.cons (.tup (k.q3 H) (dpa_ii 1 0)) .nil))))
theorem pairs_index (z : Int) : ∃ j : Nat, (j : Int) = z % 4 ∧ pairsD[j]? = some (ppD (pr z)) ∧ ∀ (m : Nat) (z' : PyData), m < j → pairsD[m]? = some z' → PyData.eqv z' (ppD (pr z)) = false := by
  have hp : ∀ y, pr y = pr (y % 4) := fun y => pr_eq.mpr (by omega)
  have hz := mod4 z
  refine ⟨(z % 4).toNat, by omega, ?_, ?_⟩
  · rw [hp z]
    rcases hz with h | h | h | h <;> rw [h] <;> rfl
  · intro m z' hm hz'
    have hq : pairsD[m]? = some (ppD (pr m)) := by
      have : m = 0 ∨ m = 1 ∨ m = 2 ∨ m = 3 := by omega
      rcases this with rfl | rfl | rfl | rfl <;> rfl
    rw [hq] at hz'
    cases hz'
    rw [eqv_pr]
    exact decide_eq_false (by omega)
/-- the counter at p, p among the hidden places -/
def CtrAt (K : PySem.W.Frag) (C : Addr) (ps : List Addr) (H : Hp) (p : Addr) (s : CS) : Prop :=
  ∃ dx kv mv, H p = some (.ins C dx [("same", .int s.same), ("kept", kv), ("met", mv), ("many", .int s.many), ("total", .int s.total), ("lost", .int s.lost)]) ∧ Dp K (Fz ps H) kv (ppD (pr s.kept)) ∧ Dp K (Fz ps H) mv (metD s.met)
theorem CtrAt.frm {K : PySem.W.Frag} {C : Addr} {ps qs : List Addr} {H H' : Hp} {p : Addr} {s : CS} (h : CtrAt K C ps H p s) (e : Same (Fz ps H) (Fz qs H')) (hp : ∀ o, H p = some o → H' p = some o) : CtrAt K C qs H' p s := by
  obtain ⟨dx, kv, mv, h1, h2, h3⟩ := h
  exact ⟨dx, kv, mv, hp _ h1, dp_same e h2, dp_same e h3⟩
/-- a new counter -/
def NewAt (K : PySem.W.Frag) (C : Addr) (H : Hp) (p : Addr) (s : Int) : Prop :=
  ∃ dx kv, H p = some (.ins C dx [("same", .int s), ("kept", kv), ("met", .non), ("many", .int 0), ("total", .int 0), ("lost", .int 0)]) ∧ ∀ H', Dp K H' kv (ppD (pr 0))
theorem NewAt.ctr {K : PySem.W.Frag} {C : Addr} {ps : List Addr} {H : Hp} {p : Addr} {s : Int} (h : NewAt K C H p s) : CtrAt K C ps H p (newC s) := by
  obtain ⟨dx, kv, h1, h2⟩ := h
  exact ⟨dx, kv, .non, h1, h2 _, .non⟩
theorem NewAt.mono {K : PySem.W.Frag} {C : Addr} {H H' : Hp} {p : Addr} {s : Int} (h : NewAt K C H p s) (e : ∀ o, H p = some o → H' p = some o) : NewAt K C H' p s := by
  obtain ⟨dx, kv, h1, h2⟩ := h
  exact ⟨dx, kv, e _ h1, h2⟩
theorem NewAt.live {K : PySem.W.Frag} {C : Addr} {H : Hp} {p : Addr} {s : Int} (h : NewAt K C H p s) : ∃ o, H p = some o := by
  obtain ⟨dx, kv, h1, h2⟩ := h
  exact ⟨_, h1⟩
/-- the class Counter, its attributes -/
structure CtrK (K : PySem.W.Frag) (C : Addr) : Prop where
  cl : Cls K C
  same : NoAttr K C "same"
  kept : NoAttr K C "kept"
  met : NoAttr K C "met"
  many : NoAttr K C "many"
  total : NoAttr K C "total"
  lost : NoAttr K C "lost"
def spNeedReader (K : PySem.W.Frag) : Sp := fun vs H Q _ => ∃ (v : V) (a s : Int), vs = [v] ∧ Dp K H v (knD a s) ∧ 1 ≤ a ∧ a ≤ 6 ∧ 1 ≤ s ∧ s ≤ 3 ∧ Q .non H
def spCtr (K : PySem.W.Frag) (C : Addr) : Sp := fun vs H Q _ => ∃ (x dx : Addr) (v : V) (a s : Int), vs = [.ref x, v] ∧ H x = some (.ins C dx []) ∧ Dp K H v (knD a s) ∧ 1 ≤ a ∧ a ≤ 6 ∧ 1 ≤ s ∧ s ≤ 3 ∧
  ∀ H', Frm [x] H H' → NewAt K C H' x s → Q .non H'
def spLook (K : PySem.W.Frag) (C : Addr) : Sp := fun vs H Q _ => ∃ (p : Addr) (v : V) (s : CS) (z : Int) (ps : List Addr), vs = [.ref p, v] ∧ CtrAt K C ps H p s ∧ p ∈ ps ∧ Dp K (Fz ps H) v (ppD (pr z)) ∧
  ∀ H', Frm [p] H H' → CtrAt K C ps H' p (lookC s z) → Q (.int (saysC s z)) H'
def spCount (K : PySem.W.Frag) (C : Addr) : Sp := fun vs H Q _ => ∃ (p : Addr) (s : CS) (ps : List Addr), vs = [.ref p] ∧ CtrAt K C ps H p s ∧ Q (.int s.total) H
def spMissed (K : PySem.W.Frag) (C : Addr) : Sp := fun vs H Q _ => ∃ (p : Addr) (s : CS) (ps : List Addr), vs = [.ref p] ∧ CtrAt K C ps H p s ∧ Q (.int s.lost) H
section
variable {P : Program} {w : World} {K : PySem.W.Frag} {mg : Str → Option Value} {base : Heap}
theorem sc_need_reader : FnScope ["reader", "apart", "same"] ["reader"] (defScope (top 12)) := ⟨rfl, rfl, rfl, by decide +kernel, rfl, by decide +kernel, by decide +kernel⟩
theorem ok_need_reader {f : Addr} {fd : FuncData} {t1 t2 : Tok} (F : Fun K "need_reader" "need_reader" (top 12) f fd) (g_MOST_APART : mg "MOST_APART" = some (.int 6 t1)) (g_MOST_SAME : mg "MOST_SAME" = some (.int 3 t2)) : FnOk P w K mg base CX0 1 f fd ["reader"] (spNeedReader K) := by
  have sc := sc_need_reader
  refine F.ok sc (fun vs H Q E h => ?_) (fun cdv A outer s H vs Q E hr h => ?_)
  · obtain ⟨v, g, b, rfl, _⟩ := h
    rfl
  · obtain ⟨v, g, b, rfl, hd, g1, g6, b0, b1, k⟩ := h
    obtain ⟨a, rfl, hT⟩ := dp_ii hd
    refine ⟨_, (pss_cons (ps_asg (pv 0) (pg_tup rfl (pgs_cons (pg_name (i := 1) sc.nd rfl (Or.inl rfl)) (pgs_cons (pg_name (i := 2) sc.nd rfl (Or.inl rfl)) pgs_nil))))
(pss_cons (ps_if (pt_not (pt_chain op_le op_le pe_int (pv 1) (pe_glob (v := .int 6) rfl g_MOST_APART ⟨_, rfl⟩)))
(pss_one ps_never)
pss_nil)
(pss_one (ps_if (pt_not (pt_chain op_le op_le pe_int (pv 2) (pe_glob (v := .int 3) rfl g_MOST_SAME ⟨_, rfl⟩)))
(pss_one ps_never)
pss_nil)))), ?_⟩
    refine ⟨_, rfl, a, _, rfl, hT, rfl, _, _, rfl, _, _, rfl, rfl, ?_⟩
    refine ⟨_, rfl, _, _, rfl, rfl, _, rfl, ?_⟩
    rw [decide_eq_true g1]
    refine iteT ⟨_, _, rfl, rfl, _, rfl, ?_⟩
    rw [decide_eq_true g6]
    refine iteF ?_
    refine ⟨_, rfl, _, _, rfl, rfl, _, rfl, ?_⟩
    rw [decide_eq_true b0]
    refine iteT ⟨_, _, rfl, rfl, _, rfl, ?_⟩
    rw [decide_eq_true b1]
    exact iteF k
theorem sc_cinit : FnScope ["self", "reader"] ["self", "reader"] (defScope (inClass (top 18) 0)) := ⟨rfl, rfl, rfl, by decide +kernel, rfl, by decide +kernel, by decide +kernel⟩
theorem ok_cinit {f C a_PAIRS p0 p1 p2 p3 : Addr} {fd : FuncData} (F : Fun K "__init__" "Counter.__init__" (inClass (top 18) 0) f fd) (ck : CtrK K C) (g_PAIRS : mg "PAIRS" = some (.ref a_PAIRS)) (pk : PairsK K a_PAIRS p0 p1 p2 p3)
    (c_need_reader : Cal P w K mg base 1 "need_reader" ["reader"] (spNeedReader K)) : FnOk P w K mg base CX0 2 f fd ["self", "reader"] (spCtr K C) := by
  have sc := sc_cinit
  refine F.ok sc (fun vs H Q E h => ?_) (fun cdv A outer s H vs Q E hr h => ?_)
  · obtain ⟨x, dx, v, a, s, rfl, _⟩ := h
    rfl
  · obtain ⟨x, dx, v, a, sm, rfl, hx, hv, a1, a6, s1, s3, k⟩ := h
    obtain ⟨q, rfl, hT⟩ := dp_ii hv
    refine ⟨_, (pss_cons (ps_expr (pe_cal c_need_reader (hr.mono (by first | decide | omega)) (pa_cons (pv 1) pa_nil)))
(pss_cons (ps_fld (pv 0) (pe_ix (r := rIxT K) ix_tup (pv 1) pe_int (fun _ _ => rfl)) rfl)
(pss_cons (ps_fld (pv 0) (pe_ix (r := rIxT K) ix_tup (pe_glob (v := .ref a_PAIRS) rfl g_PAIRS rfl) pe_int (fun _ _ => rfl)) rfl)
(pss_cons (ps_fld (pv 0) pe_non rfl)
(pss_cons (ps_fld (pv 0) pe_int rfl)
(pss_cons (ps_fld (pv 0) pe_int rfl)
(pss_one (ps_fld (pv 0) pe_int rfl)))))))), ?_⟩
    refine ⟨_, rfl, _, a, sm, rfl, hv, a1, a6, s1, s3, ?_⟩
    refine ⟨_, rfl, q, _, _, _, rfl, rfl, hT, at_of (j := 1) rfl rfl, _, rfl, x, C, dx, _, rfl, hx, ck.cl, ck.same, few 0 rfl, ?_⟩
    refine ⟨a_PAIRS, _, _, .ref p0, rfl, rfl, pk.all _, at_of (j := 0) rfl rfl, _, rfl, x, C, dx, _, rfl, upd_same, ck.cl, ck.kept, few 1 rfl, ?_⟩
    refine ⟨_, rfl, x, C, dx, _, rfl, upd_same, ck.cl, ck.met, few 2 rfl, ?_⟩
    refine ⟨_, rfl, x, C, dx, _, rfl, upd_same, ck.cl, ck.many, few 3 rfl, ?_⟩
    refine ⟨_, rfl, x, C, dx, _, rfl, upd_same, ck.cl, ck.total, few 4 rfl, ?_⟩
    refine ⟨_, rfl, x, C, dx, _, rfl, upd_same, ck.cl, ck.lost, few 5 rfl, ?_⟩
    simp only [upd_upd]
    exact k _ (Frm.set (by simp)) ⟨dx, .ref p0, upd_same, fun _ => .tup (pk.q0 _) (dpa_ii 0 0)⟩
theorem sc_look : FnScope ["self", "pair", "by", "told"] ["self", "pair"] (defScope (inClass (top 18) 1)) := ⟨rfl, rfl, rfl, by decide +kernel, rfl, by decide +kernel, by decide +kernel⟩
theorem ok_look {f C a_PAIRS p0 p1 p2 p3 : Addr} {fd : FuncData} {t1 : Tok} (F : Fun K "look" "Counter.look" (inClass (top 18) 1) f fd) (ck : CtrK K C) (g_PAIRS : mg "PAIRS" = some (.ref a_PAIRS)) (pk : PairsK K a_PAIRS p0 p1 p2 p3) (g_MISSED : mg "MISSED" = some (.int 2 t1)) :
    FnOk P w K mg base CX0 1 f fd ["self", "pair"] (spLook K C) := by
  have sc := sc_look
  refine F.ok sc (fun vs H Q E h => ?_) (fun cdv A outer s H vs Q E hr h => ?_)
  · obtain ⟨x, v, s, z, ps, rfl, _⟩ := h
    rfl
  · obtain ⟨p, v, cs, z, ps, rfl, hc, pps, hv, k⟩ := h
    obtain ⟨dx, kv, mv, hp, hk, hm⟩ := hc
    refine ⟨_, (pss_cons (ps_fld (pv 0) (pe_ifExp (pt_cmpR (r := rEqD K) (op_eqD hr.units) (pv 1) (pe_fldK (K := K) rfl (pv 0)) (nomark _)) (pe_op op_add (pe_fldK (K := K) rfl (pv 0)) pe_int) pe_int) rfl)
(pss_cons (ps_fld (pv 0) (pv 1) rfl)
(pss_cons (ps_if (PW.pt (pw_or (pt_cmpR op_lt (pe_fldK (K := K) rfl (pv 0)) (pe_fldK (K := K) rfl (pv 0)) (nomark _)) (pw_or1 (pt_cmpR (r := rEqD K) (op_eqD hr.units) (pv 1) (pe_fldK (K := K) rfl (pv 0)) (nomark _)))))
(pss_one (ps_ret pe_int))
pss_nil)
(pss_cons (ps_set (i := 2) sc.nd rfl (Or.inl rfl) (pe_op op_mod (pe_op op_sub (pe_bm PySem.F.plainAttrs_tuple PySem.F.slot_tuple_index PySem.F.type_tuple_index (mt_tup_indexD (hu65 hr)) (pe_glob (v := .ref a_PAIRS) rfl g_PAIRS rfl) (pa_cons (pv 1) pa_nil)) (pe_bm PySem.F.plainAttrs_tuple PySem.F.slot_tuple_index PySem.F.type_tuple_index (mt_tup_indexD (hu65 hr)) (pe_glob (v := .ref a_PAIRS) rfl g_PAIRS rfl) (pa_cons (pe_fldK (K := K) rfl (pv 0)) pa_nil))) pe_int))
(pss_cons (ps_fld (pv 0) (pv 1) rfl)
(pss_cons (ps_if (pt_cmpR op_eq (pv 2) pe_int (nomark _))
(pss_cons (ps_fld (pv 0) (pe_op op_add (pe_fldK (K := K) rfl (pv 0)) pe_int) rfl)
(pss_one (ps_ret (pe_glob (v := .int 2) rfl g_MISSED ⟨_, rfl⟩))))
pss_nil)
(pss_cons (ps_set (i := 3) sc.nd rfl (Or.inl rfl) (pe_ifExp (pt_cmpR op_eq (pv 2) pe_int (nomark _)) (pv 2) (pe_un un_neg pe_int)))
(pss_cons (ps_fld (pv 0) (pe_op op_add (pe_fldK (K := K) rfl (pv 0)) (pv 3)) rfl)
(pss_one (ps_ret (pv 3))))))))))), ?_⟩
    have hmany : ∀ {Q : VK}, Q (.int (manyOf cs z)) H → tIf (tTest (tOp (rEqD K) (tVar 1) (tFld K (tVar 0) "met"))) (tOp rAdd (tFld K (tVar 0) "many") (tC (.int 1))) (tC (.int 1)) [some (.ref p), some v, none, none] H Q := by
      intro Q hQ
      refine ⟨_, rfl, _, rfl, p, C, dx, _, _, rfl, hp, ck.cl, ck.met, rfl, _, _, dp_fz hv, dp_fz hm, shaped_pp _, shaped_met _, _, rfl, ?_⟩
      rw [eqv_met]
      unfold manyOf at hQ
      refine iteB (fun e => ?_) (fun e => ?_)
      · rw [if_pos e] at hQ
        exact ⟨_, rfl, p, C, dx, _, _, rfl, hp, ck.cl, ck.many, rfl, _, _, rfl, rfl, hQ⟩
      · rw [if_neg (by rw [e]; decide)] at hQ
        exact hQ
    refine hmany ⟨_, rfl, p, C, dx, _, rfl, hp, ck.cl, ck.many, few 6 rfl, ?_⟩
    refine ⟨_, rfl, _, rfl, p, C, dx, _, rfl, upd_same, ck.cl, ck.met, few 6 rfl, ?_⟩
    rw [upd_upd]
    refine ⟨_, rfl, p, C, dx, _, _, rfl, upd_same, ck.cl, ck.many, rfl, _, rfl, p, C, dx, _, _, rfl, upd_same, ck.cl, ck.same, rfl, _, _, rfl, rfl, _, rfl, ?_⟩
    have fin : ∀ (kv' : V) (kz t l : Int), Dp K (Fz ps H) kv' (ppD (pr kz)) → lookC cs z = ⟨cs.same, kz, some z, manyOf cs z, t, l⟩ →
        Q (.int (saysC cs z)) (upd H p (.ins C dx [("same", .int cs.same), ("kept", kv'), ("met", v), ("many", .int (manyOf cs z)), ("total", .int t), ("lost", .int l)])) := by
      intro kv' kz t l h e
      refine k _ (Frm.set (by simp)) ?_
      rw [e]
      exact ⟨dx, kv', v, upd_same, by rw [fz_set pps]; exact h, by rw [fz_set pps]; exact hv⟩
    have up : ∀ {o : HO} {v' : V} {d : PyData}, Dp K (Fz ps H) v' d → Dp K (upd H p o) v' d := fun {o v' d} h => dp_fz (ps := ps) (by rw [fz_set pps]; exact h)
    have ret0 : (manyOf cs z < cs.same ∨ cs.kept % 4 = z % 4) → Q (.int 0) (upd H p (.ins C dx [("same", .int cs.same), ("kept", kv), ("met", v), ("many", .int (manyOf cs z)), ("total", .int cs.total), ("lost", .int cs.lost)])) := by
      intro c
      have q := fin kv cs.kept cs.total cs.lost hk (if_pos c)
      have e : saysC cs z = 0 := by
        unfold saysC
        by_cases c1 : manyOf cs z < cs.same
        · exact if_pos c1
        · have c2 := c.resolve_left c1
          rw [if_neg c1]
          exact if_pos (by omega)
      rw [e] at q
      exact q
    refine iteD (fun c1 => ret0 (.inl c1)) (fun c1 => ?_)
    refine ⟨_, rfl, _, rfl, p, C, dx, _, _, rfl, upd_same, ck.cl, ck.kept, rfl, _, _, up hv, up hk, shaped_pp _, shaped_pp _, _, rfl, ?_⟩
    rw [eqv_pr]
    refine iteD (fun c2 => ret0 (.inr c2)) (fun c2 => ?_)
    obtain ⟨j1, e1, h1, n1⟩ := pairs_index z
    obtain ⟨j2, e2, h2, n2⟩ := pairs_index cs.kept
    refine ⟨.inr (.inl ⟨rfl, pk.ty⟩), _, rfl, a_PAIRS, _, _, _, j1, _, rfl, rfl, pk.dp _, up hv, rfl, shaped_pp _, h1, (by rw [eqv_pr]; exact decide_eq_true rfl), n1, ?_⟩
    refine ⟨.inr (.inl ⟨rfl, pk.ty⟩), _, rfl, p, C, dx, _, _, rfl, upd_same, ck.cl, ck.kept, rfl, a_PAIRS, _, _, _, j2, _, rfl, rfl, pk.dp _, up hk, rfl, shaped_pp _, h2, (by rw [eqv_pr]; exact decide_eq_true rfl), n2, ?_⟩
    refine ⟨_, _, rfl, rfl, _, _, rfl, rfl, (by show (0 : Int) < 4; decide), ?_⟩
    have e3 : ((j1 : Int) - (j2 : Int)) % 4 = (z - cs.kept) % 4 := by omega
    refine ⟨_, rfl, _, rfl, p, C, dx, _, rfl, upd_same, ck.cl, ck.kept, few 6 rfl, ?_⟩
    rw [upd_upd]
    have nn : ¬ (manyOf cs z < cs.same ∨ cs.kept % 4 = z % 4) := fun h => h.elim c1 c2
    have says : saysC cs z = tells (z - cs.kept) := if_neg c1
    refine ⟨_, rfl, rfl, _, rfl, ?_⟩
    by_cases c3 : ((j1 : Int) - (j2 : Int)) % 4 = 2
    · refine iteDT (vint_eq c3) ?_
      rw [e3] at c3
      refine ⟨_, rfl, p, C, dx, _, _, rfl, upd_same, ck.cl, ck.lost, rfl, _, _, rfl, rfl, _, rfl, p, C, dx, _, rfl, upd_same, ck.cl, ck.lost, few 6 rfl, ?_⟩
      rw [upd_upd]
      have q := fin v z cs.total (cs.lost + 1) hv (by unfold lookC; rw [if_neg nn, if_pos c3])
      rw [says, show tells (z - cs.kept) = 2 by unfold tells; rw [c3]; decide] at q
      exact q
    · refine iteDF (vint_ne c3) ?_
      refine ⟨_, rfl, rfl, _, rfl, ?_⟩
      by_cases c4 : ((j1 : Int) - (j2 : Int)) % 4 = 1
      · have tl : tells (z - cs.kept) = ((j1 : Int) - (j2 : Int)) % 4 := by unfold tells; rw [← e3, c4]; decide
        have q := fin v z (cs.total + tells (z - cs.kept)) cs.lost hv (by unfold lookC; rw [if_neg nn, if_neg (by rw [← e3]; exact c3)])
        rw [says, tl] at q
        refine iteDT (vint_eq c4) ⟨_, rfl, _, rfl, p, C, dx, _, _, rfl, upd_same, ck.cl, ck.total, rfl, _, rfl, _, _, rfl, rfl, _, rfl, p, C, dx, _, rfl, upd_same, ck.cl, ck.total, few 6 rfl, _, rfl, ?_⟩
        rw [upd_upd]
        exact q
      · have c5 : (z - cs.kept) % 4 = 3 := by omega
        have q := fin v z (cs.total + tells (z - cs.kept)) cs.lost hv (by unfold lookC; rw [if_neg nn, if_neg (by rw [← e3]; exact c3)])
        rw [says, show tells (z - cs.kept) = -1 by unfold tells; rw [c5]; decide] at q
        refine iteDF (vint_ne c4) ⟨_, rfl, _, rfl, p, C, dx, _, _, rfl, upd_same, ck.cl, ck.total, rfl, _, rfl, _, _, rfl, rfl, _, rfl, p, C, dx, _, rfl, upd_same, ck.cl, ck.total, few 6 rfl, _, rfl, ?_⟩
        rw [upd_upd]
        exact q
theorem sc_count : FnScope ["self"] ["self"] (defScope (inClass (top 18) 2)) := ⟨rfl, rfl, rfl, by decide +kernel, rfl, by decide +kernel, by decide +kernel⟩
theorem ok_count {f C : Addr} {fd : FuncData} (F : Fun K "count" "Counter.count" (inClass (top 18) 2) f fd) (ck : CtrK K C) : FnOk P w K mg base CX0 1 f fd ["self"] (spCount K C) := by
  have sc := sc_count
  refine F.ok sc (fun vs H Q E h => ?_) (fun cdv A outer s H vs Q E hr h => ?_)
  · obtain ⟨x, s, ps, rfl, _⟩ := h
    rfl
  · obtain ⟨p, cs, ps, rfl, ⟨dx, kv, mv, hp, _, _⟩, k⟩ := h
    exact ⟨_, (pss_one (ps_ret (pe_fldK (K := K) rfl (pv 0)))), _, rfl, p, C, dx, _, _, rfl, hp, ck.cl, ck.total, rfl, k⟩
theorem sc_missed : FnScope ["self"] ["self"] (defScope (inClass (top 18) 3)) := ⟨rfl, rfl, rfl, by decide +kernel, rfl, by decide +kernel, by decide +kernel⟩
theorem ok_missed {f C : Addr} {fd : FuncData} (F : Fun K "missed" "Counter.missed" (inClass (top 18) 3) f fd) (ck : CtrK K C) : FnOk P w K mg base CX0 1 f fd ["self"] (spMissed K C) := by
  have sc := sc_missed
  refine F.ok sc (fun vs H Q E h => ?_) (fun cdv A outer s H vs Q E hr h => ?_)
  · obtain ⟨x, s, ps, rfl, _⟩ := h
    rfl
  · obtain ⟨p, cs, ps, rfl, ⟨dx, kv, mv, hp, _, _⟩, k⟩ := h
    exact ⟨_, (pss_one (ps_ret (pe_fldK (K := K) rfl (pv 0)))), _, rfl, p, C, dx, _, _, rfl, hp, ck.cl, ck.lost, rfl, k⟩
end
/-! ### a reader -/
def spReader : Sp := fun vs H Q _ => ∃ (d : Addr) (ns : List Int), vs = [.ref d] ∧ H d = some (.lst (ns.map V.int)) ∧ Dice ns ∧
  ∀ (a s : Int) (ms : List Int) (p : Addr), 1 ≤ a → a ≤ 6 → 1 ≤ s → s ≤ 3 → Dice ms → H p = none → Q (.ref p) (upd (upd H d (.lst (ms.map V.int))) p (.tup [.int a, .int s]))
section
variable {P : Program} {w : World} {K : PySem.W.Frag} {mg : Str → Option Value} {base : Heap}
theorem sc_reader : FnScope ["_law_d"] ["_law_d"] (defScope (top 25)) := ⟨rfl, rfl, rfl, by decide +kernel, rfl, by decide +kernel, by decide +kernel⟩
theorem ok_reader {f : Addr} {fd : FuncData} (F : Fun K "_law_reader" "_law_reader" (top 25) f fd) (c__law_off : Cal P w K mg base 1 "_law_off" ["_law_d", "_law_most"] spOff) : FnOk P w K mg base CX0 2 f fd ["_law_d"] spReader := by
  have sc := sc_reader
  refine F.ok sc (fun vs H Q E h => ?_) (fun cdv A outer s H vs Q E hr h => ?_)
  · obtain ⟨d, ns, rfl, _⟩ := h
    rfl
  · obtain ⟨d, ns, rfl, hd, hD, k⟩ := h
    refine ⟨_, (pss_one (ps_ret (pe_tup (pa_cons (pe_op op_add pe_int (pe_cal c__law_off (hr.mono (by first | decide | omega)) (pa_cons (pv 0) (pa_cons pe_int pa_nil)))) (pa_cons (pe_op op_add pe_int (pe_cal c__law_off (hr.mono (by first | decide | omega)) (pa_cons (pv 0) (pa_cons pe_int pa_nil)))) pa_nil))))), ?_⟩
    refine ⟨_, rfl, d, ns, 6, rfl, hd, hD, by decide, by decide, fun v ms v0 v1 hD1 => ?_⟩
    refine ⟨_, _, rfl, rfl, _, rfl, d, ms, 3, rfl, upd_same, hD1, by decide, by decide, fun u ms2 u0 u1 hD2 => ?_⟩
    refine ⟨_, _, rfl, rfl, (by show 2 ≤ sizeLine; decide), fun p hp => ?_⟩
    rw [upd_upd] at hp ⊢
    exact k (1 + v) (1 + u) ms2 p (by omega) (by omega) (by omega) (by omega) hD2 (by
      have n : p ≠ d := fun z => by rw [z, upd_same] at hp; cases hp
      rw [upd_ne n] at hp; exact hp)
end
/-! ### the last looks, all alike by 4 -/
def LastSame (k : Nat) (l : List Int) : Prop := k ≤ l.length ∧ ∀ x ∈ l.drop (l.length - k), x % 4 = (l.getLast?.getD 0) % 4
instance (k : Nat) (l : List Int) : Decidable (LastSame k l) := by unfold LastSame; infer_instance
/-- a counter that saw these places, in order -/
structure Saw (l : List Int) (s : CS) : Prop where
  met : s.met = l.getLast?
  many : ∀ k : Nat, 1 ≤ k → ((k : Int) ≤ s.many ↔ LastSame k l)
theorem saw_new (n : Int) : Saw [] (newC n) := ⟨rfl, fun k hk => by
  constructor
  · intro h
    have : (k : Int) ≤ 0 := h
    omega
  · intro h
    have := h.1
    simp at this
    omega⟩
theorem lastSame_snoc {l : List Int} {z : Int} {k : Nat} (hk : 1 ≤ k) : LastSame (k + 1) (l ++ [z]) ↔ LastSame k l ∧ seenAs l.getLast? z = true := by
  unfold LastSame
  rw [List.length_append, List.length_singleton, show l.length + 1 - (k + 1) = l.length - k by omega]
  cases e : l.getLast? with
  | none =>
    have : l = [] := List.getLast?_eq_none_iff.mp e
    subst this
    simp [seenAs]
    omega
  | some y =>
    have hy : y ∈ l.drop (l.length - k) ∨ l.length < k := by
      by_cases h : l.length < k
      · exact .inr h
      · refine .inl ?_
        have hne : l ≠ [] := fun z => by rw [z] at e; cases e
        have hpos := List.length_pos_iff.mpr hne
        have h2 : (l.drop (l.length - k)).getLast? = some y := by
          rw [List.getLast?_drop, if_neg (by omega)]
          exact e
        exact List.mem_of_getLast? h2
    rw [List.drop_append_of_le_length (by omega), List.getLast?_append]
    simp only [List.getLast?_singleton, Option.some_or, Option.getD_some, List.mem_append, List.mem_singleton, seenAs, decide_eq_true_eq]
    constructor
    · rintro ⟨h1, h2⟩
      have hl : k ≤ l.length := by omega
      have hyz := h2 y (.inl (hy.resolve_right (by omega)))
      exact ⟨⟨hl, fun x hx => (h2 x (.inl hx)).trans hyz.symm⟩, hyz⟩
    · rintro ⟨⟨h1, h2⟩, h3⟩
      refine ⟨by omega, fun x hx => ?_⟩
      rcases hx with hx | rfl
      · exact (h2 x hx).trans h3
      · rfl
theorem lastSame_one {l : List Int} {z : Int} : LastSame 1 (l ++ [z]) := by
  unfold LastSame
  rw [List.length_append, List.length_singleton, Nat.add_sub_cancel]
  refine ⟨by omega, fun x hx => ?_⟩
  simp at hx
  simp [hx]
theorem Saw.many_snoc {l : List Int} {s : CS} (h : Saw l s) (z : Int) (k : Nat) (hk : 1 ≤ k) : (k : Int) ≤ manyOf s z ↔ LastSame k (l ++ [z]) := by
  unfold manyOf
  rw [h.met]
  match k, hk with
  | 1, _ =>
    refine ⟨fun _ => lastSame_one, fun _ => ?_⟩
    by_cases c : seenAs l.getLast? z = true
    · rw [if_pos c]
      have : 1 ≤ l.length := by
        cases l with
        | nil => simp [seenAs] at c
        | cons _ _ => simp
      have h1 := (h.many 1 (Nat.le_refl _)).mpr (by
        obtain ⟨l', y, e⟩ : ∃ l' y, l = l' ++ [y] := ⟨l.dropLast, l.getLast (by intro z; rw [z] at this; simp at this), (List.dropLast_concat_getLast _).symm⟩
        rw [e]; exact lastSame_one)
      omega
    · rw [if_neg c]; omega
  | k + 2, _ =>
    rw [lastSame_snoc (by omega)]
    by_cases c : seenAs l.getLast? z = true
    · rw [if_pos c, ← h.many (k + 1) (by omega)]
      constructor
      · intro q; exact ⟨by omega, c⟩
      · intro q; have := q.1; omega
    · rw [if_neg c]
      constructor
      · intro q; omega
      · intro q; exact (c q.2).elim
theorem look_met (s : CS) (z : Int) : (lookC s z).met = some z := by unfold lookC; split <;> (try split) <;> rfl
theorem look_many (s : CS) (z : Int) : (lookC s z).many = manyOf s z := by unfold lookC; split <;> (try split) <;> rfl
theorem look_same (s : CS) (z : Int) : (lookC s z).same = s.same := by unfold lookC; split <;> (try split) <;> rfl
theorem Saw.look {l : List Int} {s : CS} (h : Saw l s) (z : Int) : Saw (l ++ [z]) (lookC s z) := by
  refine ⟨by rw [look_met]; simp, fun k hk => ?_⟩
  rw [look_many]
  exact h.many_snoc z k hk
/-- what is told of the last looks -/
def toldOf (same : Nat) (l : List Int) (bel : Int) : Int := if LastSame same l then tells (l.getLast?.getD 0 - bel) else 0
theorem tells_mod {y z : Int} (h : y % 4 = z % 4) : tells y = tells z := by unfold tells; rw [h]
theorem Saw.says {l : List Int} {s : CS} (h : Saw l s) (z : Int) (k : Nat) (hk : 1 ≤ k) (hs : s.same = k) : saysC s z = toldOf k (l ++ [z]) s.kept := by
  unfold saysC toldOf
  have q := h.many_snoc z k hk
  rw [hs]
  by_cases c : LastSame k (l ++ [z])
  · rw [if_neg (by have := q.mpr c; omega), if_pos c]
    simp
  · rw [if_pos (Int.not_le.mp fun w => c (q.mp w)), if_neg c]
theorem look_next (s : CS) (z : Int) : (lookC s z).kept = (if saysC s z ≠ 0 then z else s.kept) ∧ (lookC s z).total = s.total + (if saysC s z ≠ 2 then saysC s z else 0) ∧ (lookC s z).lost = s.lost + (if saysC s z = 2 then 1 else 0) := by
  unfold lookC saysC
  by_cases c1 : manyOf s z < s.same
  · rw [if_pos (Or.inl c1), if_pos c1]; simp
  · rw [if_neg c1]
    by_cases c2 : s.kept % 4 = z % 4
    · have : tells (z - s.kept) = 0 := if_pos (by omega)
      rw [if_pos (Or.inr c2), this]; simp
    · rw [if_neg (by intro h; exact h.elim c1 c2)]
      unfold tells
      rw [if_neg (show ¬ (z - s.kept) % 4 = 0 by omega)]
      by_cases c3 : (z - s.kept) % 4 = 2
      · rw [if_pos c3, if_neg (show ¬ (z - s.kept) % 4 = 1 by omega), if_pos c3]; simp
      · rw [if_neg c3]
        by_cases c4 : (z - s.kept) % 4 = 1
        · rw [if_pos c4]; simp
        · rw [if_neg c4, if_neg c3]; simp
/-! ### slices, lists of ints as data -/
theorem cut_from {xs : List V} {i : Int} (h : 0 ≤ i) : cutV xs (some i) none = xs.drop i.toNat := by
  unfold cutV
  obtain ⟨n, rfl⟩ := Int.eq_ofNat_of_zero_le h
  rw [show (some (n : Int)) = some ((n : Nat) : Int) from rfl, HT.sIx_nat, HT.sIx_none, Int.toNat_natCast]
  by_cases q : n ≤ xs.length
  · rw [Nat.min_eq_left q, List.take_of_length_le (by rw [List.length_drop]; omega)]
  · rw [Nat.min_eq_right (by omega), Nat.sub_self, List.take_zero, List.drop_eq_nil_of_le (by omega)]
theorem cut_last {xs : List V} {i : Int} (h : 0 < i) : cutV xs (some (0 - i)) none = xs.drop (xs.length - i.toNat) := by
  unfold cutV
  have e : HT.sIx xs.length 0 (some (0 - i)) = xs.length - i.toNat := by
    show (if (0 - i) < 0 then ((0 - i) + (xs.length : Int)).toNat else _) = _
    rw [if_pos (by omega)]; omega
  rw [e, HT.sIx_none, List.take_of_length_le (by rw [List.length_drop]; omega)]
theorem cut_to {xs : List V} {i : Int} (h : 0 ≤ i) : cutV xs none (some i) = xs.take i.toNat := by
  unfold cutV
  obtain ⟨n, rfl⟩ := Int.eq_ofNat_of_zero_le h
  rw [show (some (n : Int)) = some ((n : Nat) : Int) from rfl, HT.sIx_nat, HT.sIx_none, Int.toNat_natCast, Nat.sub_zero, List.drop_zero]
  by_cases q : n ≤ xs.length
  · rw [Nat.min_eq_left q]
  · rw [Nat.min_eq_right (by omega), List.take_of_length_le (by omega), List.take_of_length_le (by omega)]
theorem cut_mid {xs : List V} {i j : Int} (h : 0 ≤ i) (hj : 0 ≤ j) : cutV xs (some i) (some j) = (xs.drop i.toNat).take (j.toNat - i.toNat) := by
  unfold cutV
  obtain ⟨n, rfl⟩ := Int.eq_ofNat_of_zero_le h
  obtain ⟨m, rfl⟩ := Int.eq_ofNat_of_zero_le hj
  rw [show (some (n : Int)) = some ((n : Nat) : Int) from rfl, show (some (m : Int)) = some ((m : Nat) : Int) from rfl, HT.sIx_nat, HT.sIx_nat, Int.toNat_natCast, Int.toNat_natCast]
  by_cases q : n ≤ xs.length
  · rw [Nat.min_eq_left q]
    by_cases q2 : m ≤ xs.length
    · rw [Nat.min_eq_left q2]
    · rw [Nat.min_eq_right (by omega), List.take_of_length_le (by rw [List.length_drop]; omega), List.take_of_length_le (by rw [List.length_drop]; omega)]
  · rw [show min n xs.length = xs.length by omega, List.drop_eq_nil_of_le (Nat.le_refl _), List.drop_eq_nil_of_le (show xs.length ≤ n by omega)]; simp
theorem nest_ints {ns : List Int} (h : ns.length ≤ 1000) : Nest 1 (.list (ns.map PyData.int)) := by
  refine ⟨by rw [List.length_map]; exact h, fun d hd => ?_⟩
  obtain ⟨m, _, rfl⟩ := List.mem_map.mp hd
  trivial
theorem eqv_nil (ds : List PyData) : PyData.eqv (.list ds) (.list []) = ds.isEmpty := by
  cases ds with
  | nil => rfl
  | cons d ds => rfl
theorem dp_ints {K : PySem.W.Frag} {H : Hp} {a : Addr} {ns : List Int} (h : SqL K H a (ns.map V.int)) : Dp K H (.ref a) (.list (ns.map PyData.int)) := .lst h (dpa_ints ns)
theorem dp_nilL {K : PySem.W.Frag} {H : Hp} {a : Addr} (h : SqL K H a []) : Dp K H (.ref a) (.list []) := .lst h .nil
/-! ### which moments are looks; what a run tells -/
def nlk (i a : Nat) : Nat := (i + a - 1) / a
theorem nlk_step {a i : Nat} (h1 : 1 ≤ a) (h6 : a ≤ 6) : (i % a = 0 → nlk (i + 1) a = nlk i a + 1 ∧ nlk i a * a = i) ∧ (i % a ≠ 0 → nlk (i + 1) a = nlk i a) := by
  unfold nlk
  have : a = 1 ∨ a = 2 ∨ a = 3 ∨ a = 4 ∨ a = 5 ∨ a = 6 := by omega
  rcases this with rfl | rfl | rfl | rfl | rfl | rfl <;> omega
theorem nlk_lt {a i j : Nat} (h1 : 1 ≤ a) (h6 : a ≤ 6) : j < nlk i a ↔ j * a < i := by
  unfold nlk
  have : a = 1 ∨ a = 2 ∨ a = 3 ∨ a = 4 ∨ a = 5 ∨ a = 6 := by omega
  rcases this with rfl | rfl | rfl | rfl | rfl | rfl <;> omega
theorem nlk_le {a i : Nat} (h1 : 1 ≤ a) (h6 : a ≤ 6) : nlk i a ≤ i := by
  unfold nlk
  have : a = 1 ∨ a = 2 ∨ a = 3 ∨ a = 4 ∨ a = 5 ∨ a = 6 := by omega
  rcases this with rfl | rfl | rfl | rfl | rfl | rfl <;> omega
def lkf (f : Nat → Int) (j : Nat) : List Int := (List.range j).map f
theorem lkf_succ (f : Nat → Int) (j : Nat) : lkf f (j + 1) = lkf f j ++ [f j] := by
  unfold lkf
  rw [List.range_succ, List.map_append]
  rfl
theorem lkf_length (f : Nat → Int) (j : Nat) : (lkf f j).length = j := by unfold lkf; simp
/-- where the knob is seen at moment i -/
def seenAt (row : List Mv) (i : Nat) : Int := ((plcs row)[i]?.getD (0, 0)).2
def lookAt (row : List Mv) (a : Nat) (j : Nat) : Int := seenAt row (j * a)
def runS (s : CS) (zs : List Int) : CS := zs.foldl lookC s
theorem runS_snoc (s : CS) (zs : List Int) (z : Int) : runS s (zs ++ [z]) = lookC (runS s zs) z := by
  unfold runS
  rw [List.foldl_append]
  rfl
def tolds (s : CS) : List Int → List Int
  | [] => []
  | z :: r => saysC s z :: tolds (lookC s z) r
theorem tolds_snoc (z : Int) : ∀ (zs : List Int) (s : CS), tolds s (zs ++ [z]) = tolds s zs ++ [saysC (runS s zs) z]
  | [], _ => rfl
  | y :: r, s => by
    show saysC s y :: tolds (lookC s y) (r ++ [z]) = _
    rw [tolds_snoc z r]
    rfl
theorem tolds_length : ∀ (zs : List Int) (s : CS), (tolds s zs).length = zs.length
  | [], _ => rfl
  | _ :: r, s => congrArg (· + 1) (tolds_length r _)
/-- all that a run looks at -/
def runL (row : List Mv) (a : Nat) : List Int := lkf (lookAt row a) (nlk row.length a)
theorem runS_same (s : CS) : ∀ zs : List Int, (runS s zs).same = s.same := by
  intro zs
  induction zs generalizing s with
  | nil => rfl
  | cons z r ih => exact (ih (lookC s z)).trans (look_same s z)
theorem saw_run (s : CS) (l : List Int) (h : Saw l s) : ∀ zs : List Int, Saw (l ++ zs) (runS s zs) := by
  intro zs
  induction zs generalizing s l with
  | nil => rw [List.append_nil]; exact h
  | cons z r ih =>
    have := ih (lookC s z) (l ++ [z]) (h.look z)
    rw [List.append_assoc] at this
    exact this
theorem tells_two (z : Int) : tells z = 0 ∨ tells z = 1 ∨ tells z = 2 ∨ tells z = -1 := by unfold tells; split <;> (try split) <;> (try split) <;> simp
/-- the sums of what is told -/
theorem sums_run (s : CS) : ∀ zs : List Int, (runS s zs).total = s.total + (tolds s zs).sum - 2 * ((tolds s zs).count 2 : Nat) ∧ (runS s zs).lost = s.lost + ((tolds s zs).count 2 : Nat) := by
  intro zs
  induction zs generalizing s with
  | nil => constructor <;> simp [runS, tolds]
  | cons z r ih =>
    obtain ⟨h1, h2⟩ := ih (lookC s z)
    obtain ⟨_, e2, e3⟩ := look_next s z
    show (runS (lookC s z) r).total = s.total + (saysC s z :: tolds (lookC s z) r).sum - 2 * ((saysC s z :: tolds (lookC s z) r).count 2 : Nat) ∧ (runS (lookC s z) r).lost = s.lost + ((saysC s z :: tolds (lookC s z) r).count 2 : Nat)
    rw [h1, h2, e2, e3, List.sum_cons, List.count_cons]
    by_cases c : saysC s z = 2
    · rw [if_neg (by simp [c]), if_pos c, c]; simp; omega
    · rw [if_pos c, if_neg c, if_neg (by simp [c])]; omega
/-! ### run -/
def spRun (K : PySem.W.Frag) : Sp := fun vs H Q _ => ∃ (v r u : V) (g b a s : Int) (row : List Mv), vs = [v, r, u] ∧ Dp K H v (knD g b) ∧ 1 ≤ g ∧ g ≤ 6 ∧ 0 ≤ b ∧ b ≤ g ∧ Dp K H r (knD a s) ∧ 1 ≤ a ∧ a ≤ 6 ∧ 1 ≤ s ∧ s ≤ 3 ∧ Dp K H u (rowD row) ∧ Good g b row ∧
  ∀ (p l : Addr) (H' : Hp), H p = none → H l = none → Same H H' → H' p = some (.tup [.ref l, .int (runS (newC s) (runL row a.toNat)).total, .int (runS (newC s) (runL row a.toNat)).lost]) →
    H' l = some (.lst ((tolds (newC s) (runL row a.toNat)).map V.int)) → Q (.ref p) H'
section
variable {P : Program} {w : World} {K : PySem.W.Frag} {mg : Str → Option Value} {base : Heap}
theorem sc_run : FnScope ["knob", "reader", "row", "counter", "told", "at", "here", "seen"] ["knob", "reader", "row"] (defScope (top 19)) := ⟨rfl, rfl, rfl, by decide +kernel, rfl, by decide +kernel, by decide +kernel⟩
set_option maxHeartbeats 1000000 in
theorem ok_run {f C a_PAIRS p0 p1 p2 p3 : Addr} {fd : FuncData} (F : Fun K "run" "run" (top 19) f fd) (ck : CtrK K C) (g_PAIRS : mg "PAIRS" = some (.ref a_PAIRS)) (pk : PairsK K a_PAIRS p0 p1 p2 p3) (n_enumerate : mg "enumerate" = none)
    (c_need_knob : Cal P w K mg base 1 "need_knob" ["knob"] (spNeedKnob K)) (c_need_reader : Cal P w K mg base 1 "need_reader" ["reader"] (spNeedReader K)) (c_need_row : Cal P w K mg base 1 "need_row" ["knob", "row"] (spNeedRow K)) (c_positions : Cal P w K mg base 1 "positions" ["row"] (spPos K))
    (m_Counter : Mkr P w K mg base 2 C "Counter" ["self", "reader"] (spCtr K C)) (m_look : Mtd P w K mg base 1 C "look" ["self", "pair"] (spLook K C)) (m_count : Mtd P w K mg base 1 C "count" ["self"] (spCount K C)) (m_missed : Mtd P w K mg base 1 C "missed" ["self"] (spMissed K C)) :
    FnOk P w K mg base CX0 4 f fd ["knob", "reader", "row"] (spRun K) := by
  have sc := sc_run
  have cl := ck.cl
  refine F.ok sc (fun vs H Q E h => ?_) (fun cdv A outer s H vs Q E hr h => ?_)
  · obtain ⟨v, r, u, g, b, a, s, row, rfl, _⟩ := h
    rfl
  · obtain ⟨v, r, u, g, b, a, sm, row, rfl, hkn, g1, g6, b0, b1, hrd, a1, a6, s1, s3, hrow, hG, k⟩ := h
    obtain ⟨an, rfl⟩ := Int.eq_ofNat_of_zero_le (show 0 ≤ a by omega)
    have han : (an : Int).toNat = an := Int.toNat_natCast an
    rw [han] at k
    have hl200 := hG.len
    refine ⟨_, (pss_cons (ps_expr (pe_cal c_need_knob (hr.mono (by first | decide | omega)) (pa_cons (pv 0) pa_nil)))
(pss_cons (ps_expr (pe_cal c_need_reader (hr.mono (by first | decide | omega)) (pa_cons (pv 1) pa_nil)))
(pss_cons (ps_expr (pe_cal c_need_row (hr.mono (by first | decide | omega)) (pa_cons (pv 0) (pa_cons (pv 2) pa_nil))))
(pss_cons (ps_set (i := 3) sc.nd rfl (Or.inl rfl) (pe_mkr m_Counter (hr.mono (by first | decide | omega)) (pa_cons (pv 1) pa_nil)))
(pss_cons (ps_set (i := 4) sc.nd rfl (Or.inl rfl) (pe_lst pa_nil))
(pss_cons (ps_for PassesOwn.never rfl (pi_enum (by rfl) n_enumerate (pa_cons (pe_cal c_positions (hr.mono (by first | decide | omega)) (pa_cons (pv 2) pa_nil)) pa_nil)) (pg_tup rfl (pgs_cons (pg_name (i := 5) sc.nd rfl (Or.inl rfl)) (pgs_cons (pg_tup rfl (pgs_cons (pg_name (i := 6) sc.nd rfl (Or.inl rfl)) (pgs_cons (pg_name (i := 7) sc.nd rfl (Or.inl rfl)) pgs_nil))) pgs_nil)))
(pss_one (ps_if (pt_cmpR op_eq (pe_op op_mod (pv 5) (pe_ix (r := rIxT K) ix_tup (pv 1) pe_int (fun _ _ => rfl))) pe_int (nomark _))
(pss_one (ps_expr (pe_bm PySem.F.plainAttrs_list PySem.F.slot_list_append PySem.F.type_list_append mt_append (pv 4) (pa_cons (pe_mtd m_look cl (hr.mono (by first | decide | omega)) (pv 3) (pa_cons (pe_ix (r := rIxT K) ix_tup (pe_glob (v := .ref a_PAIRS) rfl g_PAIRS rfl) (pe_op op_mod (pv 7) pe_int) (fun _ _ => rfl)) pa_nil)) pa_nil))))
pss_nil)))
(pss_one (ps_ret (pe_tup (pa_cons (pv 4) (pa_cons (pe_mtd0 m_count cl (hr.mono (by first | decide | omega)) (pv 3)) (pa_cons (pe_mtd0 m_missed cl (hr.mono (by first | decide | omega)) (pv 3)) pa_nil)))))))))))), ?_⟩
    refine ⟨_, rfl, v, g, b, rfl, hkn, g1, g6, b0, b1, ?_⟩
    refine ⟨_, rfl, r, an, sm, rfl, hrd, a1, a6, s1, s3, ?_⟩
    refine ⟨_, rfl, _, rfl, v, u, g, b, row, rfl, hkn, hrow, hG, fun H1 s1' => ?_⟩
    -- the counter
    refine ⟨_, rfl, fun c dx hc hdx nec => ?_⟩
    have sA : Same H1 (upd (upd H1 dx (.own c)) c (.ins C dx [])) := (same_new hdx).trans (same_new (by rw [upd_ne nec.symm]; exact hc))
    refine ⟨c, dx, r, an, sm, rfl, upd_same, dp_same (s1'.trans sA) hrd, a1, a6, s1, s3, fun H2 fr2 hct2 => ⟨rfl, ?_⟩⟩
    have s12 : Same H1 H2 := fun b o e => fr2 b o (by simpa using ne_of_none e hc) (sA b o e)
    refine ⟨Nat.zero_le _, fun t ht => ?_⟩
    have st := same_new ht (o := .lst [])
    obtain ⟨oc, hoc⟩ := hct2.live
    have nct : c ≠ t := ne_of_none hoc ht
    -- the positions
    have hcH : H c = none := s1'.free hc
    have htH : H t = none := (s1'.trans s12).free ht
    refine ⟨_, rfl, u, row, [t, c], rfl, live_cons upd_same (live_cons (st _ _ hoc) live_nil), dp_same (same_fz (by simp [hcH, htH]) ((s1'.trans s12).trans st)) hrow, by omega, fun l xs H3 hl s3' hxl hX => ?_⟩
    have hcl : c ≠ l := ne_of_none (st _ _ hoc) hl
    have htl : t ≠ l := ne_of_none upd_same hl
    have xl : xs.length = row.length := by rw [dpa_length hX, List.length_map, plcs_length]
    obtain ⟨q, rfl, hrT⟩ := dp_ii hrd
    have sH3 : Same H H3 := ((s1'.trans s12).trans st).trans s3'
    have same_of : ∀ {H' : Hp}, Frm [c, t] H3 H' → Same H H' := fun {H'} fr b o e => fr b o (by
      intro hm
      simp only [List.mem_cons, List.not_mem_nil, or_false] at hm
      rcases hm with rfl | rfl
      · rw [hcH] at e; cases e
      · rw [htH] at e; cases e) (sH3 b o e)
    refine ⟨l, xs, rfl, SqL.of hxl, for_it (walk_enum (xs := xs)) (fun i σ H' => ∃ v5 v6 v7, σ = [some v, some (.ref q), some u, some (.ref c), some (.ref t), v5, v6, v7] ∧ Frm [c, t] H3 H' ∧
        H' t = some (.lst ((tolds (newC sm) (lkf (lookAt row an) (nlk i an))).map V.int)) ∧ CtrAt K C [c, t] H' c (runS (newC sm) (lkf (lookAt row an) (nlk i an)))) ?_ ?_ ?_ ?_⟩
    · have e0 : nlk 0 an = 0 := by have := nlk_le (i := 0) (a := an) (by omega) (by omega); omega
      rw [e0]
      exact ⟨none, none, none, rfl, Frm.refl, s3' _ _ upd_same, (hct2.mono ((st.trans s3') _)).ctr⟩
    · rintro i σ H' _ ⟨_, _, _, _, fr, _⟩
      exact SqL.of (fr _ _ (by simp [hcl.symm, htl.symm]) hxl)
    · rintro i x σ H4 H5 hi ⟨v5, v6, v7, rfl, fr4, ht4, hc4⟩ ⟨T, y, z, rfl, hT0, rfl, hy, hz⟩
      cases hy
      have sT := same_new hT0 (o := .tup [.int ((i : Nat) : Int), z])
      obtain ⟨⟨h0, se⟩, hm, hz2⟩ := dpa_map_at hX hz
      have hzz : Dp K H4 z (ppD (h0, se)) := dp_fz (dp_same (Frm.fz (Frm.mono (qs := [l, t, c]) (by intro x hx; simp at hx ⊢; rcases hx with h | h <;> simp [h]) fr4)) hz2)
      obtain ⟨qz, rfl, hq⟩ := dp_ii (dp_same sT hzz)
      have hcT : H4 c ≠ none := by obtain ⟨_, _, _, e, _⟩ := hc4; rw [e]; simp
      have ncT : c ≠ T := fun e => hcT (by rw [e]; exact hT0)
      have hc5 : CtrAt K C [c, t] (upd H4 T (.tup [.int ((i : Nat) : Int), .ref qz])) c (runS (newC sm) (lkf (lookAt row an) (nlk i an))) := hc4.frm (fz_mono sT) (sT _)
      have ht5 := sT _ _ ht4
      have fr5 : Frm [c, t] H3 (upd H4 T (.tup [.int ((i : Nat) : Int), .ref qz])) := fr4.trans (Frm.of_same sT)
      have hT5 : (upd H4 T (.tup [.int ((i : Nat) : Int), .ref qz])) T = some (.tup [.int ((i : Nat) : Int), .ref qz]) := upd_same
      revert hc5 ht5 fr5 hq hT5
      generalize upd H4 T (.tup [.int ((i : Nat) : Int), .ref qz]) = H5
      intro hq hc5 ht5 fr5 hT5
      have hil : i < row.length := by omega
      have e1 : lookAt row an (nlk i an) = se ∨ i % an ≠ 0 := by
        by_cases c : i % an = 0
        · left
          unfold lookAt seenAt
          rw [((nlk_step (by omega) (by omega)).1 c).2, hm]
          rfl
        · exact .inr c
      refine ⟨T, _, rfl, SqT.of hT5, rfl, _, _, rfl, _, _, rfl, qz, _, rfl, hq, rfl, _, _, rfl, _, _, rfl, rfl, rfl, ?_⟩
      refine ⟨_, rfl, _, rfl, q, _, _, _, rfl, rfl, same_seqT (same_of fr5) hrT, at_of (j := 0) rfl rfl, _, _, rfl, rfl, (by show (0 : Int) < (an : Int); omega), rfl, _, rfl, ?_⟩
      by_cases cm : i % an = 0
      · have ez : ((i : Nat) : Int) % (an : Int) = 0 := by have := Int.natCast_emod i an; rw [← this, cm]; rfl
        have hse := e1.resolve_right (fun z => z cm)
        obtain ⟨pp, hp1, hp2⟩ := pk.at se
        obtain ⟨dxc, kvc, mvc, hcc, _⟩ := id hc5
        have hlen : (lkf (lookAt row an) (nlk i an)).length ≤ 200 := by rw [lkf_length]; have := nlk_le (i := i) (a := an) (by omega) (by omega); omega
        refine iteDT (vint_eq ez) ⟨_, rfl, .inl ⟨rfl, _, SqL.of ht5⟩, _, rfl, c, dxc, _, rfl, hcc, rfl, _, rfl, _, _, rfl, rfl, (by show (0 : Int) < 4; decide), a_PAIRS, _, _, .ref pp, rfl, rfl, pk.all _, hp1, ?_⟩
        refine ⟨c, .ref pp, _, se, [c, t], rfl, hc5, by simp, hp2 _, fun H6 fr6 hc6 => ?_⟩
        have ht6 := fr6 _ _ (by simpa using nct.symm) ht5
        refine ⟨t, _, _, rfl, rfl, ht6, small1000 (by rw [List.length_map, tolds_length]; omega), _, _, _, rfl, ?_, ?_, ?_⟩
        · exact (fr5.trans (Frm.mono (by simp) fr6)).trans (Frm.set (by simp))
        · rw [upd_same, ((nlk_step (by omega) (by omega)).1 cm).1, lkf_succ, tolds_snoc, hse, List.map_append]; rfl
        · rw [((nlk_step (by omega) (by omega)).1 cm).1, lkf_succ, runS_snoc, hse]
          exact hc6.frm (by rw [fz_set (by simp)]; exact Same.refl _) fun o ho => by rw [upd_ne nct]; exact ho
      · have ez : ¬ ((i : Nat) : Int) % (an : Int) = 0 := by have := Int.natCast_emod i an; omega
        refine iteDF (vint_ne ez) ⟨_, _, _, rfl, fr5, ?_, ?_⟩
        · rw [(nlk_step (by omega) (by omega)).2 cm]; exact ht5
        · rw [(nlk_step (by omega) (by omega)).2 cm]; exact hc5
    · rintro σ H4 ⟨v5, v6, v7, rfl, fr4, ht4, hc4⟩
      rw [xl] at ht4 hc4
      obtain ⟨dxc, kvc, mvc, hcc, _⟩ := id hc4
      refine ⟨_, rfl, _, rfl, c, dxc, _, rfl, hcc, rfl, c, _, [c, t], rfl, hc4, _, rfl, c, dxc, _, rfl, hcc, rfl, c, _, [c, t], rfl, hc4, (by show 3 ≤ sizeLine; decide), fun p hp => ?_⟩
      have sp := same_new hp (o := .tup [.ref t, .int (runS (newC sm) (lkf (lookAt row an) (nlk row.length an))).total, .int (runS (newC sm) (lkf (lookAt row an) (nlk row.length an))).lost])
      exact k p t _ ((same_of fr4).free hp) htH ((same_of fr4).trans sp) upd_same (sp _ _ ht4)
end
/-! ### shown -/
def shD (row : List Mv) : List PyData := (plcs row).map fun q => ppD (pr q.2)
def spShown (K : PySem.W.Frag) : Sp := fun vs H Q _ => ∃ (v u : V) (g b : Int) (row : List Mv) (ps : List Addr), vs = [v, u] ∧ Live ps H ∧ Dp K (Fz ps H) v (knD g b) ∧ 1 ≤ g ∧ g ≤ 6 ∧ 0 ≤ b ∧ b ≤ g ∧ Dp K (Fz ps H) u (rowD row) ∧ Good g b row ∧
  ∀ (p : Addr) (xs : List V) (H' : Hp), H p = none → Same H H' → H' p = some (.lst xs) → DpAll K (Fz (p :: ps) H') xs (shD row) → Q (.ref p) H'
section
variable {P : Program} {w : World} {K : PySem.W.Frag} {mg : Str → Option Value} {base : Heap}
theorem sc_shown : FnScope ["knob", "row", "here", "seen"] ["knob", "row"] (defScope (top 15)) := ⟨rfl, rfl, rfl, by decide +kernel, rfl, by decide +kernel, by decide +kernel⟩
theorem ok_shown {f a_PAIRS p0 p1 p2 p3 : Addr} {fd : FuncData} (F : Fun K "shown" "shown" (top 15) f fd) (g_PAIRS : mg "PAIRS" = some (.ref a_PAIRS)) (pk : PairsK K a_PAIRS p0 p1 p2 p3)
    (c_need_knob : Cal P w K mg base 1 "need_knob" ["knob"] (spNeedKnob K)) (c_need_row : Cal P w K mg base 1 "need_row" ["knob", "row"] (spNeedRow K)) (c_positions : Cal P w K mg base 1 "positions" ["row"] (spPos K)) :
    FnOk P w K mg base CX0 2 f fd ["knob", "row"] (spShown K) := by
  have sc := sc_shown
  refine F.ok sc (fun vs H Q E h => ?_) (fun cdv A outer s H vs Q E hr h => ?_)
  · obtain ⟨v, u, g, b, row, ps, rfl, _⟩ := h
    rfl
  · obtain ⟨v, u, g, b, row, ps, rfl, lv, hkn, g1, g6, b0, b1, hrow, hG, k⟩ := h
    refine ⟨_, (pss_cons (ps_expr (pe_cal c_need_knob (hr.mono (by first | decide | omega)) (pa_cons (pv 0) pa_nil)))
(pss_cons (ps_expr (pe_cal c_need_row (hr.mono (by first | decide | omega)) (pa_cons (pv 0) (pa_cons (pv 1) pa_nil))))
(pss_one (ps_ret (pe_lc (own := [("here", 2), ("seen", 3)]) (g := gTup K 2 (gCons (gName 2) (gCons (gName 3) gNil))) rfl sc.nd (pi_list (pe_cal c_positions (hr.mono (by first | decide | omega)) (pa_cons (pv 1) pa_nil))) (blkOk_by (own := [("here", 2), ("seen", 3)]) (N := ["knob", "row", "here", "seen"]) (sc := defScope (top 15)) (by decide +kernel)) (fun _ _ _ _ _ => (pg_tup rfl (pgs_cons (pg_name (i := 2) sc.nd rfl (Or.inl rfl)) (pgs_cons (pg_name (i := 3) sc.nd rfl (Or.inl rfl)) pgs_nil)))) (fun _ _ _ _ _ => pts_nil) (fun _ _ _ _ _ => (pe_ix (r := rIxT K) ix_tup (pe_glob (v := .ref a_PAIRS) rfl g_PAIRS rfl) (pe_op op_mod (pv 3) pe_int) (fun _ _ => rfl)))))))), ?_⟩
    refine ⟨_, rfl, v, g, b, rfl, dp_fz hkn, g1, g6, b0, b1, ?_⟩
    refine ⟨_, rfl, _, rfl, v, u, g, b, row, rfl, dp_fz hkn, dp_fz hrow, hG, fun H1 s1 => ?_⟩
    refine ⟨_, rfl, u, row, ps, rfl, lv.mono s1, dp_same (fz_mono s1) hrow, Nat.le_trans hG.len (by decide), fun l xs H2 hl s2 hxl hX => ?_⟩
    have hxn : xs.length ≤ 200 := by rw [dpa_length hX, List.length_map, plcs_length]; exact hG.len
    have xl : xs.length = (plcs row).length := by rw [dpa_length hX, List.length_map]
    refine ⟨l, rfl, ⟨xs, SqL.of hxl⟩, fun D hD => lc_it (walk_list (xs := xs)) (fun i H' => ∃ acc, Same H2 H' ∧ H' D = some (.lst acc) ∧ acc.length = i ∧ DpAll K (Fz (D :: ps) H') acc ((shD row).take i))
      ⟨[], same_new hD, upd_same, rfl, .nil⟩ (fun i H' _ ⟨_, e, _⟩ => SqL.of (e _ _ hxl)) ?_ ?_⟩
    · rintro i x H3 H4 hi ⟨acc, s3, hd3, hal, hA⟩ ⟨rfl, hx⟩
      obtain ⟨⟨h0, se⟩, hm, hz⟩ := dpa_map_at hX hx
      obtain ⟨q, rfl, hq⟩ := dp_ii (dp_same s3 (dp_fz hz))
      obtain ⟨p, hp1, hp2⟩ := pk.at se
      refine ⟨q, _, rfl, hq, rfl, _, _, rfl, _, _, rfl, rfl, rfl, ?_⟩
      refine ⟨_, rfl, _, _, rfl, rfl, (by show (0 : Int) < 4; decide), a_PAIRS, _, _, .ref p, rfl, rfl, pk.all _, hp1, acc, hd3, small1000 (by omega), acc ++ [.ref p], same_put hD s3, upd_same, by rw [List.length_append, List.length_singleton, hal], ?_⟩
      have e1 : (shD row)[i]? = some (ppD (pr se)) := by
        unfold shD
        rw [List.getElem?_map, hm]
        rfl
      rw [take_snoc e1]
      exact dpa_put hA (hp2 _)
    · rintro H3 ⟨acc, s3, hd3, hal, hA⟩
      have e2 : (shD row).take xs.length = shD row := List.take_of_length_le (by unfold shD; rw [List.length_map]; omega)
      rw [e2] at hA
      exact k D acc H3 ((s1.trans s2).free hD) ((s1.trans s2).trans s3) hd3 hA
end
/-! ### turned about; rest ahead -/
def negM (m : Mv) : Mv := (0 - m.1, m.2)
def negR (row : List Mv) : List Mv := row.map negM
theorem rst_neg (g : Int) (row : List Mv) : rst g (negR row) = rst g row := by
  unfold rst negR
  rw [List.foldl_map]
  have : (fun x y => stp g x (negM y)) = stp g := by
    funext s m
    unfold stp negM
    by_cases h : m.1 = 0
    · simp [h]
    · have h' : ¬ (0 - m.1) = 0 := by omega
      simp only [h, h', if_false, ne_eq, not_false_iff, decide_true, decide_not, decide_false, Bool.not_false]
  rw [this]
theorem good_neg {g b : Int} {row : List Mv} (h : Good g b row) : Good g b (negR row) := by
  refine ⟨by unfold negR; rw [List.length_map]; exact h.len, fun i m hm => ?_⟩
  unfold negR at hm
  rw [List.getElem?_map] at hm
  cases e : row[i]? with
  | none => rw [e] at hm; cases hm
  | some m0 =>
    rw [e] at hm
    cases hm
    have ok := h.ok i m0 e
    have et : (negR row).take i = negR (row.take i) := by unfold negR; rw [List.map_take]
    rw [et, rst_neg]
    refine ⟨?_, ?_, ?_⟩
    · show 0 - m0.1 = -1 ∨ 0 - m0.1 = 0 ∨ 0 - m0.1 = 1
      have := ok.turn; omega
    · intro hn
      exact ok.soon (by intro z; exact hn (by show 0 - m0.1 = 0; omega))
    · intro ho
      obtain ⟨h1, h2⟩ := ok.old ho
      show _ ∧ (if 0 - m0.1 = 0 then _ else _) < b
      refine ⟨h1.imp id (fun z w => z (by have : 0 - m0.1 = 0 := w; omega)), ?_⟩
      by_cases c : m0.1 = 0
      · rw [if_pos c] at h2; rw [if_pos (by omega)]; exact h2
      · rw [if_neg c] at h2; rw [if_neg (by omega)]; exact h2
theorem pas_neg (row : List Mv) : pas (negR row) = (0 - (pas row).1, 0 - (pas row).2) := by
  unfold pas negR
  rw [List.foldl_map]
  have key : ∀ (l : List Mv) (s : Int × Int), l.foldl (fun x y => pst x (negM y)) (0 - s.1, 0 - s.2) = (0 - (l.foldl pst s).1, 0 - (l.foldl pst s).2) := by
    intro l
    induction l with
    | nil => intro s; rfl
    | cons m r ih =>
      intro s
      rw [List.foldl_cons, List.foldl_cons]
      have : pst (0 - s.1, 0 - s.2) (negM m) = (0 - (pst s m).1, 0 - (pst s m).2) := by
        unfold pst negM
        by_cases h : m.1 = 0
        · simp [h]
        · have h' : ¬ (0 - m.1) = 0 := by omega
          simp only [h, h', if_false]
          exact Prod.ext (by show 0 - s.1 + (0 - m.1) = 0 - (s.1 + m.1); omega) rfl
      rw [this]
      exact ih _
  exact key row (0, 0)
theorem plcs_neg (row : List Mv) : plcs (negR row) = (plcs row).map fun p => (0 - p.1, 0 - p.2) := by
  unfold plcs
  rw [List.map_map, show (negR row).length = row.length by unfold negR; simp]
  refine List.map_congr_left fun i hi => ?_
  have hi : i < row.length := List.mem_range.mp hi
  have e : (negR row)[i]? = some (negM row[i]) := by unfold negR; rw [List.getElem?_map, List.getElem?_eq_getElem hi]; rfl
  have et : (negR row).take (i + 1) = negR (row.take (i + 1)) := by unfold negR; rw [List.map_take]
  simp only [Function.comp, e, et, pas_neg, List.getElem?_eq_getElem hi]
  unfold seenOf negM
  cases row[i].2 with
  | true => simp only [if_true]; exact Prod.ext rfl (by show (0 - (pas (row.take (i + 1))).1) - (0 - (pas (row.take (i + 1))).2) = 0 - ((pas (row.take (i + 1))).1 - (pas (row.take (i + 1))).2); omega)
  | false => rfl
def mirC (s : CS) : CS := ⟨s.same, 0 - s.kept, s.met.map (0 - ·), s.many, 0 - s.total, s.lost⟩
def mirT (t : Int) : Int := if t ≠ 2 then 0 - t else t
theorem tells_neg (z : Int) : tells (0 - z) = mirT (tells z) := by
  unfold tells mirT
  rcases mod4 z with h | h | h | h
  · rw [h, show (0 - z) % 4 = 0 by omega]; decide
  · rw [h, show (0 - z) % 4 = 3 by omega]; decide
  · rw [h, show (0 - z) % 4 = 2 by omega]; decide
  · rw [h, show (0 - z) % 4 = 1 by omega]; decide
theorem many_mir (s : CS) (z : Int) : manyOf (mirC s) (0 - z) = manyOf s z := by
  unfold manyOf
  have : seenAs (mirC s).met (0 - z) = seenAs s.met z := by
    show seenAs (s.met.map (0 - ·)) (0 - z) = _
    cases s.met with
    | none => rfl
    | some m =>
      show decide ((0 - m) % 4 = (0 - z) % 4) = decide (m % 4 = z % 4)
      by_cases h : m % 4 = z % 4
      · rw [decide_eq_true h, decide_eq_true (by omega)]
      · rw [decide_eq_false h, decide_eq_false (by omega)]
  rw [this]
  rfl
theorem says_mir (s : CS) (z : Int) : saysC (mirC s) (0 - z) = mirT (saysC s z) := by
  unfold saysC
  rw [many_mir]
  show (if manyOf s z < s.same then 0 else tells (0 - z - (0 - s.kept))) = _
  rw [show 0 - z - (0 - s.kept) = 0 - (z - s.kept) by omega, tells_neg]
  split
  · rfl
  · rfl
theorem look_mir (s : CS) (z : Int) : lookC (mirC s) (0 - z) = mirC (lookC s z) := by
  unfold lookC
  rw [many_mir]
  show (if manyOf s z < s.same ∨ (0 - s.kept) % 4 = (0 - z) % 4 then _ else if (0 - z - (0 - s.kept)) % 4 = 2 then _ else _) = _
  by_cases c : manyOf s z < s.same ∨ s.kept % 4 = z % 4
  · rw [if_pos (c.imp id fun h => by omega), if_pos c]; rfl
  · rw [if_neg (fun h => c (h.imp id fun q => by omega)), if_neg c]
    by_cases c2 : (z - s.kept) % 4 = 2
    · rw [if_pos (by omega), if_pos c2]; rfl
    · rw [if_neg (by omega), if_neg c2]
      show (⟨s.same, 0 - z, some (0 - z), manyOf s z, 0 - s.total + tells (0 - z - (0 - s.kept)), s.lost⟩ : CS) = ⟨s.same, 0 - z, some (0 - z), manyOf s z, 0 - (s.total + tells (z - s.kept)), s.lost⟩
      rw [show 0 - z - (0 - s.kept) = 0 - (z - s.kept) by omega, tells_neg]
      have : tells (z - s.kept) ≠ 2 := by
        unfold tells
        split
        · decide
        · split
          · decide
          · first | decide | (rw [if_neg c2]; decide)
      unfold mirT
      rw [if_pos this]
      congr 1
      omega
theorem run_mir : ∀ (zs : List Int) (s : CS), runS (mirC s) (zs.map (0 - ·)) = mirC (runS s zs) ∧ tolds (mirC s) (zs.map (0 - ·)) = (tolds s zs).map mirT
  | [], _ => ⟨rfl, rfl⟩
  | z :: r, s => by
    obtain ⟨h1, h2⟩ := run_mir r (lookC s z)
    rw [← look_mir] at h1 h2
    refine ⟨h1, ?_⟩
    show saysC (mirC s) (0 - z) :: tolds (lookC (mirC s) (0 - z)) (r.map (0 - ·)) = mirT (saysC s z) :: _
    rw [says_mir, h2]
theorem seen_neg (row : List Mv) (i : Nat) : seenAt (negR row) i = 0 - seenAt row i := by
  unfold seenAt
  rw [plcs_neg, List.getElem?_map]
  cases (plcs row)[i]? with
  | none => rfl
  | some p => rfl
theorem runL_neg (row : List Mv) (a : Nat) : runL (negR row) a = (runL row a).map (0 - ·) := by
  unfold runL lkf
  rw [show (negR row).length = row.length by unfold negR; simp, List.map_map]
  refine List.map_congr_left fun j _ => ?_
  show lookAt (negR row) a j = 0 - lookAt row a j
  exact seen_neg row _
theorem pr_neg (z : Int) : pr (0 - z) = ((pr z).2, (pr z).1) := by
  unfold pr
  rcases mod4 z with h | h | h | h
  · rw [h, show (0 - z) % 4 = 0 by omega]; rfl
  · rw [h, show (0 - z) % 4 = 3 by omega]; rfl
  · rw [h, show (0 - z) % 4 = 2 by omega]; rfl
  · rw [h, show (0 - z) % 4 = 1 by omega]; rfl
theorem shD_neg (row : List Mv) : shD (negR row) = (plcs row).map fun q => ppD ((pr q.2).2, (pr q.2).1) := by
  unfold shD
  rw [plcs_neg, List.map_map]
  refine List.map_congr_left fun q _ => ?_
  show ppD (pr (0 - q.2)) = _
  rw [pr_neg]
/-! rest ahead -/
def rest (n : Nat) : List Mv := List.replicate n (0, false)
theorem rst_rest (g : Int) (row : List Mv) : ∀ n, rst g (rest n ++ row) = rst g row
  | 0 => rfl
  | n + 1 => by
    show (rest n ++ row).foldl (stp g) (stp g (g, false) (0, false)) = _
    have : stp g (g, false) (0, false) = (g, false) := by
      unfold stp
      refine Prod.ext ?_ rfl
      show min g ((if (0 : Int) = 0 then g else 0) + 1) = g
      rw [if_pos rfl]; omega
    rw [this]
    exact rst_rest g row n
theorem good_rest {g b : Int} {row : List Mv} {n : Nat} (h : Good g b row) (hl : n + row.length ≤ 200) : Good g b (rest n ++ row) := by
  have hr : ∀ i, i ≤ n → rst g ((rest n ++ row).take i) = (g, false) := fun i hi => by
    rw [List.take_append_of_le_length (by unfold rest; simp; exact hi)]
    unfold rest
    rw [List.take_replicate, Nat.min_eq_left hi]
    have := rst_rest g [] i
    rw [List.append_nil] at this
    exact this
  refine ⟨by rw [List.length_append]; unfold rest; rw [List.length_replicate]; exact hl, fun i m hm => ?_⟩
  by_cases c : i < n
  · rw [List.getElem?_append_left (by unfold rest; simpa using c)] at hm
    unfold rest at hm
    rw [List.getElem?_replicate, if_pos c] at hm
    cases hm
    rw [hr i (by omega)]
    exact ⟨.inr (.inl rfl), fun z => (z rfl).elim, fun z => Bool.noConfusion z⟩
  · rw [List.getElem?_append_right (by unfold rest; simp; omega)] at hm
    have e : (rest n).length = n := by unfold rest; simp
    rw [e] at hm
    have := h.ok _ m hm
    rw [List.take_append, List.take_of_length_le (by rw [e]; omega), e, rst_rest]
    exact this
theorem pas_rest (row : List Mv) : ∀ n, pas (rest n ++ row) = pas row
  | 0 => rfl
  | n + 1 => pas_rest row n
theorem seen_rest {row : List Mv} {n i : Nat} : seenAt (rest n ++ row) (n + i) = seenAt row i := by
  unfold seenAt
  by_cases c : i < row.length
  · have e : (rest n).length = n := by unfold rest; simp
    have h1 : (plcs row)[i]? = some (seenOf (pas (row.take (i + 1))) row[i].2) := by
      unfold plcs
      rw [List.getElem?_map, List.getElem?_range c, Option.map_some, List.getElem?_eq_getElem c]
    have h2 : (plcs (rest n ++ row))[n + i]? = some (seenOf (pas (row.take (i + 1))) row[i].2) := by
      unfold plcs
      have hl : n + i < (rest n ++ row).length := by rw [List.length_append, e]; omega
      rw [List.getElem?_map, List.getElem?_range hl, Option.map_some, List.getElem?_append_right (by rw [e]; omega), e, show n + i - n = i by omega, List.getElem?_eq_getElem c]
      show some (seenOf (pas ((rest n ++ row).take (n + i + 1))) row[i].2) = _
      rw [List.take_append, List.take_of_length_le (by rw [e]; omega), e, show n + i + 1 - n = i + 1 by omega, pas_rest]
    rw [h1, h2]
  · have q1 : (plcs row)[i]? = none := List.getElem?_eq_none (by rw [plcs_length]; omega)
    have q2 : (plcs (rest n ++ row))[n + i]? = none := List.getElem?_eq_none (by rw [plcs_length, List.length_append]; unfold rest; rw [List.length_replicate]; omega)
    rw [q1, q2]
theorem seen_rest0 {row : List Mv} {n i : Nat} (h : i < n) : seenAt (rest n ++ row) i = 0 := by
  unfold seenAt
  have e : (rest n).length = n := by unfold rest; simp
  have h2 : (plcs (rest n ++ row))[i]? = some (seenOf (pas (rest (i + 1))) false) := by
    unfold plcs
    have hl : i < (rest n ++ row).length := by rw [List.length_append, e]; omega
    rw [List.getElem?_map, List.getElem?_range hl, Option.map_some, List.getElem?_append_left (by rw [e]; exact h)]
    have hg : (rest n)[i]? = some (0, false) := by unfold rest; rw [List.getElem?_replicate, if_pos h]
    rw [hg]
    show some (seenOf (pas ((rest n ++ row).take (i + 1))) false) = _
    rw [List.take_append_of_le_length (by rw [e]; omega)]
    unfold rest
    rw [List.take_replicate, Nat.min_eq_left (by omega)]
  rw [h2]
  show (pas (rest (i + 1))).1 = 0
  have := pas_rest [] (i + 1)
  rw [List.append_nil] at this
  rw [this]
  rfl
theorem nlk_rest {a n : Nat} (h1 : 1 ≤ a) (h6 : a ≤ 6) : nlk (a + n) a = nlk n a + 1 := by
  unfold nlk
  have : a = 1 ∨ a = 2 ∨ a = 3 ∨ a = 4 ∨ a = 5 ∨ a = 6 := by omega
  rcases this with rfl | rfl | rfl | rfl | rfl | rfl <;> omega
theorem runL_rest {row : List Mv} {a : Nat} (h1 : 1 ≤ a) (h6 : a ≤ 6) : runL (rest a ++ row) a = 0 :: runL row a := by
  unfold runL lkf
  rw [show (rest a ++ row).length = a + row.length by rw [List.length_append]; unfold rest; simp, nlk_rest h1 h6, List.range_succ_eq_map, List.map_cons, List.map_map]
  congr 1
  · show seenAt (rest a ++ row) (0 * a) = 0
    exact seen_rest0 (by omega)
  · refine List.map_congr_left fun j _ => ?_
    show seenAt (rest a ++ row) ((j + 1) * a) = seenAt row (j * a)
    rw [Nat.succ_mul, Nat.add_comm]
    exact seen_rest
/-- two counters that are alike but for looks at the first place -/
def Alk (s t : CS) : Prop := s = t ∨ (s.same = t.same ∧ s.kept = t.kept ∧ s.total = t.total ∧ s.lost = t.lost ∧ s.kept % 4 = 0 ∧ (∀ m, s.met = some m → m % 4 = 0) ∧ ∀ m, t.met = some m → m % 4 = 0)
theorem many_far {s : CS} {z : Int} (h : ∀ m, s.met = some m → m % 4 = 0) (hz : z % 4 ≠ 0) : manyOf s z = 1 := by
  unfold manyOf
  refine if_neg ?_
  cases e : s.met with
  | none => simp [seenAs]
  | some m =>
    have := h m e
    simp [seenAs]
    omega
theorem alk_look {s t : CS} (h : Alk s t) (z : Int) : Alk (lookC s z) (lookC t z) ∧ saysC s z = saysC t z := by
  rcases h with rfl | ⟨h1, h2, h3, h4, h5, h6, h7⟩
  · exact ⟨.inl rfl, rfl⟩
  · by_cases c : z % 4 = 0
    · refine ⟨.inr ?_, ?_⟩
      · unfold lookC
        rw [if_pos (.inr (by omega)), if_pos (.inr (by omega))]
        exact ⟨h1, h2, h3, h4, h5, fun m e => by cases e; exact c, fun m e => by cases e; exact c⟩
      · have e : ∀ u : CS, u.kept % 4 = 0 → saysC u z = 0 := fun u hu => by
          unfold saysC
          split
          · rfl
          · exact if_pos (by omega)
        rw [e s h5, e t (by rw [← h2]; exact h5)]
    · have m1 := many_far h6 c
      have m2 := many_far h7 c
      refine ⟨.inl ?_, ?_⟩
      · unfold lookC
        rw [m1, m2, h1, h2, h3, h4]
      · unfold saysC
        rw [m1, m2, h1, h2]
theorem alk_run : ∀ (zs : List Int) {s t : CS}, Alk s t → tolds s zs = tolds t zs ∧ (runS s zs).total = (runS t zs).total ∧ (runS s zs).lost = (runS t zs).lost
  | [], s, t, h => by
    rcases h with rfl | ⟨_, _, h3, h4, _⟩
    · exact ⟨rfl, rfl, rfl⟩
    · exact ⟨rfl, h3, h4⟩
  | z :: r, s, t, h => by
    obtain ⟨h1, h2⟩ := alk_look h z
    obtain ⟨q1, q2, q3⟩ := alk_run r h1
    refine ⟨?_, q2, q3⟩
    show saysC s z :: _ = saysC t z :: _
    rw [h2, q1]
theorem run_rest {s : Int} (zs : List Int) : tolds (newC s) (0 :: zs) = 0 :: tolds (newC s) zs ∧ (runS (newC s) (0 :: zs)).total = (runS (newC s) zs).total ∧ (runS (newC s) (0 :: zs)).lost = (runS (newC s) zs).lost := by
  have h0 : saysC (newC s) 0 = 0 := by
    unfold saysC
    split
    · rfl
    · rfl
  have hA : Alk (lookC (newC s) 0) (newC s) := by
    refine .inr ?_
    unfold lookC
    rw [if_pos (.inr rfl)]
    exact ⟨rfl, rfl, rfl, rfl, rfl, fun m e => by cases e; rfl, fun m e => by cases e⟩
  obtain ⟨q1, q2, q3⟩ := alk_run zs hA
  refine ⟨?_, q2, q3⟩
  show saysC (newC s) 0 :: _ = _
  rw [h0, q1]
/-! ### the law -/
def spLaw (K : PySem.W.Frag) : Sp := fun vs H Q _ => ∃ (a : Addr) (ns : List Int), vs = [.ref a] ∧ SqL K H a (ns.map V.int) ∧ ns.length ≤ 63 ∧ ∀ H', Q (.bl true) H'
theorem dpa_rest {K : PySem.W.Frag} {H : Hp} {v : V} (h : Dp K H v (mvD (0, false))) : ∀ n : Nat, DpAll K H (List.replicate n [v]).flatten ((rest n).map mvD)
  | 0 => .nil
  | n + 1 => by
    rw [List.replicate_succ, List.flatten_cons]
    exact .cons h (dpa_rest h n)
def runD (t : List Int) (c m : Int) : PyData := .tuple [.list (t.map PyData.int), .int c, .int m]
theorem nest_run {t : List Int} {c m : Int} (h : t.length ≤ 1000) : Nest 2 (runD t c m) := by
  refine ⟨by show 3 ≤ 1000; decide, fun d hd => ?_⟩
  simp only [List.mem_cons, List.not_mem_nil, or_false] at hd
  rcases hd with rfl | rfl | rfl
  · exact nest_ints h
  · trivial
  · trivial
theorem dp_run {K : PySem.W.Frag} {H : Hp} {p l : Addr} {t : List Int} {c m : Int} (h : H p = some (.tup [.ref l, .int c, .int m])) (hl : H l = some (.lst (t.map V.int))) : Dp K H (.ref p) (runD t c m) :=
  .tup (SqT.of h) (.cons (dp_ints (SqL.of hl)) (.cons (.int _) (.cons (.int _) .nil)))
section
variable {P : Program} {w : World} {K : PySem.W.Frag} {mg : Str → Option Value} {base : Heap}
theorem sc_law : FnScope ["_law_script", "_law_d", "_law_knob_here", "_law_reader_here", "_law_turn", "_law_row_here", "_law_other", "_law_told", "_law_count", "_law_missed", "_law_found", "_law_later", "_law_way", "_law_old", "_law_pair", "_law_one"] ["_law_script"] (defScope (top 27)) := ⟨rfl, rfl, rfl, by decide +kernel, rfl, by decide +kernel, by decide +kernel⟩
set_option maxHeartbeats 4000000 in
theorem ok_law {f : Addr} {fd : FuncData} (F : Fun K "law" "law" (top 27) f fd) (n_range : mg "range" = none) (n_int : mg "int" = none)
    (c__law_dice : Cal P w K mg base 1 "_law_dice" ["_law_script", "_law_k"] (spDice K)) (c__law_off : Cal P w K mg base 1 "_law_off" ["_law_d", "_law_most"] spOff) (c__law_knob : Cal P w K mg base 2 "_law_knob" ["_law_d"] spKnob) (c__law_reader : Cal P w K mg base 2 "_law_reader" ["_law_d"] spReader)
    (c__law_row : Cal P w K mg base 2 "_law_row" ["_law_d", "_law_knob_here", "_law_many"] (spRow K)) (c__law_alike : Cal P w K mg base 4 "_law_alike" ["_law_found", "_law_due"] (spAlike K 3)) (c_run : Cal P w K mg base 4 "run" ["knob", "reader", "row"] (spRun K)) (c_shown : Cal P w K mg base 2 "shown" ["knob", "row"] (spShown K)) : FnOk P w K mg base CX0 5 f fd ["_law_script"] (spLaw K) := by
  have sc := sc_law
  refine F.ok sc (fun vs H Q E h => ?_) (fun cdv A outer s H vs Q E hr h => ?_)
  · obtain ⟨a, ns, rfl, _⟩ := h
    rfl
  · obtain ⟨sa, ns, rfl, hS, hlen, k⟩ := h
    refine ⟨_, (pss_cons (ps_set (i := 1) sc.nd rfl (Or.inl rfl) (pe_cal c__law_dice (hr.mono (by first | decide | omega)) (pa_cons (pv 0) (pa_cons pe_int pa_nil))))
(pss_cons (ps_par (i := 2) (j := 3) (by rfl) sc.nd rfl rfl (by decide) rfl rfl (pa_cons (pe_cal c__law_knob (hr.mono (by first | decide | omega)) (pa_cons (pv 1) pa_nil)) (pa_cons (pe_cal c__law_reader (hr.mono (by first | decide | omega)) (pa_cons (pv 1) pa_nil)) pa_nil)) (by rfl))
(pss_cons (ps_for PassesOwn.never rfl (pi_range1 rfl n_range (pa_cons pe_int pa_nil)) (pg_name (i := 4) sc.nd rfl (Or.inl rfl))
(pss_cons (ps_set (i := 5) sc.nd rfl (Or.inl rfl) (pe_cal c__law_row (hr.mono (by first | decide | omega)) (pa_cons (pv 1) (pa_cons (pv 2) (pa_cons (pe_cal c__law_off (hr.mono (by first | decide | omega)) (pa_cons (pv 1) (pa_cons pe_int pa_nil))) pa_nil)))))
(pss_cons (ps_setLc (i := 6) (own := [("_law_way", 12), ("_law_old", 13)]) (g := gTup K 2 (gCons (gName 12) (gCons (gName 13) gNil))) rfl sc.nd rfl rfl (sw_true rfl rfl rfl (by decide +kernel)) (pi_list (pv 5)) (blkOk_by (own := [("_law_way", 12), ("_law_old", 13)]) (N := ["_law_script", "_law_d", "_law_knob_here", "_law_reader_here", "_law_turn", "_law_row_here", "_law_other", "_law_told", "_law_count", "_law_missed", "_law_found", "_law_later", "_law_way", "_law_old", "_law_pair", "_law_one"]) (sc := defScope (top 27)) (by decide +kernel)) (fun _ _ _ _ _ => (pg_tup rfl (pgs_cons (pg_name (i := 12) sc.nd rfl (Or.inl rfl)) (pgs_cons (pg_name (i := 13) sc.nd rfl (Or.inl rfl)) pgs_nil)))) (fun _ _ _ _ _ => pts_nil) (fun _ _ _ _ _ => (pe_tup (pa_cons (pe_op op_sub pe_int (pv 12)) (pa_cons (pv 13) pa_nil)))))
(pss_cons (ps_asg (pe_cal c_run (hr.mono (by first | decide | omega)) (pa_cons (pv 2) (pa_cons (pv 3) (pa_cons (pv 5) pa_nil)))) (pg_tup rfl (pgs_cons (pg_name (i := 7) sc.nd rfl (Or.inl rfl)) (pgs_cons (pg_name (i := 8) sc.nd rfl (Or.inl rfl)) (pgs_cons (pg_name (i := 9) sc.nd rfl (Or.inl rfl)) pgs_nil)))))
(pss_cons (ps_set (i := 10) sc.nd rfl (Or.inl rfl) (pe_cal c_run (hr.mono (by first | decide | omega)) (pa_cons (pv 2) (pa_cons (pv 3) (pa_cons (pv 6) pa_nil)))))
(pss_cons (ps_if (pt_not (pt_val (pe_cal c__law_alike (hr.mono (by first | decide | omega)) (pa_cons (pv 10) (pa_cons (pe_tup (pa_cons (pe_lc (own := [("_law_one", 15)]) (g := gName 15) rfl sc.nd (pi_list (pv 7)) (blkOk_by (own := [("_law_one", 15)]) (N := ["_law_script", "_law_d", "_law_knob_here", "_law_reader_here", "_law_turn", "_law_row_here", "_law_other", "_law_told", "_law_count", "_law_missed", "_law_found", "_law_later", "_law_way", "_law_old", "_law_pair", "_law_one"]) (sc := defScope (top 27)) (by decide +kernel)) (fun _ _ _ _ _ => (pg_name (i := 15) sc.nd rfl (Or.inl rfl))) (fun _ _ _ _ _ => pts_nil) (fun _ _ _ _ _ => (pe_ix (r := rIxL K) ix_list (pe_lst (pa_cons (pv 15) (pa_cons (pe_op op_sub pe_int (pv 15)) pa_nil))) (pe_callTy call_int1 (by rfl) n_int (by decide +kernel) (pa_cons (pe_cmpR op_ne (pv 15) pe_int (nomark _)) pa_nil)) (fun _ _ => rfl)))) (pa_cons (pe_op op_sub pe_int (pv 8)) (pa_cons (pv 9) pa_nil)))) pa_nil)))))
(pss_one (ps_ret pe_bl))
pss_nil)
(pss_cons (ps_if (pt_cmpR (r := rNeD K) (op_neD hr.units) (pe_cal c_shown (hr.mono (by first | decide | omega)) (pa_cons (pv 2) (pa_cons (pv 6) pa_nil))) (pe_lc (own := [("_law_pair", 14)]) (g := gName 14) rfl sc.nd (pi_list (pe_cal c_shown (hr.mono (by first | decide | omega)) (pa_cons (pv 2) (pa_cons (pv 5) pa_nil)))) (blkOk_by (own := [("_law_pair", 14)]) (N := ["_law_script", "_law_d", "_law_knob_here", "_law_reader_here", "_law_turn", "_law_row_here", "_law_other", "_law_told", "_law_count", "_law_missed", "_law_found", "_law_later", "_law_way", "_law_old", "_law_pair", "_law_one"]) (sc := defScope (top 27)) (by decide +kernel)) (fun _ _ _ _ _ => (pg_name (i := 14) sc.nd rfl (Or.inl rfl))) (fun _ _ _ _ _ => pts_nil) (fun _ _ _ _ _ => (pe_tup (pa_cons (pe_ix (r := rIxT K) ix_tup (pv 14) pe_int (fun _ _ => rfl)) (pa_cons (pe_ix (r := rIxT K) ix_tup (pv 14) pe_int (fun _ _ => rfl)) pa_nil))))) (nomark _))
(pss_one (ps_ret pe_bl))
pss_nil)
(pss_cons (ps_set (i := 11) sc.nd rfl (Or.inl rfl) (pe_cal c_run (hr.mono (by first | decide | omega)) (pa_cons (pv 2) (pa_cons (pv 3) (pa_cons (pe_op op_cat (pe_op op_rep (pe_lst (pa_cons (pe_tup (pa_cons pe_int (pa_cons pe_bl pa_nil))) pa_nil)) (pe_ix (r := rIxT K) ix_tup (pv 3) pe_int (fun _ _ => rfl))) (pv 5)) pa_nil)))))
(pss_one (ps_if (pt_not (pt_val (pe_cal c__law_alike (hr.mono (by first | decide | omega)) (pa_cons (pv 11) (pa_cons (pe_tup (pa_cons (pe_op op_cat (pe_lst (pa_cons pe_int pa_nil)) (pv 7)) (pa_cons (pv 8) (pa_cons (pv 9) pa_nil)))) pa_nil)))))
(pss_one (ps_ret pe_bl))
pss_nil))))))))))
(pss_one (ps_ret pe_bl))))), ?_⟩
    -- the dice, the knob, the reader
    refine ⟨_, rfl, sa, ns, rfl, hS, hlen, fun d ms H1 hd0 s1 hd1 hD1 => ?_⟩
    refine ⟨_, rfl, d, ms, rfl, hd1, hD1, fun g b ms2 kn g1 g6 b0 b1 hD2 hkn => ?_⟩
    have nkd : d ≠ kn := ne_of_none hd1 hkn
    have hd2 : (upd (upd H1 d (.lst (ms2.map V.int))) kn (.tup [.int g, .int b])) d = some (.lst (ms2.map V.int)) := by rw [upd_ne nkd, upd_same]
    have hk2 : (upd (upd H1 d (.lst (ms2.map V.int))) kn (.tup [.int g, .int b])) kn = some (.tup [.int g, .int b]) := upd_same
    revert hd2 hk2
    generalize upd (upd H1 d (.lst (ms2.map V.int))) kn (.tup [.int g, .int b]) = H2
    intro hd2 hk2
    refine ⟨_, rfl, d, ms2, rfl, hd2, hD2, fun ap sm ms3 rd ap1 ap6 sm1 sm3 hD3 hrd => ?_⟩
    have n0 : d ≠ rd := ne_of_none hd2 hrd
    have hd3 : (upd (upd H2 d (.lst (ms3.map V.int))) rd (.tup [.int ap, .int sm])) d = some (.lst (ms3.map V.int)) := by rw [upd_ne n0, upd_same]
    have ht3 : (upd (upd H2 d (.lst (ms3.map V.int))) rd (.tup [.int ap, .int sm])) rd = some (.tup [.int ap, .int sm]) := upd_same
    have hk3 : (upd (upd H2 d (.lst (ms3.map V.int))) rd (.tup [.int ap, .int sm])) kn = some (.tup [.int g, .int b]) := by rw [upd_ne (ne_of_none hk2 hrd), upd_ne nkd.symm]; exact hk2
    revert hd3 ht3 hk3
    generalize upd (upd H2 d (.lst (ms3.map V.int))) rd (.tup [.int ap, .int sm]) = H4
    intro hd4 ht4 hk4
    have hknD : Dp K (Fz [d] H4) (.ref kn) (knD g b) := .tup (SqT.of (fz_some.mpr ⟨by simpa using nkd.symm, hk4⟩)) (dpa_ii g b)
    have hrdT : SqT K (Fz [d] H4) rd [.int ap, .int sm] := SqT.of (fz_some.mpr ⟨by simpa using n0.symm, ht4⟩)
    have hrdD : Dp K (Fz [d] H4) (.ref rd) (knD ap sm) := .tup hrdT (dpa_ii ap sm)
    obtain ⟨an, ean⟩ := Int.eq_ofNat_of_zero_le (show 0 ≤ ap by omega)
    obtain ⟨sn, esn⟩ := Int.eq_ofNat_of_zero_le (show 0 ≤ sm by omega)
    have an1 : 1 ≤ an := by omega
    have an6 : an ≤ 6 := by omega
    have ea : ap.toNat = an := by omega
    refine ⟨_, _, rfl, ?_⟩
    -- three rows
    refine ⟨3, rfl, by decide, by decide, for_range (lo := 0) (n := 3) (fun i σ H' => ∃ (ms : List Int) (u4 u5 u6 u7 u8 u9 u10 u11 u12 u13 u14 u15 : Option V), σ = [some (.ref sa), some (.ref d), some (.ref kn), some (.ref rd), u4, u5, u6, u7, u8, u9, u10, u11, u12, u13, u14, u15] ∧ Dice ms ∧ H' d = some (.lst (ms.map V.int)) ∧ Frm [d] H4 H') ?_ ?_ ?_⟩
    · exact ⟨ms3, _, _, _, _, _, _, _, _, _, _, _, _, rfl, hD3, hd4, Frm.refl⟩
    · rintro i σ H5 hi ⟨ms5, u4, u5, u6, u7, u8, u9, u10, u11, u12, u13, u14, u15, rfl, hD5, hd5, fr5⟩
      refine ⟨_, rfl, _, rfl, _, rfl, d, ms5, 101, rfl, hd5, hD5, by decide, by decide, fun v5 ms7 v50 v51 hD7 => ?_⟩
      have hd7 : (upd H5 d (.lst (ms7.map V.int))) d = some (.lst (ms7.map V.int)) := upd_same
      have fr7 : Frm [d] H4 (upd H5 d (.lst (ms7.map V.int))) := fr5.trans (Frm.set (by simp))
      revert hd7 fr7
      generalize upd H5 d (.lst (ms7.map V.int)) = H7
      intro hd7 fr7
      have lv7 : Live [d] H7 := live_cons hd7 live_nil
      refine ⟨d, kn, ms7, v5, g, b, [d], rfl, hd7, hD7, by simp, lv7, dp_same fr7.fz hknD, g1, g6, b0, b1, v50, by omega, fun row ms8 p ys H8 hG hrl hD8 hp fr8 hd8 hp8 hX8 => ?_⟩
      have hX : DpAll K H8 ys (row.map mvD) := dpa_same fz_le hX8
      have hrow : Dp K H8 (.ref p) (rowD row) := .lst (SqL.of hp8) hX
      have fr48 : Frm [d] H4 H8 := fr7.trans fr8
      have fS : Same (Fz [d] H4) H8 := (Frm.fz fr48).trans fz_le
      have hl100 : row.length ≤ 100 := by omega
      have hyl : ys.length = row.length := by rw [dpa_length hX, List.length_map]
      have hnl : nlk row.length an ≤ 100 := by have := nlk_le (i := row.length) an1 an6; omega
      -- the other
      refine ⟨_, rfl, p, rfl, ⟨_, SqL.of hp8⟩, fun D hD => lc_it (walk_list (xs := ys)) (fun i H' => ∃ acc, Same H8 H' ∧ H' D = some (.lst acc) ∧ acc.length = i ∧ DpAll K (Fz [D] H') acc (((negR row).take i).map mvD))
        ⟨[], same_new hD, upd_same, rfl, .nil⟩ (fun i H' _ ⟨_, e, _⟩ => SqL.of (e _ _ hp8)) ?_ ?_⟩
      · rintro m x H9 H10 hm ⟨acc, s9, hD9, hal, hA⟩ ⟨rfl, hx⟩
        obtain ⟨⟨t, o⟩, hmt, hz⟩ := dpa_map_at hX hx
        obtain ⟨q, rfl, hq⟩ := dp_ib (dp_same s9 hz)
        refine ⟨q, _, rfl, hq, rfl, _, _, rfl, _, _, rfl, rfl, rfl, _, rfl, _, _, rfl, rfl, _, rfl, (by show 2 ≤ sizeLine; decide), fun tp htp => ?_⟩
        have nD : D ≠ tp := ne_of_none hD9 htp
        refine ⟨acc, (by rw [upd_ne nD]; exact hD9), small1000 (by omega), acc ++ [.ref tp], same_put hD (s9.trans (same_new htp)), upd_same, by rw [List.length_append, List.length_singleton, hal], ?_⟩
        rw [take_snoc (show (negR row)[m]? = some (negM (t, o)) by unfold negR; rw [List.getElem?_map, hmt]; rfl), List.map_append]
        exact dpa_push (live_cons hD9 live_nil) htp hA (dpa_ib (0 - t) o)
      · rintro H9 ⟨oth, s9, hD9, hal, hA⟩
        rw [hyl, show row.length = (negR row).length by unfold negR; simp, List.take_length] at hA
        have hoth : Dp K H9 (.ref D) (rowD (negR row)) := .lst (SqL.of hD9) (dpa_same fz_le hA)
        have hGn := good_neg hG
        -- run of the row
        refine ⟨_, rfl, _, rfl, _, rfl, _, _, _, g, b, ap, sm, row, rfl, dp_same (fS.trans s9) hknD, g1, g6, b0, b1, dp_same (fS.trans s9) hrdD, ap1, ap6, sm1, sm3, dp_same s9 hrow, hG, fun pf lf H10 hpf hlf s10 hpf10 hlf10 => ?_⟩
        rw [ea, esn] at hpf10 hlf10
        generalize hTL : tolds (newC sn) (runL row an) = TL at hlf10
        generalize hTo : (runS (newC sn) (runL row an)).total = tot at hpf10
        generalize hLo : (runS (newC sn) (runL row an)).lost = lost at hpf10
        have hTLl : TL.length ≤ 100 := by rw [← hTL, tolds_length]; unfold runL; rw [lkf_length]; exact hnl
        refine ⟨pf, _, rfl, SqT.of hpf10, rfl, _, _, rfl, _, _, rfl, _, _, rfl, rfl, ?_⟩
        have sA := s9.trans s10
        -- run of the other
        refine ⟨_, rfl, _, rfl, _, rfl, _, _, _, g, b, ap, sm, negR row, rfl, dp_same (fS.trans sA) hknD, g1, g6, b0, b1, dp_same (fS.trans sA) hrdD, ap1, ap6, sm1, sm3, dp_same s10 hoth, hGn, fun po lo H11 hpo hlo s11 hpo11 hlo11 => ?_⟩
        have hmir := run_mir (runL row an) (newC sn)
        have hm0 : mirC (newC sn) = newC sn := rfl
        rw [hm0, hTL] at hmir
        rw [ea, esn, runL_neg] at hpo11 hlo11
        rw [hmir.2] at hlo11
        rw [hmir.1] at hpo11
        have hpo12 : H11 po = some (.tup [.ref lo, .int (0 - tot), .int lost]) := by rw [hpo11, ← hTo, ← hLo]; rfl
        have hlf11 := s11 _ _ hlf10
        have sB := sA.trans s11
        refine ⟨_, rfl, _, rfl, lf, rfl, ⟨_, SqL.of hlf11⟩, fun T hT => lc_it (walk_list (xs := TL.map V.int)) (fun i H' => Same H11 H' ∧ H' T = some (.lst (((TL.map mirT).take i).map V.int)))
          ⟨same_new hT, upd_same⟩ (fun i H' _ ⟨e, _⟩ => SqL.of (e _ _ hlf11)) ?_ ?_⟩
        · rintro m x H12 H13 hm ⟨s12, hT12⟩ ⟨rfl, hx⟩
          obtain ⟨t, ht, rfl⟩ := int_at hx
          refine ⟨rfl, _, rfl, _, rfl, _, _, rfl, rfl, (by show 2 ≤ sizeLine; decide), fun e he => ?_⟩
          refine ⟨_, rfl, rfl, .inr ⟨_, rfl, e, _, _, .int (mirT t), rfl, rfl, SqL.of upd_same, ?_, _, same_new he _ _ hT12, ?_, same_put hT (s12.trans (same_new he)), ?_⟩⟩
          · show atI [V.int t, V.int (0 - t)] (if (!decide (V.int t = V.int 2)) = true then 1 else 0) = _
            unfold mirT
            by_cases c : t = 2
            · rw [decide_eq_true (vint_eq c), if_neg (by decide), if_neg (by simp [c])]; rfl
            · rw [decide_eq_false (vint_ne c), if_pos (by decide), if_pos c]; rfl
          · rw [List.length_map, List.length_take, List.length_map]; exact small1000 (by omega)
          · rw [upd_same, take_snoc (show (TL.map mirT)[m]? = some (mirT t) by rw [List.getElem?_map, ht]; rfl), List.map_append]; rfl
        · rintro H12 ⟨s12, hT12⟩
          rw [List.length_map, show TL.length = (TL.map mirT).length by simp, List.take_length] at hT12
          refine ⟨_, rfl, _, _, rfl, rfl, _, rfl, (by show 3 ≤ sizeLine; decide), fun tp htp => ?_⟩
          have s13 := same_new htp (o := .tup [.ref T, .int (0 - tot), .int lost])
          refine ⟨.ref po, .ref tp, runD (TL.map mirT) (0 - tot) lost, rfl, dp_run ((s12.trans s13) _ _ hpo12) ((s12.trans s13) _ _ hlo11), dp_run upd_same (s13 _ _ hT12), nest_run (by rw [List.length_map]; omega), fun H14 s14 => ⟨_, rfl, iteF ?_⟩⟩
          have sC := sB.trans (s12.trans (s13.trans s14))
          -- what is shown
          refine ⟨_, rfl, _, rfl, _, _, g, b, negR row, [], rfl, live_nil, by rw [fz_nil]; exact dp_same (fS.trans sC) hknD, g1, g6, b0, b1, by rw [fz_nil]; exact dp_same (s10.trans (s11.trans (s12.trans (s13.trans s14)))) hoth, hGn, fun p1 zs1 H15 hp1 s15 hp15 hZ1 => ?_⟩
          refine ⟨_, rfl, _, rfl, _, _, g, b, row, [], rfl, live_nil, by rw [fz_nil]; exact dp_same (fS.trans (sC.trans s15)) hknD, g1, g6, b0, b1, by rw [fz_nil]; exact dp_same (sC.trans s15) hrow, hG, fun p2 zs2 H16 hp2 s16 hp16 hZ2 => ?_⟩
          have hz2l : zs2.length = row.length := by rw [dpa_length hZ2]; unfold shD; rw [List.length_map, plcs_length]
          have hZ2' : DpAll K H16 zs2 ((plcs row).map fun q => ppD (pr q.2)) := dpa_same fz_le hZ2
          refine ⟨p2, rfl, ⟨_, SqL.of hp16⟩, fun D2 hD2 => lc_it (walk_list (xs := zs2)) (fun i H' => ∃ acc, Same H16 H' ∧ H' D2 = some (.lst acc) ∧ acc.length = i ∧ DpAll K (Fz [D2] H') acc ((shD (negR row)).take i))
            ⟨[], same_new hD2, upd_same, rfl, .nil⟩ (fun i H' _ ⟨_, e, _⟩ => SqL.of (e _ _ hp16)) ?_ ?_⟩
          · rintro m x H17 H18 hm ⟨acc, s17, hD17, hal', hA'⟩ ⟨rfl, hx⟩
            obtain ⟨⟨h0, se⟩, hmt, hz⟩ := dpa_map_at hZ2' hx
            obtain ⟨q, rfl, hq⟩ := dp_ii (dp_same s17 hz)
            refine ⟨rfl, _, rfl, q, _, _, _, rfl, rfl, hq, at_of (j := 1) rfl rfl, _, rfl, q, _, _, _, rfl, rfl, hq, at_of (j := 0) rfl rfl, (by show 2 ≤ sizeLine; decide), fun tq htq => ?_⟩
            have nD : D2 ≠ tq := ne_of_none hD17 htq
            refine ⟨acc, (by rw [upd_ne nD]; exact hD17), small1000 (by omega), acc ++ [.ref tq], same_put hD2 (s17.trans (same_new htq)), upd_same, by rw [List.length_append, List.length_singleton, hal'], ?_⟩
            rw [take_snoc (show (shD (negR row))[m]? = some (ppD ((pr se).2, (pr se).1)) by rw [shD_neg, List.getElem?_map, hmt]; rfl)]
            exact dpa_push (live_cons hD17 live_nil) htq hA' (dpa_ii _ _)
          · rintro H17 ⟨acc, s17, hD17, hal', hA'⟩
            have hsl : (shD (negR row)).length = row.length := by rw [shD_neg, List.length_map, plcs_length]
            rw [hz2l, ← hsl, List.take_length] at hA'
            have hN : Nest 2 (.list (shD (negR row))) := by
              have e : shD (negR row) = ((plcs (negR row)).map fun q => pr q.2).map ppD := by unfold shD; rw [List.map_map]; rfl
              rw [e]
              exact nest_pairs (by rw [List.length_map, plcs_length]; unfold negR; rw [List.length_map]; omega)
            refine ⟨_, _, .lst (SqL.of ((s16.trans s17) _ _ hp15)) (dpa_same (fz_le.trans (s16.trans s17)) hZ1), .lst (SqL.of hD17) (dpa_same fz_le hA'), shaped_nest hN (by decide), shaped_nest hN (by decide), _, rfl, ?_⟩
            rw [eqv_nest hN]
            have sD := sC.trans (s15.trans (s16.trans s17))
            -- the rest ahead
            refine iteF ?_
            refine ⟨_, rfl, _, rfl, (by show 2 ≤ sizeLine; decide), fun t0 ht0 => ⟨(by show 1 ≤ sizeLine; decide), fun l0 hl0 => ?_⟩⟩
            have s18 := same_new ht0 (o := .tup [.int 0, .bl false])
            have s19 := same_new hl0 (o := .lst [.ref t0])
            have hfl : ((List.replicate ap.toNat [V.ref t0]).flatten).length ≤ 6 := by rw [List.length_flatten]; simp; omega
            refine ⟨_, rfl, rd, _, _, _, rfl, rfl, same_seqT (fS.trans (sD.trans (s18.trans s19))) hrdT, at_of (j := 0) rfl rfl, l0, ap, _, rfl, rfl, upd_same, by omega, by omega, ?_, fun p3 hp3 => ?_⟩
            · exact Nat.le_of_lt (small1000 (by show 1 * _ ≤ 1000; omega))
            have s20 := same_new hp3 (o := .lst (List.replicate ap.toNat [V.ref t0]).flatten)
            have sE := sD.trans (s18.trans (s19.trans s20))
            refine ⟨_, rfl, p3, p, _, ys, rfl, rfl, upd_same, sE _ _ hp8, ?_, fun p4 hp4 => ?_⟩
            · exact Nat.le_of_lt (small1000 (by omega))
            have s21 := same_new hp4 (o := .lst ((List.replicate ap.toNat [V.ref t0]).flatten ++ ys))
            have sF := sE.trans s21
            have ht0' : Dp K (upd (upd (upd (upd H17 t0 (.tup [.int 0, .bl false])) l0 (.lst [.ref t0])) p3 (.lst (List.replicate ap.toNat [V.ref t0]).flatten)) p4 (.lst ((List.replicate ap.toNat [V.ref t0]).flatten ++ ys))) (.ref t0) (mvD (0, false)) :=
              .tup (SqT.of ((s19.trans (s20.trans s21)) _ _ upd_same)) (dpa_ib 0 false)
            refine ⟨_, _, _, g, b, ap, sm, rest ap.toNat ++ row, rfl, dp_same (fS.trans sF) hknD, g1, g6, b0, b1, dp_same (fS.trans sF) hrdD, ap1, ap6, sm1, sm3, ?_, good_rest hG (by omega), fun pr' lr H22 hpr hlr s22 hpr22 hlr22 => ?_⟩
            · refine .lst (SqL.of upd_same) ?_
              rw [List.map_append]
              exact dpa_append (dpa_rest ht0' _) (dpa_same sF hX)
            rw [ea, esn, runL_rest an1 an6] at hpr22 hlr22
            have hrr := run_rest (s := sn) (runL row an)
            rw [hrr.1, hTL] at hlr22
            rw [hrr.2.1, hrr.2.2, hTo, hLo] at hpr22
            -- alike
            refine ⟨_, rfl, (by show 1 ≤ sizeLine; decide), fun l1 hl1 => ?_⟩
            have s23 := same_new hl1 (o := .lst [.int 0])
            have hlfZ := (s11.trans (s12.trans (s13.trans (s14.trans (s15.trans (s16.trans (s17.trans (s18.trans (s19.trans (s20.trans (s21.trans (s22.trans s23)))))))))))) _ _ hlf10
            refine ⟨_, rfl, l1, lf, _, _, rfl, rfl, upd_same, hlfZ, Nat.le_of_lt (small1000 (by rw [List.length_map]; show 1 + TL.length ≤ 1000; omega)), fun l2 hl2 => ?_⟩
            have s24 := same_new hl2 (o := .lst ([.int 0] ++ TL.map V.int))
            refine ⟨_, rfl, _, rfl, (by show 3 ≤ sizeLine; decide), fun tz htz => ?_⟩
            have s25 := same_new htz (o := .tup [.ref l2, .int tot, .int lost])
            refine ⟨.ref pr', .ref tz, runD (0 :: TL) tot lost, rfl, dp_run ((s23.trans (s24.trans s25)) _ _ hpr22) ((s23.trans (s24.trans s25)) _ _ hlr22), dp_run upd_same (s25 _ _ upd_same), nest_run (by rw [List.length_cons]; omega), fun H26 s26 => ⟨_, rfl, iteF ?_⟩⟩
            have sG := sF.trans (s22.trans (s23.trans (s24.trans (s25.trans s26))))
            exact ⟨ms8, _, _, _, _, _, _, _, _, _, _, _, _, rfl, hD8, sG _ _ hd8, fr48.trans (Frm.of_same sG)⟩
    · rintro σ H5 ⟨ms5, u4, u5, u6, u7, u8, u9, u10, u11, u12, u13, u14, u15, rfl, hD5, hd5, fr5⟩
      exact k H5
end
theorem all_mk {l : PySem.W.OpenLaw} {w : World} {K : PySem.W.Frag} {h : Heap} {mg : Str → Option Value} {fa : Addr} (X : K.In h) (G : h.Ns mainGlobals mg) (hfa : mg "law" = some (.ref fa))
    {f1 : Addr} {od1 an1 : Option Addr} {sl1 : Array (Option Value)} {oc1 kV1 dc1 pm1 cd1 ct1 : Value}
    {f2 : Addr} {od2 an2 : Option Addr} {sl2 : Array (Option Value)} {oc2 kV2 dc2 pm2 cd2 ct2 : Value}
    {f3 : Addr} {od3 an3 : Option Addr} {sl3 : Array (Option Value)} {oc3 kV3 dc3 pm3 cd3 ct3 : Value}
    {f4 : Addr} {od4 an4 : Option Addr} {sl4 : Array (Option Value)} {oc4 kV4 dc4 pm4 cd4 ct4 : Value}
    {f5 : Addr} {od5 an5 : Option Addr} {sl5 : Array (Option Value)} {oc5 kV5 dc5 pm5 cd5 ct5 : Value}
    {f6 : Addr} {od6 an6 : Option Addr} {sl6 : Array (Option Value)} {oc6 kV6 dc6 pm6 cd6 ct6 : Value}
    {f7 : Addr} {od7 an7 : Option Addr} {sl7 : Array (Option Value)} {oc7 kV7 dc7 pm7 cd7 ct7 : Value}
    {f8 : Addr} {od8 an8 : Option Addr} {sl8 : Array (Option Value)} {oc8 kV8 dc8 pm8 cd8 ct8 : Value}
    {f9 : Addr} {od9 an9 : Option Addr} {sl9 : Array (Option Value)} {oc9 kV9 dc9 pm9 cd9 ct9 : Value}
    {f10 : Addr} {od10 an10 : Option Addr} {sl10 : Array (Option Value)} {oc10 kV10 dc10 pm10 cd10 ct10 : Value}
    {f11 : Addr} {od11 an11 : Option Addr} {sl11 : Array (Option Value)} {oc11 kV11 dc11 pm11 cd11 ct11 : Value}
    {f12 : Addr} {od12 an12 : Option Addr} {sl12 : Array (Option Value)} {oc12 kV12 dc12 pm12 cd12 ct12 : Value}
    {f13 : Addr} {od13 an13 : Option Addr} {sl13 : Array (Option Value)} {oc13 kV13 dc13 pm13 cd13 ct13 : Value}
    {tg_MISSED : Tok}
    {tg_MOST_APART : Tok}
    {tg_MOST_GAP : Tok}
    {tg_MOST_ROW : Tok}
    {tg_MOST_SAME : Tok}
    {aP p0 p1 p2 p3 : Addr}
    {nP0 : Nat} {slP0 : Array (Option Value)}
    {odP1 : Option Addr} {nP1 : Nat} {slP1 : Array (Option Value)}
    {u00 u01 : Tok}
    {odP2 : Option Addr} {nP2 : Nat} {slP2 : Array (Option Value)}
    {u10 u11 : Tok}
    {odP3 : Option Addr} {nP3 : Nat} {slP3 : Array (Option Value)}
    {u20 u21 : Tok}
    {odP4 : Option Addr} {nP4 : Nat} {slP4 : Array (Option Value)}
    {u30 u31 : Tok}
    {C_Counter : Addr}
    {fCounterxinitx : Addr} {odCounterxinitx anCounterxinitx : Option Addr} {slCounterxinitx : Array (Option Value)} {ocCounterxinitx kVCounterxinitx dcCounterxinitx pmCounterxinitx cdCounterxinitx ctCounterxinitx : Value}
    {fCounterlook : Addr} {odCounterlook anCounterlook : Option Addr} {slCounterlook : Array (Option Value)} {ocCounterlook kVCounterlook dcCounterlook pmCounterlook cdCounterlook ctCounterlook : Value}
    {fCountercount : Addr} {odCountercount anCountercount : Option Addr} {slCountercount : Array (Option Value)} {ocCountercount kVCountercount dcCountercount pmCountercount cdCountercount ctCountercount : Value}
    {fCountermissed : Addr} {odCountermissed anCountermissed : Option Addr} {slCountermissed : Array (Option Value)} {ocCountermissed kVCountermissed dcCountermissed pmCountermissed cdCountermissed ctCountermissed : Value}
    (a1 : PySem.W.nsIn K mainGlobals "_law_dice" = some (some (.ref f1)))
    (l1 : K.lookup f1 = some ⟨oc1, od1, .func (PySem.W.fnOf "_law_dice" "_law_dice" (defArgs (top 21)) (defBody (top 21)) (defScope (top 21)) .none kV1 dc1 pm1 an1 cd1 ct1), sl1⟩)
    (c1 : PySem.W.codeIn K cd1 "_law_dice" = true)
    (k1 : PySem.W.keepIn K (.ref f1) = true)
    (a2 : PySem.W.nsIn K mainGlobals "_law_off" = some (some (.ref f2)))
    (l2 : K.lookup f2 = some ⟨oc2, od2, .func (PySem.W.fnOf "_law_off" "_law_off" (defArgs (top 22)) (defBody (top 22)) (defScope (top 22)) .none kV2 dc2 pm2 an2 cd2 ct2), sl2⟩)
    (c2 : PySem.W.codeIn K cd2 "_law_off" = true)
    (k2 : PySem.W.keepIn K (.ref f2) = true)
    (a3 : PySem.W.nsIn K mainGlobals "_law_knob" = some (some (.ref f3)))
    (l3 : K.lookup f3 = some ⟨oc3, od3, .func (PySem.W.fnOf "_law_knob" "_law_knob" (defArgs (top 24)) (defBody (top 24)) (defScope (top 24)) .none kV3 dc3 pm3 an3 cd3 ct3), sl3⟩)
    (c3 : PySem.W.codeIn K cd3 "_law_knob" = true)
    (k3 : PySem.W.keepIn K (.ref f3) = true)
    (a4 : PySem.W.nsIn K mainGlobals "_law_reader" = some (some (.ref f4)))
    (l4 : K.lookup f4 = some ⟨oc4, od4, .func (PySem.W.fnOf "_law_reader" "_law_reader" (defArgs (top 25)) (defBody (top 25)) (defScope (top 25)) .none kV4 dc4 pm4 an4 cd4 ct4), sl4⟩)
    (c4 : PySem.W.codeIn K cd4 "_law_reader" = true)
    (k4 : PySem.W.keepIn K (.ref f4) = true)
    (a5 : PySem.W.nsIn K mainGlobals "_law_row" = some (some (.ref f5)))
    (l5 : K.lookup f5 = some ⟨oc5, od5, .func (PySem.W.fnOf "_law_row" "_law_row" (defArgs (top 26)) (defBody (top 26)) (defScope (top 26)) .none kV5 dc5 pm5 an5 cd5 ct5), sl5⟩)
    (c5 : PySem.W.codeIn K cd5 "_law_row" = true)
    (k5 : PySem.W.keepIn K (.ref f5) = true)
    (a6 : PySem.W.nsIn K mainGlobals "need_knob" = some (some (.ref f6)))
    (l6 : K.lookup f6 = some ⟨oc6, od6, .func (PySem.W.fnOf "need_knob" "need_knob" (defArgs (top 11)) (defBody (top 11)) (defScope (top 11)) .none kV6 dc6 pm6 an6 cd6 ct6), sl6⟩)
    (c6 : PySem.W.codeIn K cd6 "need_knob" = true)
    (k6 : PySem.W.keepIn K (.ref f6) = true)
    (a7 : PySem.W.nsIn K mainGlobals "need_reader" = some (some (.ref f7)))
    (l7 : K.lookup f7 = some ⟨oc7, od7, .func (PySem.W.fnOf "need_reader" "need_reader" (defArgs (top 12)) (defBody (top 12)) (defScope (top 12)) .none kV7 dc7 pm7 an7 cd7 ct7), sl7⟩)
    (c7 : PySem.W.codeIn K cd7 "need_reader" = true)
    (k7 : PySem.W.keepIn K (.ref f7) = true)
    (a8 : PySem.W.nsIn K mainGlobals "need_row" = some (some (.ref f8)))
    (l8 : K.lookup f8 = some ⟨oc8, od8, .func (PySem.W.fnOf "need_row" "need_row" (defArgs (top 13)) (defBody (top 13)) (defScope (top 13)) .none kV8 dc8 pm8 an8 cd8 ct8), sl8⟩)
    (c8 : PySem.W.codeIn K cd8 "need_row" = true)
    (k8 : PySem.W.keepIn K (.ref f8) = true)
    (a9 : PySem.W.nsIn K mainGlobals "positions" = some (some (.ref f9)))
    (l9 : K.lookup f9 = some ⟨oc9, od9, .func (PySem.W.fnOf "positions" "positions" (defArgs (top 14)) (defBody (top 14)) (defScope (top 14)) .none kV9 dc9 pm9 an9 cd9 ct9), sl9⟩)
    (c9 : PySem.W.codeIn K cd9 "positions" = true)
    (k9 : PySem.W.keepIn K (.ref f9) = true)
    (a10 : PySem.W.nsIn K mainGlobals "shown" = some (some (.ref f10)))
    (l10 : K.lookup f10 = some ⟨oc10, od10, .func (PySem.W.fnOf "shown" "shown" (defArgs (top 15)) (defBody (top 15)) (defScope (top 15)) .none kV10 dc10 pm10 an10 cd10 ct10), sl10⟩)
    (c10 : PySem.W.codeIn K cd10 "shown" = true)
    (k10 : PySem.W.keepIn K (.ref f10) = true)
    (a11 : PySem.W.nsIn K mainGlobals "run" = some (some (.ref f11)))
    (l11 : K.lookup f11 = some ⟨oc11, od11, .func (PySem.W.fnOf "run" "run" (defArgs (top 19)) (defBody (top 19)) (defScope (top 19)) .none kV11 dc11 pm11 an11 cd11 ct11), sl11⟩)
    (c11 : PySem.W.codeIn K cd11 "run" = true)
    (k11 : PySem.W.keepIn K (.ref f11) = true)
    (a12 : PySem.W.nsIn K mainGlobals "_law_alike" = some (some (.ref f12)))
    (l12 : K.lookup f12 = some ⟨oc12, od12, .func (PySem.W.fnOf "_law_alike" "_law_alike" (defArgs (top 23)) (defBody (top 23)) (defScope (top 23)) .none kV12 dc12 pm12 an12 cd12 ct12), sl12⟩)
    (c12 : PySem.W.codeIn K cd12 "_law_alike" = true)
    (k12 : PySem.W.keepIn K (.ref f12) = true)
    (a13 : PySem.W.nsIn K mainGlobals "law" = some (some (.ref f13)))
    (l13 : K.lookup f13 = some ⟨oc13, od13, .func (PySem.W.fnOf "law" "law" (defArgs (top 27)) (defBody (top 27)) (defScope (top 27)) .none kV13 dc13 pm13 an13 cd13 ct13), sl13⟩)
    (c13 : PySem.W.codeIn K cd13 "law" = true)
    (k13 : PySem.W.keepIn K (.ref f13) = true)
    (zg_MISSED : PySem.W.nsIn K mainGlobals "MISSED" = some (some (.int 2 tg_MISSED)))
    (zg_MOST_APART : PySem.W.nsIn K mainGlobals "MOST_APART" = some (some (.int 6 tg_MOST_APART)))
    (zg_MOST_GAP : PySem.W.nsIn K mainGlobals "MOST_GAP" = some (some (.int 6 tg_MOST_GAP)))
    (zg_MOST_ROW : PySem.W.nsIn K mainGlobals "MOST_ROW" = some (some (.int 200 tg_MOST_ROW)))
    (zg_MOST_SAME : PySem.W.nsIn K mainGlobals "MOST_SAME" = some (some (.int 3 tg_MOST_SAME)))
    (zP : PySem.W.nsIn K mainGlobals "PAIRS" = some (some (.ref aP)))
    (zP0 : K.lookup aP = some ⟨.type "tuple", none, .seq #[.ref p0, .ref p1, .ref p2, .ref p3] nP0, slP0⟩)
    (zP1 : K.lookup p0 = some ⟨.type "tuple", odP1, .seq #[.int 0 u00, .int 0 u01] nP1, slP1⟩)
    (zP2 : K.lookup p1 = some ⟨.type "tuple", odP2, .seq #[.int 0 u10, .int 1 u11] nP2, slP2⟩)
    (zP3 : K.lookup p2 = some ⟨.type "tuple", odP3, .seq #[.int 1 u20, .int 1 u21] nP3, slP3⟩)
    (zP4 : K.lookup p3 = some ⟨.type "tuple", odP4, .seq #[.int 1 u30, .int 0 u31] nP4, slP4⟩)
    (zn_abs : PySem.W.nsIn K mainGlobals "abs" = some none)
    (zn_all : PySem.W.nsIn K mainGlobals "all" = some none)
    (zn_bool : PySem.W.nsIn K mainGlobals "bool" = some none)
    (zn_enumerate : PySem.W.nsIn K mainGlobals "enumerate" = some none)
    (zn_int : PySem.W.nsIn K mainGlobals "int" = some none)
    (zn_isinstance : PySem.W.nsIn K mainGlobals "isinstance" = some none)
    (zn_len : PySem.W.nsIn K mainGlobals "len" = some none)
    (zn_list : PySem.W.nsIn K mainGlobals "list" = some none)
    (zn_min : PySem.W.nsIn K mainGlobals "min" = some none)
    (zn_range : PySem.W.nsIn K mainGlobals "range" = some none)
    (zn_str : PySem.W.nsIn K mainGlobals "str" = some none)
    (zn_tuple : PySem.W.nsIn K mainGlobals "tuple" = some none)
    (zCCounter : PySem.W.nsIn K mainGlobals "Counter" = some (some (.ref C_Counter)))
    (pgCounter : PySem.W.plainGet K C_Counter Str.empty = true)
    (hdCounter : PySem.W.hasDictIn K C_Counter = true)
    (poCounter : PySem.W.plainOver K C_Counter = true)
    (saCounter : PySem.W.findIn K (.ref C_Counter) "__setattr__" = some (some (.builtin "object.__setattr__")))
    (mkCounter : PySem.W.makesIn K C_Counter = true)
    (kcCounter : PySem.W.keepIn K (.ref C_Counter) = true)
    (na_Counter_same : PySem.W.findIn K (.ref C_Counter) "same" = some none)
    (na_Counter_kept : PySem.W.findIn K (.ref C_Counter) "kept" = some none)
    (na_Counter_met : PySem.W.findIn K (.ref C_Counter) "met" = some none)
    (na_Counter_many : PySem.W.findIn K (.ref C_Counter) "many" = some none)
    (na_Counter_total : PySem.W.findIn K (.ref C_Counter) "total" = some none)
    (na_Counter_lost : PySem.W.findIn K (.ref C_Counter) "lost" = some none)
    (aCounterxinitx : PySem.W.findIn K (.ref C_Counter) "__init__" = some (some (.ref fCounterxinitx)))
    (lCounterxinitx : K.lookup fCounterxinitx = some ⟨ocCounterxinitx, odCounterxinitx, .func (PySem.W.fnOf "__init__" "Counter.__init__" (defArgs (inClass (top 18) 0)) (defBody (inClass (top 18) 0)) (defScope (inClass (top 18) 0)) .none kVCounterxinitx dcCounterxinitx pmCounterxinitx anCounterxinitx cdCounterxinitx ctCounterxinitx), slCounterxinitx⟩)
    (cCounterxinitx : PySem.W.codeIn K cdCounterxinitx "Counter.__init__" = true)
    (kCounterxinitx : PySem.W.keepIn K (.ref fCounterxinitx) = true)
    (iCounterxinitx : PySem.W.isFn K (.ref fCounterxinitx) = true)
    (aCounterlook : PySem.W.findIn K (.ref C_Counter) "look" = some (some (.ref fCounterlook)))
    (lCounterlook : K.lookup fCounterlook = some ⟨ocCounterlook, odCounterlook, .func (PySem.W.fnOf "look" "Counter.look" (defArgs (inClass (top 18) 1)) (defBody (inClass (top 18) 1)) (defScope (inClass (top 18) 1)) .none kVCounterlook dcCounterlook pmCounterlook anCounterlook cdCounterlook ctCounterlook), slCounterlook⟩)
    (cCounterlook : PySem.W.codeIn K cdCounterlook "Counter.look" = true)
    (kCounterlook : PySem.W.keepIn K (.ref fCounterlook) = true)
    (iCounterlook : PySem.W.isFn K (.ref fCounterlook) = true)
    (aCountercount : PySem.W.findIn K (.ref C_Counter) "count" = some (some (.ref fCountercount)))
    (lCountercount : K.lookup fCountercount = some ⟨ocCountercount, odCountercount, .func (PySem.W.fnOf "count" "Counter.count" (defArgs (inClass (top 18) 2)) (defBody (inClass (top 18) 2)) (defScope (inClass (top 18) 2)) .none kVCountercount dcCountercount pmCountercount anCountercount cdCountercount ctCountercount), slCountercount⟩)
    (cCountercount : PySem.W.codeIn K cdCountercount "Counter.count" = true)
    (kCountercount : PySem.W.keepIn K (.ref fCountercount) = true)
    (iCountercount : PySem.W.isFn K (.ref fCountercount) = true)
    (aCountermissed : PySem.W.findIn K (.ref C_Counter) "missed" = some (some (.ref fCountermissed)))
    (lCountermissed : K.lookup fCountermissed = some ⟨ocCountermissed, odCountermissed, .func (PySem.W.fnOf "missed" "Counter.missed" (defArgs (inClass (top 18) 3)) (defBody (inClass (top 18) 3)) (defScope (inClass (top 18) 3)) .none kVCountermissed dcCountermissed pmCountermissed anCountermissed cdCountermissed ctCountermissed), slCountermissed⟩)
    (cCountermissed : PySem.W.codeIn K cdCountermissed "Counter.missed" = true)
    (kCountermissed : PySem.W.keepIn K (.ref fCountermissed) = true)
    (iCountermissed : PySem.W.isFn K (.ref fCountermissed) = true)
    : ∃ fd : FuncData, (∀ (s : Shared) (v : Value), BindsTo s fd ⟨[v], []⟩ [("_law_script", v)]) ∧ ∀ base : Heap, K.In base → base.Ns mainGlobals mg → FnOk l.prog w K mg base CX0 5 fa fd ["_law_script"] (spLaw K) := by
  have e := hfa.symm.trans (PySem.W.mg_of X G a13)
  cases e
  have F1 := fun_mk (st := top 21) l1 c1 k1
  have b1 := F1.binds (ps := ["_law_script", "_law_k"]) fun _ _ _ _ _ _ us hl => match us, hl with | [_, _], _ => rfl
  have F2 := fun_mk (st := top 22) l2 c2 k2
  have b2 := F2.binds (ps := ["_law_d", "_law_most"]) fun _ _ _ _ _ _ us hl => match us, hl with | [_, _], _ => rfl
  have F3 := fun_mk (st := top 24) l3 c3 k3
  have b3 := F3.binds (ps := ["_law_d"]) fun _ _ _ _ _ _ us hl => match us, hl with | [_], _ => rfl
  have F4 := fun_mk (st := top 25) l4 c4 k4
  have b4 := F4.binds (ps := ["_law_d"]) fun _ _ _ _ _ _ us hl => match us, hl with | [_], _ => rfl
  have F5 := fun_mk (st := top 26) l5 c5 k5
  have b5 := F5.binds (ps := ["_law_d", "_law_knob_here", "_law_many"]) fun _ _ _ _ _ _ us hl => match us, hl with | [_, _, _], _ => rfl
  have F6 := fun_mk (st := top 11) l6 c6 k6
  have b6 := F6.binds (ps := ["knob"]) fun _ _ _ _ _ _ us hl => match us, hl with | [_], _ => rfl
  have F7 := fun_mk (st := top 12) l7 c7 k7
  have b7 := F7.binds (ps := ["reader"]) fun _ _ _ _ _ _ us hl => match us, hl with | [_], _ => rfl
  have F8 := fun_mk (st := top 13) l8 c8 k8
  have b8 := F8.binds (ps := ["knob", "row"]) fun _ _ _ _ _ _ us hl => match us, hl with | [_, _], _ => rfl
  have F9 := fun_mk (st := top 14) l9 c9 k9
  have b9 := F9.binds (ps := ["row"]) fun _ _ _ _ _ _ us hl => match us, hl with | [_], _ => rfl
  have F10 := fun_mk (st := top 15) l10 c10 k10
  have b10 := F10.binds (ps := ["knob", "row"]) fun _ _ _ _ _ _ us hl => match us, hl with | [_, _], _ => rfl
  have F11 := fun_mk (st := top 19) l11 c11 k11
  have b11 := F11.binds (ps := ["knob", "reader", "row"]) fun _ _ _ _ _ _ us hl => match us, hl with | [_, _, _], _ => rfl
  have F12 := fun_mk (st := top 23) l12 c12 k12
  have b12 := F12.binds (ps := ["_law_found", "_law_due"]) fun _ _ _ _ _ _ us hl => match us, hl with | [_, _], _ => rfl
  have F13 := fun_mk (st := top 27) l13 c13 k13
  have b13 := F13.binds (ps := ["_law_script"]) fun _ _ _ _ _ _ us hl => match us, hl with | [_], _ => rfl
  have g_MISSED := PySem.W.mg_of X G zg_MISSED
  have g_MOST_APART := PySem.W.mg_of X G zg_MOST_APART
  have g_MOST_GAP := PySem.W.mg_of X G zg_MOST_GAP
  have g_MOST_ROW := PySem.W.mg_of X G zg_MOST_ROW
  have g_MOST_SAME := PySem.W.mg_of X G zg_MOST_SAME
  have g_PAIRS := PySem.W.mg_of X G zP
  have pk : PairsK K aP p0 p1 p2 p3 := ⟨⟨_, zP0, rfl, rfl⟩, knT_of zP0 rfl (by show 4 ≤ sizeLine; decide) (.cons rfl (.cons rfl (.cons rfl (.cons rfl .nil)))), knT_of zP1 rfl (by show 2 ≤ sizeLine; decide) (.cons ⟨_, rfl⟩ (.cons ⟨_, rfl⟩ .nil)), knT_of zP2 rfl (by show 2 ≤ sizeLine; decide) (.cons ⟨_, rfl⟩ (.cons ⟨_, rfl⟩ .nil)), knT_of zP3 rfl (by show 2 ≤ sizeLine; decide) (.cons ⟨_, rfl⟩ (.cons ⟨_, rfl⟩ .nil)), knT_of zP4 rfl (by show 2 ≤ sizeLine; decide) (.cons ⟨_, rfl⟩ (.cons ⟨_, rfl⟩ .nil))⟩
  have n_abs := PySem.W.mg_none_of X G zn_abs
  have n_all := PySem.W.mg_none_of X G zn_all
  have n_bool := PySem.W.mg_none_of X G zn_bool
  have n_enumerate := PySem.W.mg_none_of X G zn_enumerate
  have n_int := PySem.W.mg_none_of X G zn_int
  have n_isinstance := PySem.W.mg_none_of X G zn_isinstance
  have n_len := PySem.W.mg_none_of X G zn_len
  have n_list := PySem.W.mg_none_of X G zn_list
  have n_min := PySem.W.mg_none_of X G zn_min
  have n_range := PySem.W.mg_none_of X G zn_range
  have n_str := PySem.W.mg_none_of X G zn_str
  have n_tuple := PySem.W.mg_none_of X G zn_tuple
  have cl_Counter : Cls K C_Counter := ⟨pgCounter, hdCounter, poCounter, saCounter⟩
  have ck : CtrK K C_Counter := ⟨cl_Counter, na_Counter_same, na_Counter_kept, na_Counter_met, na_Counter_many, na_Counter_total, na_Counter_lost⟩
  have FCounterxinitx := fun_mk (st := inClass (top 18) 0) lCounterxinitx cCounterxinitx kCounterxinitx
  have bCounterxinitx := FCounterxinitx.binds (ps := ["self", "reader"]) fun _ _ _ _ _ _ us hl => match us, hl with | [_, _], _ => rfl
  have FCounterlook := fun_mk (st := inClass (top 18) 1) lCounterlook cCounterlook kCounterlook
  have bCounterlook := FCounterlook.binds (ps := ["self", "pair"]) fun _ _ _ _ _ _ us hl => match us, hl with | [_, _], _ => rfl
  have FCountercount := fun_mk (st := inClass (top 18) 2) lCountercount cCountercount kCountercount
  have bCountercount := FCountercount.binds (ps := ["self"]) fun _ _ _ _ _ _ us hl => match us, hl with | [_], _ => rfl
  have FCountermissed := fun_mk (st := inClass (top 18) 3) lCountermissed cCountermissed kCountermissed
  have bCountermissed := FCountermissed.binds (ps := ["self"]) fun _ _ _ _ _ _ us hl => match us, hl with | [_], _ => rfl
  refine ⟨PySem.W.fnOf "law" "law" (defArgs (top 27)) (defBody (top 27)) (defScope (top 27)) .none kV13 dc13 pm13 an13 cd13 ct13, fun s v => .of_eq rfl, fun base _ _ => ?_⟩
  have c__law_alike : Cal l.prog w K mg base 1 "_law_alike" ["_law_found", "_law_due"] (spAlike K 0) := ⟨f12, _, ok_alike0 F12, PySem.W.mg_of X G a12, k12, b12⟩
  have c__law_alike : Cal l.prog w K mg base 2 "_law_alike" ["_law_found", "_law_due"] (spAlike K 1) := ⟨f12, _, ok_alikeS F12 c__law_alike n_isinstance n_bool n_int n_str n_tuple n_list n_len n_all n_range, PySem.W.mg_of X G a12, k12, b12⟩
  have c__law_alike : Cal l.prog w K mg base 3 "_law_alike" ["_law_found", "_law_due"] (spAlike K 2) := ⟨f12, _, ok_alikeS F12 c__law_alike n_isinstance n_bool n_int n_str n_tuple n_list n_len n_all n_range, PySem.W.mg_of X G a12, k12, b12⟩
  have c__law_alike : Cal l.prog w K mg base 4 "_law_alike" ["_law_found", "_law_due"] (spAlike K 3) := ⟨f12, _, ok_alikeS F12 c__law_alike n_isinstance n_bool n_int n_str n_tuple n_list n_len n_all n_range, PySem.W.mg_of X G a12, k12, b12⟩
  have c__law_dice : Cal l.prog w K mg base 1 "_law_dice" ["_law_script", "_law_k"] (spDice K) := ⟨f1, _, ok_dice F1 n_abs, PySem.W.mg_of X G a1, k1, b1⟩
  have c__law_off : Cal l.prog w K mg base 1 "_law_off" ["_law_d", "_law_most"] (spOff) := ⟨f2, _, ok_off F2 n_len, PySem.W.mg_of X G a2, k2, b2⟩
  have c__law_knob : Cal l.prog w K mg base 2 "_law_knob" ["_law_d"] (spKnob) := ⟨f3, _, ok_knob F3 c__law_off, PySem.W.mg_of X G a3, k3, b3⟩
  have c__law_reader : Cal l.prog w K mg base 2 "_law_reader" ["_law_d"] (spReader) := ⟨f4, _, ok_reader F4 c__law_off, PySem.W.mg_of X G a4, k4, b4⟩
  have c__law_row : Cal l.prog w K mg base 2 "_law_row" ["_law_d", "_law_knob_here", "_law_many"] (spRow K) := ⟨f5, _, ok_row F5 c__law_off n_range n_int, PySem.W.mg_of X G a5, k5, b5⟩
  have c_need_knob : Cal l.prog w K mg base 1 "need_knob" ["knob"] (spNeedKnob K) := ⟨f6, _, ok_need_knob F6 g_MOST_GAP, PySem.W.mg_of X G a6, k6, b6⟩
  have c_need_reader : Cal l.prog w K mg base 1 "need_reader" ["reader"] (spNeedReader K) := ⟨f7, _, ok_need_reader F7 g_MOST_APART g_MOST_SAME, PySem.W.mg_of X G a7, k7, b7⟩
  have m_Counter : Mkr l.prog w K mg base 2 C_Counter "Counter" ["self", "reader"] (spCtr K C_Counter) := ⟨fCounterxinitx, _, ok_cinit FCounterxinitx ck g_PAIRS pk c_need_reader, PySem.W.mg_of X G zCCounter, ⟨mkCounter, aCounterxinitx, iCounterxinitx, kcCounter⟩, bCounterxinitx⟩
  have m_look : Mtd l.prog w K mg base 1 C_Counter "look" ["self", "pair"] (spLook K C_Counter) := ⟨fCounterlook, _, ok_look FCounterlook ck g_PAIRS pk g_MISSED, ⟨aCounterlook, iCounterlook, kCounterlook⟩, bCounterlook⟩
  have m_count : Mtd l.prog w K mg base 1 C_Counter "count" ["self"] (spCount K C_Counter) := ⟨fCountercount, _, ok_count FCountercount ck, ⟨aCountercount, iCountercount, kCountercount⟩, bCountercount⟩
  have m_missed : Mtd l.prog w K mg base 1 C_Counter "missed" ["self"] (spMissed K C_Counter) := ⟨fCountermissed, _, ok_missed FCountermissed ck, ⟨aCountermissed, iCountermissed, kCountermissed⟩, bCountermissed⟩
  have c_need_row : Cal l.prog w K mg base 1 "need_row" ["knob", "row"] (spNeedRow K) := ⟨f8, _, ok_need_row F8 g_MOST_ROW n_enumerate n_min, PySem.W.mg_of X G a8, k8, b8⟩
  have c_positions : Cal l.prog w K mg base 1 "positions" ["row"] (spPos K) := ⟨f9, _, ok_positions F9 , PySem.W.mg_of X G a9, k9, b9⟩
  have c_shown : Cal l.prog w K mg base 2 "shown" ["knob", "row"] (spShown K) := ⟨f10, _, ok_shown F10 g_PAIRS pk c_need_knob c_need_row c_positions, PySem.W.mg_of X G a10, k10, b10⟩
  have c_run : Cal l.prog w K mg base 4 "run" ["knob", "reader", "row"] (spRun K) := ⟨f11, _, ok_run F11 ck g_PAIRS pk n_enumerate c_need_knob c_need_reader c_need_row c_positions m_Counter m_look m_count m_missed, PySem.W.mg_of X G a11, k11, b11⟩
  exact ok_law F13 n_range n_int c__law_dice c__law_off c__law_knob c__law_reader c__law_row c__law_alike c_run c_shown
theorem walk {l : PySem.W.OpenLaw} {q : Program} {loose : List Str} {XP : (Str → Option Value) → Heap → Prop} {YP : World → Heap → Prop} {d : DefRec} {K : Params → PySem.W.Frag} (hn : l.most = some 63) (hdf : d.params.defaults = []) (hY : ∀ (w : World) (h : Heap), YP w h → (K w.params).In h)
    (F : ∀ (w : World) (mg : Str → Option Value) (fa : Addr) (h : Heap), (K w.params).In h → h.Ns mainGlobals mg → mg d.name = some (.ref fa) → ∃ fd : FuncData, (∀ (s : Shared) (u : Value), BindsTo s fd ⟨[u], []⟩ [("_law_script", u)]) ∧
      ∀ base : Heap, (K w.params).In base → base.Ns mainGlobals mg → FnOk l.prog w (K w.params) mg base CX0 5 fa fd ["_law_script"] (spLaw (K w.params))) :
    PySem.W.WalkO q loose XP YP l.row.toRowW d [] (fun f vs => PySem.call f vs) :=
  L2.walk_of (n := 63) (k := 5) (x := "_law_script") (CX := fun _ => CX0) (sp := fun w => spLaw (K w.params)) hn (by decide) hdf ⟨rfl, by decide, by decide⟩ hY F (fun _ _ a ns hl _ hS => ⟨a, ns, rfl, hS, hl, fun _ => rfl⟩) fun _ _ _ _ _ z => z
end KT
open PySem PySem.W PyProof.Rows in
set_option maxRecDepth 100000 in
set_option maxHeartbeats 0 in
theorem PySem.Challenge.cw_knobturn_k12_whole_turned_about_holds : PySem.Challenge.rw_knobturn_k12_whole_turned_about.Holds := by
  w_on; o_law; k_head; (case hw => w_witness2)
  k_fill
  refine KT.walk (l := PySem.Challenge.rw_knobturn_k12_whole_turned_about) rfl rfl (fun w h Y => PySem.W.kIn_of Y) ?F
  case F =>
    intro w mg fa h KX G hmg
    refine' KT.all_mk KX G hmg ?a1 ?l1 ?c1 ?k1 ?a2 ?l2 ?c2 ?k2 ?a3 ?l3 ?c3 ?k3 ?a4 ?l4 ?c4 ?k4 ?a5 ?l5 ?c5 ?k5 ?a6 ?l6 ?c6 ?k6 ?a7 ?l7 ?c7 ?k7 ?a8 ?l8 ?c8 ?k8 ?a9 ?l9 ?c9 ?k9 ?a10 ?l10 ?c10 ?k10 ?a11 ?l11 ?c11 ?k11 ?a12 ?l12 ?c12 ?k12 ?a13 ?l13 ?c13 ?k13 ?zg_MISSED ?zg_MOST_APART ?zg_MOST_GAP ?zg_MOST_ROW ?zg_MOST_SAME ?zP ?zP0 ?zP1 ?zP2 ?zP3 ?zP4 ?zn_abs ?zn_all ?zn_bool ?zn_enumerate ?zn_int ?zn_isinstance ?zn_len ?zn_list ?zn_min ?zn_range ?zn_str ?zn_tuple ?zCCounter ?pgCounter ?hdCounter ?poCounter ?saCounter ?mkCounter ?kcCounter ?na_Counter_same ?na_Counter_kept ?na_Counter_met ?na_Counter_many ?na_Counter_total ?na_Counter_lost ?aCounterxinitx ?lCounterxinitx ?cCounterxinitx ?kCounterxinitx ?iCounterxinitx ?aCounterlook ?lCounterlook ?cCounterlook ?kCounterlook ?iCounterlook ?aCountercount ?lCountercount ?cCountercount ?kCountercount ?iCountercount ?aCountermissed ?lCountermissed ?cCountermissed ?kCountermissed ?iCountermissed
    (case a1 => k_is)
    (case l1 => k_is)
    (case c1 => k_is)
    (case k1 => k_is)
    (case a2 => k_is)
    (case l2 => k_is)
    (case c2 => k_is)
    (case k2 => k_is)
    (case a3 => k_is)
    (case l3 => k_is)
    (case c3 => k_is)
    (case k3 => k_is)
    (case a4 => k_is)
    (case l4 => k_is)
    (case c4 => k_is)
    (case k4 => k_is)
    (case a5 => k_is)
    (case l5 => k_is)
    (case c5 => k_is)
    (case k5 => k_is)
    (case a6 => k_is)
    (case l6 => k_is)
    (case c6 => k_is)
    (case k6 => k_is)
    (case a7 => k_is)
    (case l7 => k_is)
    (case c7 => k_is)
    (case k7 => k_is)
    (case a8 => k_is)
    (case l8 => k_is)
    (case c8 => k_is)
    (case k8 => k_is)
    (case a9 => k_is)
    (case l9 => k_is)
    (case c9 => k_is)
    (case k9 => k_is)
    (case a10 => k_is)
    (case l10 => k_is)
    (case c10 => k_is)
    (case k10 => k_is)
    (case a11 => k_is)
    (case l11 => k_is)
    (case c11 => k_is)
    (case k11 => k_is)
    (case a12 => k_is)
    (case l12 => k_is)
    (case c12 => k_is)
    (case k12 => k_is)
    (case a13 => k_is)
    (case l13 => k_is)
    (case c13 => k_is)
    (case k13 => k_is)
    (case zg_MISSED => k_is)
    (case zg_MOST_APART => k_is)
    (case zg_MOST_GAP => k_is)
    (case zg_MOST_ROW => k_is)
    (case zg_MOST_SAME => k_is)
    (case zP => k_is)
    (case zP0 => k_is)
    (case zP1 => k_is)
    (case zP2 => k_is)
    (case zP3 => k_is)
    (case zP4 => k_is)
    (case zn_abs => k_is)
    (case zn_all => k_is)
    (case zn_bool => k_is)
    (case zn_enumerate => k_is)
    (case zn_int => k_is)
    (case zn_isinstance => k_is)
    (case zn_len => k_is)
    (case zn_list => k_is)
    (case zn_min => k_is)
    (case zn_range => k_is)
    (case zn_str => k_is)
    (case zn_tuple => k_is)
    (case zCCounter => k_is)
    (case pgCounter => k_is)
    (case hdCounter => k_is)
    (case poCounter => k_is)
    (case saCounter => k_is)
    (case mkCounter => k_is)
    (case kcCounter => k_is)
    (case na_Counter_same => k_is)
    (case na_Counter_kept => k_is)
    (case na_Counter_met => k_is)
    (case na_Counter_many => k_is)
    (case na_Counter_total => k_is)
    (case na_Counter_lost => k_is)
    (case aCounterxinitx => k_is)
    (case lCounterxinitx => k_is)
    (case cCounterxinitx => k_is)
    (case kCounterxinitx => k_is)
    (case iCounterxinitx => k_is)
    (case aCounterlook => k_is)
    (case lCounterlook => k_is)
    (case cCounterlook => k_is)
    (case kCounterlook => k_is)
    (case iCounterlook => k_is)
    (case aCountercount => k_is)
    (case lCountercount => k_is)
    (case cCountercount => k_is)
    (case kCountercount => k_is)
    (case iCountercount => k_is)
    (case aCountermissed => k_is)
    (case lCountermissed => k_is)
    (case cCountermissed => k_is)
    (case kCountermissed => k_is)
    (case iCountermissed => k_is)
