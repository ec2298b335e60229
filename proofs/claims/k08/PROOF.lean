import PyProof.Rows.All
import Wide.All
import OpenK.AllK
import Wide.FinOn
import HandS.ForMost
import HandS.IsInst
import HandS.Codes
import HandS.Walk
import HandS.Deep
import HandS.Strs
import HandS.SetFor
import KE.KDictKeyed
import KE.KDictDisplayH
import PySem.Challenge.RW_knobturn_k08_whole_one_look_is_enough
set_option Elab.async false
set_option linter.all false
set_option maxRecDepth 100000
/-! # Heaps with some places hidden, data read off a heap, calls in short -/
namespace KT
open PySem L2

/-! ### heaps with some places hidden -/
def Fz (ps : List Addr) (H : Hp) : Hp := fun a => if a ∈ ps then none else H a
section
variable {ps qs : List Addr} {H H' H1 H2 : Hp} {a b p : Addr} {o : HO} {K : PySem.W.Frag}
theorem fz_out (h : a ∉ ps) : Fz ps H a = H a := if_neg h
theorem fz_in (h : a ∈ ps) : Fz ps H a = none := if_pos h
theorem fz_some : Fz ps H a = some o ↔ a ∉ ps ∧ H a = some o := by
  unfold Fz
  by_cases h : a ∈ ps
  · rw [if_pos h]; simp [h]
  · rw [if_neg h]; simp [h]
theorem fz_nil : Fz [] H = H := by funext a; exact fz_out (by simp)
theorem fz_le : Same (Fz ps H) H := fun b o h => (fz_some.mp h).2
theorem fz_less (h : ∀ a ∈ ps, a ∈ qs) : Same (Fz qs H) (Fz ps H) := fun b o e => by
  obtain ⟨n, e⟩ := fz_some.mp e
  exact fz_some.mpr ⟨fun z => n (h b z), e⟩
theorem fz_tail : Same (Fz (a :: ps) H) (Fz ps H) := fz_less fun _ h => List.mem_cons_of_mem _ h
theorem fz_mono (h : Same H H') : Same (Fz ps H) (Fz ps H') := fun b o e => by
  obtain ⟨n, e⟩ := fz_some.mp e
  exact fz_some.mpr ⟨n, h b o e⟩
/-- a store at a hidden place -/
theorem fz_set (h : a ∈ ps) : Fz ps (upd H a o) = Fz ps H := by
  funext b
  by_cases hb : b ∈ ps
  · rw [fz_in hb, fz_in hb]
  · rw [fz_out hb, fz_out hb, upd_ne (fun z : b = a => hb (by rw [z]; exact h))]
theorem same_new (h : H a = none) : Same H (upd H a o) := fun b u e => by
  rw [upd_ne (ne_of_none e h)]
  exact e
theorem same_put (h : H a = none) (e : Same H H') : Same H (upd H' a o) := fun b u q => by
  rw [upd_ne (ne_of_none q h)]
  exact e b u q
def Live (ps : List Addr) (H : Hp) : Prop := ∀ p ∈ ps, H p ≠ none
theorem live_nil : Live [] H := fun _ h => by cases h
theorem live_cons (h : H a = some o) (l : Live ps H) : Live (a :: ps) H := fun p hp => by
  rcases List.mem_cons.mp hp with rfl | hp
  · rw [h]; exact fun z => by cases z
  · exact l p hp
theorem Live.tail (l : Live (a :: ps) H) : Live ps H := fun p hp => l p (List.mem_cons_of_mem _ hp)
theorem Live.new (l : Live ps H) (h : H a = none) : a ∉ ps := fun z => l a z h
theorem Live.mono (l : Live ps H) (e : Same H H') : Live ps H' := fun p hp z => by
  cases q : H p with
  | none => exact l p hp q
  | some o => rw [e p o q] at z; cases z
theorem Live.upd (l : Live ps H) : Live ps (upd H a o) := fun p hp z => by
  by_cases h : p = a
  · rw [h, upd_same] at z; cases z
  · rw [upd_ne h] at z; exact l p hp z
theorem fz_new (h : a ∉ ps) : Fz ps (upd H a o) = upd (Fz ps H) a o := by
  funext b
  by_cases hb : b = a
  · rw [hb, fz_out h, upd_same, upd_same]
  · rw [upd_ne hb]
    by_cases hp : b ∈ ps
    · rw [fz_in hp, fz_in hp]
    · rw [fz_out hp, fz_out hp, upd_ne hb]
theorem same_fz (h : ∀ p ∈ ps, H p = none) (e : Same H H') : Same H (Fz ps H') := fun b o q => fz_some.mpr ⟨(fun z => by rw [h b z] at q; cases q), e b o q⟩
/-- all but the hidden places is as it was -/
def Frm (ps : List Addr) (H H' : Hp) : Prop := ∀ b o, b ∉ ps → H b = some o → H' b = some o
theorem Frm.refl : Frm ps H H := fun _ _ _ h => h
theorem Frm.trans (a : Frm ps H H1) (b : Frm ps H1 H2) : Frm ps H H2 := fun c o n h => b c o n (a c o n h)
theorem Frm.fz (a : Frm ps H H') : Same (Fz ps H) (Fz ps H') := fun b o e => by
  obtain ⟨n, e⟩ := fz_some.mp e
  exact fz_some.mpr ⟨n, a b o n e⟩
theorem Frm.of_same (a : Same H H') : Frm ps H H' := fun b o _ h => a b o h
theorem Frm.mono (h : ∀ a ∈ ps, a ∈ qs) (a : Frm ps H H') : Frm qs H H' := fun b o n e => a b o (fun z => n (h b z)) e
theorem Frm.set (h : a ∈ ps) : Frm ps H (upd H a o) := fun b u n e => by
  rw [upd_ne (fun z : b = a => n (by rw [z]; exact h))]
  exact e
theorem Frm.new (h : H a = none) : Frm ps H (upd H a o) := Frm.of_same (same_new h)
/-- what is new may change -/
theorem Frm.off (e : Frm (a :: ps) H H') (h : H a = none) : Frm ps H H' := fun b o n q => e b o (fun z => by
  rcases List.mem_cons.mp z with rfl | z
  · rw [h] at q; cases q
  · exact n z) q
theorem Frm.same (e : Frm [] H H') : Same H H' := fun b o h => e b o (by simp) h
theorem same_seqT {xs : List V} (e : Same H H') (h : SqT K H a xs) : SqT K H' a xs := by
  rcases h with (h | ⟨o, h⟩) | h
  · exact .inl (.inl (e _ _ h))
  · exact .inl (.inr ⟨o, e _ _ h⟩)
  · exact .inr h
end

/-! ### lists -/
theorem int_at {ns : List Int} {i : Nat} {y : V} (h : (ns.map V.int)[i]? = some y) : ∃ z, ns[i]? = some z ∧ y = V.int z := by
  rw [List.getElem?_map] at h
  cases e : ns[i]? with
  | none => rw [e] at h; cases h
  | some z => rw [e] at h; exact ⟨z, rfl, (Option.some.inj h).symm⟩
theorem ixN_nat {n j : Nat} (h : j < n) : ixN n (j : Int) = some j := by
  unfold ixN
  simp [h]
theorem seqIndex_nat {n j : Nat} (h : j < n) : seqIndex? (j : Int) n = some j := by
  have e : ¬ ((j : Int) < 0) := by omega
  unfold seqIndex?
  simp [h, e]
theorem upd_id {H : Hp} {a : Addr} {o : HO} (h : H a = some o) : upd H a o = H := by
  funext b
  by_cases e : b = a
  · rw [e, upd_same, h]
  · rw [upd_ne e]
theorem min2 (a b : Int) : min a b = if b < a then b else a := by
  rw [Int.min_def]
  by_cases h : b < a
  · rw [if_pos h, if_neg (by omega)]
  · rw [if_neg h, if_pos (by omega)]
/-! ### tests -/
theorem iteNT {c A B : Prop} [Decidable c] (hc : ¬ c) (h : A) : if (!decide c) = true then A else B := by
  rw [decide_eq_false hc]
  exact iteT h
theorem iteDT {c A B : Prop} [Decidable c] (hc : c) (h : A) : if decide c = true then A else B := by
  rw [decide_eq_true hc]
  exact iteT h
theorem iteDF {c A B : Prop} [Decidable c] (hc : ¬ c) (h : B) : if decide c = true then A else B := by
  rw [decide_eq_false hc]
  exact iteF h
theorem iteBT {b : Bool} {A B : Prop} (hb : b = true) (h : A) : if b = true then A else B := by rw [if_pos hb]; exact h
theorem iteBF {b : Bool} {A B : Prop} (hb : b = false) (h : B) : if b = true then A else B := by rw [hb]; exact iteF h
theorem iteB {b : Bool} {A B : Prop} (h1 : b = true → A) (h2 : b = false → B) : if b = true then A else B := by
  cases b with
  | true => exact iteT (h1 rfl)
  | false => exact iteF (h2 rfl)
theorem vint_ne {i j : Int} (h : i ≠ j) : V.int i ≠ V.int j := fun e => h (V.int.inj e)
theorem vint_eq {i j : Int} (h : i = j) : V.int i = V.int j := congrArg V.int h
/-! ### data -/
section
variable {K : PySem.W.Frag} {H H' : Hp} {ps : List Addr}
mutual
theorem dp_same (e : Same H H') : ∀ {v : V} {d : PyData}, Dp K H v d → Dp K H' v d
  | _, _, .non => .non
  | _, _, .bl b => .bl b
  | _, _, .int i => .int i
  | _, _, .str x => .str x
  | _, _, .lst h a => .lst (e.seq h) (dpa_same e a)
  | _, _, .tup h a => .tup (same_seqT e h) (dpa_same e a)
theorem dpa_same (e : Same H H') : ∀ {vs : List V} {ds : List PyData}, DpAll K H vs ds → DpAll K H' vs ds
  | _, _, .nil => .nil
  | _, _, .cons h t => .cons (dp_same e h) (dpa_same e t)
end
theorem dp_fz {v : V} {d : PyData} (h : Dp K (Fz ps H) v d) : Dp K H v d := dp_same fz_le h
theorem dpa_length : ∀ {vs : List V} {ds : List PyData}, DpAll K H vs ds → vs.length = ds.length
  | _, _, .nil => rfl
  | _, _, .cons _ t => congrArg (· + 1) (dpa_length t)
theorem dpa_get : ∀ {vs : List V} {ds : List PyData} {i : Nat} {v : V}, DpAll K H vs ds → vs[i]? = some v → ∃ d, ds[i]? = some d ∧ Dp K H v d
  | _, _, _, _, .nil, e => by simp at e
  | _, _, 0, _, .cons h _, e => by simp at e; subst e; exact ⟨_, rfl, h⟩
  | _, _, i + 1, v, .cons _ t, e => by
    obtain ⟨d, h1, h2⟩ := dpa_get (i := i) (v := v) t (by simpa using e)
    exact ⟨d, by simpa using h1, h2⟩
theorem dpa_at : ∀ {vs : List V} {ds : List PyData} {i : Nat} {d : PyData}, DpAll K H vs ds → ds[i]? = some d → ∃ v, vs[i]? = some v ∧ Dp K H v d
  | _, _, _, _, .nil, e => by simp at e
  | _, _, 0, _, .cons h _, e => by simp at e; subst e; exact ⟨_, rfl, h⟩
  | _, _, i + 1, d, .cons _ t, e => by
    obtain ⟨v, h1, h2⟩ := dpa_at (i := i) (d := d) t (by simpa using e)
    exact ⟨v, by simpa using h1, h2⟩
theorem dpa_append : ∀ {vs us : List V} {ds es : List PyData}, DpAll K H vs ds → DpAll K H us es → DpAll K H (vs ++ us) (ds ++ es)
  | _, _, _, _, .nil, t => t
  | _, _, _, _, .cons h t, u => .cons h (dpa_append t u)
theorem dpa_snoc {vs : List V} {ds : List PyData} {v : V} {d : PyData} (h : DpAll K H vs ds) (q : Dp K H v d) : DpAll K H (vs ++ [v]) (ds ++ [d]) := dpa_append h (.cons q .nil)
theorem dpa_take : ∀ {vs : List V} {ds : List PyData} (n : Nat), DpAll K H vs ds → DpAll K H (vs.take n) (ds.take n)
  | _, _, 0, _ => by simp; exact .nil
  | _, _, _ + 1, .nil => by simp; exact .nil
  | _, _, n + 1, .cons h t => .cons h (dpa_take n t)
theorem dpa_drop : ∀ {vs : List V} {ds : List PyData} (n : Nat), DpAll K H vs ds → DpAll K H (vs.drop n) (ds.drop n)
  | _, _, 0, h => h
  | _, _, _ + 1, .nil => by simp; exact .nil
  | _, _, n + 1, .cons _ t => dpa_drop n t
theorem dpa_ints : ∀ (ns : List Int), DpAll K H (ns.map V.int) (ns.map PyData.int)
  | [] => .nil
  | n :: r => .cons (.int n) (dpa_ints r)
theorem dpa_ints_eq : ∀ {ns : List Int} {vs : List V}, DpAll K H vs (ns.map PyData.int) → vs = ns.map V.int
  | [], _, h => by cases h; rfl
  | n :: r, _, h => by
    cases h with
    | cons q t => cases q; rw [dpa_ints_eq t]; rfl
theorem dpa_map {α : Type} {f : α → PyData} : ∀ {l : List α} {vs : List V}, (∀ (i : Nat) (v : V), vs[i]? = some v → ∃ x, l[i]? = some x ∧ Dp K H v (f x)) → vs.length = l.length → DpAll K H vs (l.map f)
  | [], [], _, _ => .nil
  | [], _ :: _, _, e => by simp at e
  | _ :: _, [], _, e => by simp at e
  | x :: l, v :: vs, h, e => by
    obtain ⟨y, h1, h2⟩ := h 0 v rfl
    have : x = y := Option.some.inj h1
    subst this
    exact .cons h2 (dpa_map (fun i u q => h (i + 1) u q) (by simpa using e))
theorem dpa_map_at {α : Type} {f : α → PyData} {l : List α} {vs : List V} {i : Nat} {v : V} (h : DpAll K H vs (l.map f)) (e : vs[i]? = some v) : ∃ x, l[i]? = some x ∧ Dp K H v (f x) := by
  obtain ⟨d, h1, h2⟩ := dpa_get h e
  rw [List.getElem?_map] at h1
  cases q : l[i]? with
  | none => rw [q] at h1; cases h1
  | some x => rw [q] at h1; cases h1; exact ⟨x, rfl, h2⟩
theorem dp_int {v : V} {i : Int} (h : Dp K H v (.int i)) : v = .int i := by cases h; rfl
theorem dp_bl {v : V} {b : Bool} (h : Dp K H v (.bool b)) : v = .bl b := by cases h; rfl
theorem dp_str {v : V} {x : Str} (h : Dp K H v (.str x)) : v = .str x := by cases h; rfl
theorem dp_non {v : V} (h : Dp K H v .none) : v = .non := by cases h; rfl
theorem dp_lst {v : V} {ds : List PyData} (h : Dp K H v (.list ds)) : ∃ a xs, v = .ref a ∧ SqL K H a xs ∧ DpAll K H xs ds := by
  cases h with | lst h a => exact ⟨_, _, rfl, h, a⟩
theorem dp_tup {v : V} {ds : List PyData} (h : Dp K H v (.tuple ds)) : ∃ a xs, v = .ref a ∧ SqT K H a xs ∧ DpAll K H xs ds := by
  cases h with | tup h a => exact ⟨_, _, rfl, h, a⟩
/-- a pair of plain things -/
theorem dp_two {v : V} {d e : PyData} (h : Dp K H v (.tuple [d, e])) : ∃ a x y, v = .ref a ∧ SqT K H a [x, y] ∧ Dp K H x d ∧ Dp K H y e := by
  obtain ⟨a, xs, rfl, h, t⟩ := dp_tup h
  cases t with
  | cons h1 t =>
    cases t with
    | cons h2 t => cases t; exact ⟨a, _, _, rfl, h, h1, h2⟩
theorem dp_ii {v : V} {i j : Int} (h : Dp K H v (.tuple [.int i, .int j])) : ∃ a, v = .ref a ∧ SqT K H a [.int i, .int j] := by
  obtain ⟨a, x, y, rfl, h, h1, h2⟩ := dp_two h
  rw [dp_int h1, dp_int h2] at h
  exact ⟨a, rfl, h⟩
theorem dp_ib {v : V} {i : Int} {b : Bool} (h : Dp K H v (.tuple [.int i, .bool b])) : ∃ a, v = .ref a ∧ SqT K H a [.int i, .bl b] := by
  obtain ⟨a, x, y, rfl, h, h1, h2⟩ := dp_two h
  rw [dp_int h1, dp_bl h2] at h
  exact ⟨a, rfl, h⟩
/-- a new tuple, a new list -/
theorem dp_newT {a : Addr} {xs : List V} {ds : List PyData} (l : Live ps H) (h : H a = none) (t : DpAll K (Fz ps H) xs ds) : Dp K (Fz ps (upd H a (.tup xs))) (.ref a) (.tuple ds) := by
  rw [fz_new (l.new h)]
  refine .tup (SqT.of upd_same) (dpa_same (same_new ?_) t)
  rw [fz_out (l.new h)]; exact h
theorem dp_newL {a : Addr} {xs : List V} {ds : List PyData} (l : Live ps H) (h : H a = none) (t : DpAll K (Fz ps H) xs ds) : Dp K (Fz ps (upd H a (.lst xs))) (.ref a) (.list ds) := by
  rw [fz_new (l.new h)]
  refine .lst (SqL.of upd_same) (dpa_same (same_new ?_) t)
  rw [fz_out (l.new h)]; exact h
/-- a list that was being made is let go -/
theorem dp_doneL {a : Addr} {xs : List V} {ds : List PyData} (n : a ∉ ps) (h : H a = some (.lst xs)) (t : DpAll K (Fz (a :: ps) H) xs ds) : Dp K (Fz ps H) (.ref a) (.list ds) :=
  .lst (SqL.of (by rw [fz_out n]; exact h)) (dpa_same fz_tail t)
/-- found.append((..)), found hidden -/
theorem dpa_push {a t : Addr} {o : HO} {xs ys : List V} {ds es : List PyData} (l : Live (a :: ps) H) (ht : H t = none) (h : DpAll K (Fz (a :: ps) H) xs ds) (q : DpAll K (Fz (a :: ps) H) ys es) :
    DpAll K (Fz (a :: ps) (upd (upd H t (.tup ys)) a o)) (xs ++ [.ref t]) (ds ++ [.tuple es]) := by
  rw [fz_set (List.mem_cons_self ..)]
  exact dpa_snoc (dpa_same (fz_mono (same_new ht)) h) (dp_newT l ht q)
theorem dpa_put {a : Addr} {o : HO} {v : V} {d : PyData} {xs : List V} {ds : List PyData} (h : DpAll K (Fz (a :: ps) H) xs ds) (q : Dp K (Fz (a :: ps) H) v d) :
    DpAll K (Fz (a :: ps) (upd H a o)) (xs ++ [v]) (ds ++ [d]) := by
  rw [fz_set (List.mem_cons_self ..)]
  exact dpa_snoc h q
theorem dpa_ii (i j : Int) : DpAll K H [.int i, .int j] [.int i, .int j] := .cons (.int i) (.cons (.int j) .nil)
theorem dpa_ib (i : Int) (b : Bool) : DpAll K H [.int i, .bl b] [.int i, .bool b] := .cons (.int i) (.cons (.bl b) .nil)
/-- the types that isinstance sees -/
theorem ty_lst {a : Addr} {xs : List V} (h : SqL K H a xs) : TyX K H (.ref a) (.type "list") := by
  rcases h with (h | ⟨o, h⟩) | ⟨o, its, n, h, c, _⟩
  · exact .base (.lst h)
  · exact .base (.frz h)
  · exact .kList h c
theorem ty_tup {a : Addr} {xs : List V} (h : SqT K H a xs) : TyX K H (.ref a) (.type "tuple") := by
  rcases h with (h | ⟨o, h⟩) | ⟨o, its, n, h, c, _⟩
  · exact .base (.tup h)
  · exact .fTuple h
  · exact .kTuple h c
end

/-! ### calls in short -/
/-- a def of the module: it keeps sp -/
def Cal (P : Program) (w : World) (K : PySem.W.Frag) (mg : Str → Option Value) (base : Heap) (k : Nat) (x : Str) (ps : List Str) (sp : Sp) : Prop :=
  ∃ f fd, FnOk P w K mg base CX0 k f fd ps sp ∧ mg x = some (.ref f) ∧ PySem.W.keepIn K (.ref f) = true ∧ Binds K fd ps []
/-- a method of the class at C -/
def Mtd (P : Program) (w : World) (K : PySem.W.Frag) (mg : Str → Option Value) (base : Heap) (k : Nat) (C : Addr) (m : Str) (ps : List Str) (sp : Sp) : Prop :=
  ∃ f fd, FnOk P w K mg base CX0 k f fd ps sp ∧ Meth K C m f ∧ Binds K fd ps []
/-- a class that is called -/
def Mkr (P : Program) (w : World) (K : PySem.W.Frag) (mg : Str → Option Value) (base : Heap) (k : Nat) (C : Addr) (x : Str) (ps : List Str) (sp : Sp) : Prop :=
  ∃ f fd, FnOk P w K mg base CX0 k f fd ps sp ∧ mg x = some (.ref C) ∧ Mk K C f ∧ Binds K fd ps []
section
variable {X : Cx} {k : Nat} {C : Addr} {x m : Str} {qs : List Str} {sp : Sp} {p pos apos : Pos} {e o : Expr} {es : List Expr} {t : TA} {ta : TE}
/-! rules whose readings name K plainly (within a comprehension X.K does not do) -/
def rLenQ (K : PySem.W.Frag) : List V → Hp → VK → Prop := fun xs H Q => ∃ p ys, xs = [.ref p] ∧ (SqL K H p ys ∨ SqT K H p ys) ∧ Q (.int ys.length) H
theorem call_lenQ : CallR X (.builtin "len") (rLenQ X.K) := call_len_seq
def rListQ (K : PySem.W.Frag) : List V → Hp → VK → Prop := fun xs H Q => ∃ p ys, xs = [.ref p] ∧ (SqL K H p ys ∨ SqT K H p ys) ∧ ∀ l, H l = none → Q (.ref l) (upd H l (.lst ys))
theorem call_listQ : CallR X (.type "list") (rListQ X.K) := call_list_of
def rTupleQ (K : PySem.W.Frag) : List V → Hp → VK → Prop := fun xs H Q => ∃ p ys, xs = [.ref p] ∧ ((SqL K H p ys ∧ ∀ l, H l = none → Q (.ref l) (upd H l (.tup ys))) ∨ (SqT K H p ys ∧ Q (.ref p) H))
theorem call_tupleQ : CallR X (.type "tuple") (rTupleQ X.K) := call_tuple_of
theorem pe_fldK {K : PySem.W.Frag} {f : Str} (hK : X.K = K) (he : PE X e ta) (hb : attributeBase e f X.env (eval e X.env) = eval e X.env := by rfl) : PE X (.Attribute e f pos) (tFld K ta f) := by
  subst hK
  exact pe_fld he hb
/-- a word between an expression and what follows -/
def tCutE (t : TE) : TE := fun σ H Q => ∃ R : VK, t σ H R ∧ ∀ v H', R v H' → Q v H'
theorem pe_cut {t : TE} (h : PE X e t) : PE X e (tCutE t) := ⟨fun pins s σ H Q I ⟨R, h1, h2⟩ => thn (h.run pins s σ H R I h1) fun v s1 ⟨x, H1, I1, r1, q1⟩ => ⟨x, H1, I1, r1, h2 _ _ q1⟩⟩
def tCutT (t : TT) : TT := fun σ H Q => ∃ R : Bool → Hp → Prop, t σ H R ∧ ∀ v H', R v H' → Q v H'
theorem pt_cut {t : TT} (h : PT X e t) : PT X e (tCutT t) := ⟨fun pins s σ H Q I ⟨R, h1, h2⟩ => thn (h.run pins s σ H R I h1) fun v s1 ⟨H1, I1, q1⟩ => ⟨H1, I1, h2 _ _ q1⟩⟩
theorem pe_cal (c : Cal X.prog X.w X.K X.mg X.base k x qs sp) (hr : Room k X.A) (ha : PA X (e :: es) t) (hg : Gl X x := by rfl) (hdb : (x == ("__debug__" : Str)) = false := by decide)
    (he : starEach (e :: es) X.env = (false, eval e X.env) :: starEach es X.env := by rfl) (hpl : (backTo pos (starEach es X.env)).any (·.1) = false := by rfl) : PE X (.Call (.Name x p) (e :: es) [] pos) (tCall sp [] E0 t) := by
  obtain ⟨f, fd, F, hm, hk, hb⟩ := c
  exact pe_call F hr hg hm hk hb .nil pass0 ha hdb he hpl
theorem pe_cal0 (c : Cal X.prog X.w X.K X.mg X.base k x qs sp) (hr : Room k X.A) (hg : Gl X x := by rfl) (hdb : (x == ("__debug__" : Str)) = false := by decide) : PE X (.Call (.Name x p) [] [] pos) (tCall sp [] E0 tNil) := by
  obtain ⟨f, fd, F, hm, hk, hb⟩ := c
  exact pe_call0 F hr hg hm hk hb .nil pass0 hdb
theorem pe_mtd {pl : Sem Bool} (c : Mtd X.prog X.w X.K X.mg X.base k C m qs sp) (cl : Cls X.K C) (hr : Room k X.A) (he : PE X o ta) (ha : PA X (e :: es) t)
    (hst : starEach (e :: es) X.env = (false, eval e X.env) :: starEach es X.env := by rfl) (hpl : (backTo pos (starEach es X.env)).any (·.1) = false := by rfl)
    (ht : eval (.Call (.Attribute o m apos) (e :: es) [] pos) X.env = (do
      let ov ← eval o X.env
      standAt apos.atName
      let (f, first) ← holding [ov] (getMethod ov m pl)
      callWith pos f first (backTo pos (starEach (e :: es) X.env)) (backToKw pos (keywordEach [] X.env))) := by rfl) :
    PE X (.Call (.Attribute o m apos) (e :: es) [] pos) (tMeth C m sp [] E0 ta t) := by
  obtain ⟨f, fd, F, hm, hb⟩ := c
  exact pe_meth he cl hm F hr hb .nil pass0 ha hst hpl ht
theorem pe_mtd0 {pl : Sem Bool} (c : Mtd X.prog X.w X.K X.mg X.base k C m qs sp) (cl : Cls X.K C) (hr : Room k X.A) (he : PE X o ta)
    (ht : eval (.Call (.Attribute o m apos) [] [] pos) X.env = (do
      let ov ← eval o X.env
      standAt apos.atName
      let (f, first) ← holding [ov] (getMethod ov m pl)
      callWith pos f first (backTo pos (starEach [] X.env)) (backToKw pos (keywordEach [] X.env))) := by rfl) :
    PE X (.Call (.Attribute o m apos) [] [] pos) (tMeth C m sp [] E0 ta tNil) := by
  obtain ⟨f, fd, F, hm, hb⟩ := c
  exact pe_meth0 he cl hm F hr hb .nil pass0 ht
theorem pe_mkr (c : Mkr X.prog X.w X.K X.mg X.base k C x qs sp) (hr : Room (k + 1) X.A) (ha : PA X (e :: es) t) (hg : Gl X x := by rfl) (hdb : (x == ("__debug__" : Str)) = false := by decide)
    (he : starEach (e :: es) X.env = (false, eval e X.env) :: starEach es X.env := by rfl) (hpl : (backTo pos (starEach es X.env)).any (·.1) = false := by rfl) : PE X (.Call (.Name x p) (e :: es) [] pos) (tMake C sp [] E0 t) := by
  obtain ⟨f, fd, F, hm, M, hb⟩ := c
  exact pe_make M F hr hg hm hb .nil pass0 ha hdb he hpl
end
/-! ### t.index(x) of data at any depth -/
theorem hu65 {k : Nat} {A : Around} (r : Room k A) : A.units + 65 < cLine := by have := r.un; omega
def rTupIndexD (K : PySem.W.Frag) : V → List V → Hp → VK → Prop := fun x xs H Q => ∃ (a : Addr) (y : V) (d : PyData) (ds : List PyData) (j : Nat) (z : PyData), x = V.ref a ∧ xs = [y] ∧ Dp K H (V.ref a) (.tuple ds) ∧ Dp K H y d ∧
  SeqAt.shaped (.tuple ds) = true ∧ SeqAt.shaped d = true ∧ ds[j]? = some z ∧ PyData.eqv z d = true ∧ (∀ (m : Nat) (z' : PyData), m < j → ds[m]? = some z' → PyData.eqv z' d = false) ∧ Q (.int (j : Nat)) H
theorem mt_tup_indexD {X : Cx} (hu : X.A.units + 65 < cLine) : MtR X "tuple.index" (rTupIndexD X.K) := by
  intro pins s σ H x xs v us Q I rx rxs h
  obtain ⟨a, y, d, ds, j, z, rfl, rfl, hl, hy, sl, sd, hz, hzj, hno, q⟩ := h
  cases rx
  cases rxs with
  | cons ry rt =>
    rename_i uy ut
    cases rt
    obtain ⟨bs, r1⟩ := Dp.reads I d y uy hy ry
    have hxs : PyData.canLayAll0 ds = true := by
      have := SeqAt.canLay_of_shaped sl
      simpa [PyData.canLay0] using this
    have hroom : X.A.units + 1 + min (PyData.depthAll ds) d.depth < cLine := PyProof.Rows.room_in_shaped sd hu
    cases hl with
    | tup hs ha =>
      obtain ⟨its, rv, ⟨⟨cls, dd, dt, sls⟩, ho, hc, n, hdt⟩, hlen⟩ := I.tuple hs
      simp only at hc hdt
      subst hc hdt
      obtain ⟨as, h4⟩ := Dp.readsAll I ds _ its ha rv
      have hn : its.length = ds.length := SeqAt.ReadsAll.length ds its as h4
      have hmap : its.map (SeqAt.readOf s.heap) = ds := SeqAt.readsAll_map ds its as hxs h4
      obtain ⟨hjd, _⟩ := List.getElem?_eq_some_iff.mp hz
      have hjl : j < its.length := by omega
      have hj : j < its.toArray.size := by simpa using hjl
      have at_ : ∀ (m : Nat) (hm : m < its.toArray.size) (z' : PyData), ds[m]? = some z' → SeqAt.readOf s.heap its.toArray[m] = z' := by
        intro m hm z' hz'
        have hml : m < its.length := by simpa using hm
        rw [← hmap, List.getElem?_map, List.getElem?_eq_getElem hml] at hz'
        have e1 : SeqAt.readOf s.heap its[m] = z' := Option.some.inj (show some (SeqAt.readOf s.heap its[m]) = some z' from hz')
        simpa using e1
      refine call_meets PySem.F.slot_tuple_index ⟨_, ho, rfl⟩ PySem.F.entry_tuple_index (PySem.F.args_tuple_index_2 _ _)
        (TI.tuple_indexAt a its.toArray n dd sls uy (fun u => PyData.eqv (SeqAt.readOf s.heap u) d) j hj ?_ ?_) ⟨ho, SeqAt.items_eqAt (vs := its.toArray) (show ReadsAll s.heap its.toArray.toList ds as from h4) r1 hxs (SeqAt.canLay_of_shaped sd) hroom, ?_⟩
      · show PyData.eqv (SeqAt.readOf s.heap its.toArray[j]) d = true
        rw [at_ j hj z hz]
        exact hzj
      · intro m hm hmj
        have hmd : m < ds.length := by omega
        have hz' : ds[m]? = some ds[m] := List.getElem?_eq_getElem hmd
        show PyData.eqv (SeqAt.readOf s.heap its.toArray[m]) d = false
        rw [at_ m hm _ hz']
        exact hno m _ hmj hz'
      · exact ⟨.int (j : Nat), H, I.tok _, ⟨_, rfl⟩, q⟩
theorem few {α : Type} {fs : List α} (n : Nat) (h : fs.length = n) (hn : n < 1000 := by decide) : fs.length < 1000 := by omega
theorem iteD {c A B : Prop} [Decidable c] (h1 : c → A) (h2 : ¬ c → B) : if decide c = true then A else B := by
  by_cases h : c
  · exact iteDT h (h1 h)
  · exact iteDF h (h2 h)
/-- o.f = .., among several targets -/
def gFld (K : PySem.W.Frag) (to : TE) (f : Str) : TG := fun v σ H Q => to σ H fun x H1 => ∃ a C dx fs, x = .ref a ∧ H1 a = some (.ins C dx fs) ∧ Cls K C ∧ NoAttr K C f ∧ fs.length < 1000 ∧ Q σ (upd H1 a (.ins C dx (putF f v fs)))
theorem pg_fld {X : Cx} {o : Expr} {to : TE} {f : Str} {pos : Pos} (ho : PE X o to) : PG X (.Attribute o f pos) (gFld X.K to f) := by
  refine ⟨fun pins s σ H v u Q I r h => ?_⟩
  rw [arm_assign_Attribute]
  refine wpAny_bind (wpAny_holding (thn (ho.run pins s σ H _ I h) fun ov s1 ⟨x, H1, I1, r1, a, C, dx, fs, ex, ea, c, n, l, q⟩ => ?_))
  subst ex
  obtain rfl : ov = Value.ref a := r1
  refine wpAny_bind (wpAny_standAt (wpAny_bind (wpAny_holding (setattr_ok I1 ea c n l r fun s2 I2 => ?_))))
  exact wpAny_release ⟨σ, _, I2, q⟩
end KT

namespace KT
open PySem L2
def top (i : Nat) : Stmt := PySem.Challenge.pw_knobturn_k08_whole_one_look_is_enough.main.body.getD i (.Pass ⟨0, 0, 0, 0⟩)
/-! ### rows: what a knob can go -/
abbrev Mv := Int × Bool
/-- moments since the latest turn (at most gap), whether it ever turned; one moment on -/
def stp (gap : Int) (s : Int × Bool) (m : Mv) : Int × Bool := (min gap ((if m.1 = 0 then s.1 else 0) + 1), s.2 || decide (m.1 ≠ 0))
def rst (gap : Int) (row : List Mv) : Int × Bool := row.foldl (stp gap) (gap, false)
structure OkM (gap bounce : Int) (s : Int × Bool) (m : Mv) : Prop where
  turn : m.1 = -1 ∨ m.1 = 0 ∨ m.1 = 1
  soon : m.1 ≠ 0 → gap ≤ s.1
  old : m.2 = true → (s.2 = true ∨ m.1 ≠ 0) ∧ (if m.1 = 0 then s.1 else 0) < bounce
structure Good (gap bounce : Int) (row : List Mv) : Prop where
  len : row.length ≤ 200
  ok : ∀ (i : Nat) (m : Mv), row[i]? = some m → OkM gap bounce (rst gap (row.take i)) m
theorem take_snoc {α : Type} {l : List α} {i : Nat} {x : α} (h : l[i]? = some x) : l.take (i + 1) = l.take i ++ [x] := by
  rw [List.take_add_one, h]
  rfl
theorem rst_snoc {gap : Int} {row : List Mv} {i : Nat} {m : Mv} (h : row[i]? = some m) : rst gap (row.take (i + 1)) = stp gap (rst gap (row.take i)) m := by
  unfold rst
  rw [take_snoc h, List.foldl_append]
  rfl
theorem rst_app {gap : Int} {row : List Mv} {m : Mv} : rst gap (row ++ [m]) = stp gap (rst gap row) m := by
  unfold rst
  rw [List.foldl_append]
  rfl
theorem good_snoc {gap bounce : Int} {row : List Mv} {m : Mv} (h : Good gap bounce row) (hl : row.length < 200) (hm : OkM gap bounce (rst gap row) m) : Good gap bounce (row ++ [m]) := by
  refine ⟨by rw [List.length_append, List.length_singleton]; omega, fun i x hx => ?_⟩
  by_cases hi : i < row.length
  · rw [List.getElem?_append_left hi] at hx
    rw [List.take_append_of_le_length (by omega)]
    exact h.ok i x hx
  · have hi2 : i = row.length := by
      have := (List.getElem?_eq_some_iff.mp hx).1
      rw [List.length_append, List.length_singleton] at this
      omega
    subst hi2
    simp at hx
    subst hx
    rw [List.take_append_of_le_length (Nat.le_refl _), List.take_length]
    exact hm
theorem good_nil {gap bounce : Int} : Good gap bounce [] := ⟨by simp, fun i m h => by simp at h⟩
def mvD (m : Mv) : PyData := .tuple [.int m.1, .bool m.2]
def rowD (row : List Mv) : PyData := .list (row.map mvD)
def knD (g b : Int) : PyData := .tuple [.int g, .int b]
/-- (where the knob is, which the latest turn was) -/
def pst (s : Int × Int) (m : Mv) : Int × Int := (s.1 + m.1, if m.1 = 0 then s.2 else m.1)
def pas (row : List Mv) : Int × Int := row.foldl pst (0, 0)
/-- what is told of a moment: where the knob is, where it is seen to be -/
def seenOf (s : Int × Int) (old : Bool) : Int × Int := (s.1, if old then s.1 - s.2 else s.1)
def plcs (row : List Mv) : List (Int × Int) := (List.range row.length).map fun i => match row[i]? with
  | some m => seenOf (pas (row.take (i + 1))) m.2
  | none => (0, 0)
theorem pas_snoc {row : List Mv} {i : Nat} {m : Mv} (h : row[i]? = some m) : pas (row.take (i + 1)) = pst (pas (row.take i)) m := by
  unfold pas
  rw [take_snoc h, List.foldl_append]
  rfl
theorem plcs_take {row : List Mv} {i : Nat} (hi : i ≤ row.length) : plcs (row.take i) = (plcs row).take i := by
  unfold plcs
  rw [List.length_take, Nat.min_eq_left hi, ← List.map_take, List.take_range, Nat.min_eq_left hi]
  refine List.map_congr_left fun j hj => ?_
  have hj : j < i := List.mem_range.mp hj
  rw [List.getElem?_take, if_pos hj, List.take_take, Nat.min_eq_left hj]
theorem plcs_snoc {row : List Mv} {i : Nat} {m : Mv} (h : row[i]? = some m) : plcs (row.take (i + 1)) = plcs (row.take i) ++ [seenOf (pst (pas (row.take i)) m) m.2] := by
  have hi := (List.getElem?_eq_some_iff.mp h).1
  rw [plcs_take hi, plcs_take (Nat.le_of_lt hi), List.take_add_one]
  have e : (plcs row)[i]? = some (seenOf (pst (pas (row.take i)) m) m.2) := by
    unfold plcs
    rw [List.getElem?_map, List.getElem?_range hi, Option.map_some, h]
    show some (seenOf (pas (row.take (i + 1))) m.2) = _
    rw [pas_snoc h]
  rw [e]
  rfl
theorem plcs_length (row : List Mv) : (plcs row).length = row.length := by unfold plcs; simp
def ppD (p : Int × Int) : PyData := .tuple [.int p.1, .int p.2]
/-- what both wires show in a place -/
def pr (z : Int) : Int × Int := if z % 4 = 0 then (0, 0) else if z % 4 = 1 then (0, 1) else if z % 4 = 2 then (1, 1) else (1, 0)
theorem mod4 (z : Int) : z % 4 = 0 ∨ z % 4 = 1 ∨ z % 4 = 2 ∨ z % 4 = 3 := by omega
/-- lists and tuples at most n deep, of bounded length -/
def Nest : Nat → PyData → Prop
  | _, .none => True
  | _, .bool _ => True
  | _, .int _ => True
  | _, .str x => PyData.strOk x = true
  | n + 1, .list ds => ds.length ≤ 1000 ∧ ∀ d ∈ ds, Nest n d
  | n + 1, .tuple ds => ds.length ≤ 1000 ∧ ∀ d ∈ ds, Nest n d
  | _, _ => False
/-! ### the dice -/
/-- the numbers of the dice: a number below 2 ^ 31, what is left of a great number, great numbers -/
def Dice (ns : List Int) : Prop := ∃ (a b : Int) (r : List Int), ns = a :: b :: r ∧ 0 ≤ a ∧ a < 2147483647 ∧ 0 ≤ b ∧ (∀ x ∈ r, 0 < x) ∧ r.length ≤ 63
def spDice (K : PySem.W.Frag) : Sp := fun vs H Q _ => ∃ (a : Addr) (ns : List Int), vs = [.ref a, .int 0] ∧ SqL K H a (ns.map V.int) ∧ ns.length ≤ 63 ∧
  ∀ (p : Addr) (ms : List Int) (H' : Hp), H p = none → Same H H' → H' p = some (.lst (ms.map V.int)) → Dice ms → Q (.ref p) H'
/-- a draw below m: any -/
def spOff : Sp := fun vs H Q _ => ∃ (d : Addr) (ns : List Int) (m : Int), vs = [.ref d, .int m] ∧ H d = some (.lst (ns.map V.int)) ∧ Dice ns ∧ 0 < m ∧ m < 1073741824 ∧
  ∀ (v : Int) (ms : List Int), 0 ≤ v → v < m → Dice ms → Q (.int v) (upd H d (.lst (ms.map V.int)))
section
variable {P : Program} {w : World} {K : PySem.W.Frag} {mg : Str → Option Value} {base : Heap}
theorem sc_dice : FnScope ["_law_script", "_law_k", "_law_found", "_law_cell"] ["_law_script", "_law_k"] (defScope (top 15)) := ⟨rfl, rfl, rfl, by decide +kernel, rfl, by decide +kernel, by decide +kernel⟩
theorem ok_dice {f : Addr} {fd : FuncData} (F : Fun K "_law_dice" "_law_dice" (top 15) f fd) (n_abs : mg "abs" = none) : FnOk P w K mg base CX0 1 f fd ["_law_script", "_law_k"] (spDice K) := by
  have sc := sc_dice
  refine F.ok sc (fun vs H Q E h => ?_) (fun cdv A outer s H vs Q E hr h => ?_)
  · obtain ⟨a, ns, rfl, _⟩ := h
    rfl
  · obtain ⟨a, ns, rfl, hS, hlen, k⟩ := h
    refine ⟨_, (pss_cons (ps_set (i := 2) sc.nd rfl (Or.inl rfl) (pv 1))
(pss_cons (ps_for PassesOwn.never rfl (pi_list (pv 0)) (pg_name (i := 3) sc.nd rfl (Or.inl rfl))
(pss_one (ps_set (i := 2) sc.nd rfl (Or.inl rfl) (pe_op op_mod (pe_op op_add (pe_op op_mul (pv 2) pe_int) (pe_callB call_abs (by rfl) n_abs (by decide +kernel) (pa_cons (pv 3) pa_nil))) pe_int))))
(pss_one (ps_ret (pe_op op_cat (pe_lst (pa_cons (pv 2) (pa_cons pe_int pa_nil))) (pe_lc (own := [("_law_cell", 3)]) (g := gName 3) rfl sc.nd (pi_list (pv 0)) (blkOk_by (own := [("_law_cell", 3)]) (N := ["_law_script", "_law_k", "_law_found", "_law_cell"]) (sc := defScope (top 15)) (by decide +kernel)) (fun _ _ _ _ _ => (pg_name (i := 3) sc.nd rfl (Or.inl rfl))) (fun _ _ _ _ _ => (pts_one (pt_cmpR op_ge (pv 3) (pe_op op_pow pe_int pe_int) (nomark _)))) (fun _ _ _ _ _ => (pv 3)))))))), ?_⟩
    refine ⟨_, rfl, _, rfl, a, rfl, ⟨_, hS⟩, for_list (K := K) (a := a) (xs := ns.map V.int) (fun i σ H' => ∃ (f : Int) (v : Option V), σ = [some (.ref a), some (.int 0), some (.int f), v] ∧ 0 ≤ f ∧ f < 2147483647 ∧ H' = H)
      ⟨0, none, rfl, by omega, by omega, rfl⟩ (fun i σ H' _ ⟨_, _, _, _, _, e⟩ => by rw [e]; exact hS) ?_ ?_⟩
    · rintro i y σ H' hi ⟨f, v, rfl, f0, f1, rfl⟩
      obtain ⟨z, _, rfl⟩ := int_at hi
      refine ⟨_, rfl, _, _, rfl, rfl, .inl ⟨by omega, by omega⟩, _, rfl, _, rfl, _, _, rfl, rfl, _, _, rfl, rfl, (by show (0 : Int) < 2147483647; decide), ?_⟩
      exact ⟨_, _, rfl, Int.emod_nonneg _ (by decide), Int.emod_lt_of_pos _ (by decide), rfl⟩
    · rintro σ H' ⟨f, v, rfl, f0, f1, rfl⟩
      refine ⟨_, rfl, (by show 2 ≤ sizeLine; decide), fun l hl => ?_⟩
      have s1 : Same H' (upd H' l (.lst [.int f, .int 0])) := same_new hl
      refine ⟨_, rfl, a, rfl, ⟨_, s1.seq hS⟩, fun D hD => lc_list (K := K) (a := a) (xs := ns.map V.int) (fun i H2 => ∃ ms : List Int, H2 = upd (upd H' l (.lst [.int f, .int 0])) D (.lst (ms.map V.int)) ∧ (∀ x ∈ ms, 0 < x) ∧ ms.length ≤ i)
        ⟨[], rfl, by simp, by simp⟩ (fun i H2 _ ⟨ms, e, _⟩ => by rw [e]; exact (s1.trans (same_new hD)).seq hS) ?_ ?_⟩
      · rintro i y H2 hi ⟨ms, rfl, hp, hm⟩
        obtain ⟨z, hz, rfl⟩ := int_at hi
        have hil := (List.getElem?_eq_some_iff.mp hz).1
        refine ⟨rfl, _, rfl, _, _, rfl, rfl, ⟨by decide, by decide, by decide⟩, _, _, rfl, rfl, _, rfl, ?_⟩
        by_cases c : (10 : Int) ^ (18 : Int).toNat ≤ z
        · rw [decide_eq_true c]
          refine iteT ⟨_, rfl, ms.map V.int, upd_same, ?_, ms ++ [z], ?_, ?_, ?_⟩
          · rw [List.length_map]; exact small1000 (by omega)
          · rw [upd_upd, List.map_append]; rfl
          · intro x hx
            rcases List.mem_append.mp hx with hx | hx
            · exact hp x hx
            · rw [List.mem_singleton.mp hx]
              have : (10 : Int) ^ (18 : Int).toNat = 1000000000000000000 := by decide
              omega
          · rw [List.length_append, List.length_singleton]; omega
        · rw [decide_eq_false c]
          exact iteF ⟨ms, rfl, hp, by omega⟩
      · rintro H2 ⟨ms, rfl, hms, hm⟩
        rw [List.length_map] at hm
        have nl : l ≠ D := fun z => by rw [z, upd_same] at hD; cases hD
        refine ⟨l, D, [.int f, .int 0], ms.map V.int, rfl, rfl, (by rw [upd_ne nl, upd_same]), upd_same, ?_, fun p hp => ?_⟩
        · rw [List.length_map]
          exact Nat.le_of_lt (small1000 (by show 2 + ms.length ≤ 1000; omega))
        · have s2 : Same H' (upd (upd H' l (.lst [.int f, .int 0])) D (.lst (ms.map V.int))) := s1.trans (same_new hD)
          exact k p (f :: 0 :: ms) _ (s2.free hp) (s2.trans (same_new hp)) upd_same ⟨f, 0, ms, rfl, f0, f1, by omega, hms, by omega⟩
theorem sc_off : FnScope ["_law_d", "_law_most", "_law_found"] ["_law_d", "_law_most"] (defScope (top 16)) := ⟨rfl, rfl, rfl, by decide +kernel, rfl, by decide +kernel, by decide +kernel⟩
theorem ok_off {f : Addr} {fd : FuncData} (F : Fun K "_law_off" "_law_off" (top 16) f fd) (n_len : mg "len" = none) : FnOk P w K mg base CX0 1 f fd ["_law_d", "_law_most"] spOff := by
  have sc := sc_off
  refine F.ok sc (fun vs H Q E h => ?_) (fun cdv A outer s H vs Q E hr h => ?_)
  · obtain ⟨d, ns, m, rfl, _⟩ := h
    rfl
  · obtain ⟨d, ns, m, rfl, hd, hD, m0, m1, k⟩ := h
    refine ⟨_, (C8.pss_cut (ps_if (PW.pt (pw_and (pt_cmpR op_eq (pe_ix (r := rIxL K) ix_list (pv 0) pe_int (fun _ _ => rfl)) pe_int (nomark _)) (pw_and1 (pt_cmpR op_gt (pe_callB (r := rLenQ K) call_lenQ (by rfl) n_len PySem.boot_len (pa_cons (pv 0) pa_nil)) pe_int (nomark _)))))
(pss_one (ps_asg (pe_bm PySem.F.plainAttrs_list PySem.F.slot_list_pop PySem.F.type_list_pop mt_popAt (pv 0) (pa_cons pe_int pa_nil)) (pg_sub (pv 0) pe_int set_list)))
pss_nil)
(pss_cons (ps_if (pt_cmpR op_gt (pe_ix (r := rIxL K) ix_list (pv 0) pe_int (fun _ _ => rfl)) pe_int (nomark _))
(pss_cons (ps_set (i := 2) sc.nd rfl (Or.inl rfl) (pe_op op_mod (pe_ix (r := rIxL K) ix_list (pv 0) pe_int (fun _ _ => rfl)) (pv 1)))
(pss_cons (ps_asg (pe_op op_fdiv (pe_ix (r := rIxL K) ix_list (pv 0) pe_int (fun _ _ => rfl)) (pv 1)) (pg_sub (pv 0) pe_int set_list))
(pss_one (ps_ret (pv 2)))))
pss_nil)
(pss_cons (ps_asg (pe_op op_mod (pe_op op_add (pe_op op_mul (pe_ix (r := rIxL K) ix_list (pv 0) pe_int (fun _ _ => rfl)) pe_int) pe_int) pe_int) (pg_sub (pv 0) pe_int set_list))
(pss_one (ps_ret (pe_op op_mod (pe_op op_fdiv (pe_ix (r := rIxL K) ix_list (pv 0) pe_int (fun _ _ => rfl)) pe_int) (pv 1))))))), ?_⟩
    refine ⟨fun σ H' => ∃ ms : List Int, σ = [some (.ref d), some (.int m), none] ∧ H' = upd H d (.lst (ms.map V.int)) ∧ Dice ms, ?_, ?_⟩
    · obtain ⟨a, b, r, rfl, a0, a1, b0, hr', rl⟩ := hD
      refine ⟨_, rfl, d, _, _, _, rfl, rfl, SqL.of hd, at_of (j := 1) rfl rfl, rfl, _, rfl, ?_⟩
      refine ite2 (fun c => ?_) (fun c => ?_)
      · refine ⟨_, rfl, d, _, rfl, .inl (SqL.of hd), _, _, rfl, rfl, _, rfl, ?_⟩
        refine ite2 (fun c2 => ?_) (fun c2 => ?_)
        · cases r with
          | nil => simp at c2
          | cons x r =>
            refine ⟨_, rfl, .inl ⟨rfl, _, SqL.of hd⟩, d, _, 2, 2, _, rfl, rfl, hd, by decide, by decide, ?_, rfl, ?_⟩
            · show seqIndex? 2 ((a :: b :: x :: r).map V.int).length = some 2
              rw [List.length_map]
              exact seqIndex_nat (by simp)
            · refine ⟨_, rfl, d, _, 1, 1, rfl, rfl, upd_same, ixN_nat (by simp), ?_⟩
              refine ⟨a :: x :: r, rfl, by rw [upd_upd]; rfl, a, x, r, rfl, a0, a1, Int.le_of_lt (hr' x (by simp)), fun y hy => hr' y (by simp [hy]), by simp at rl; omega⟩
        · exact ⟨_, rfl, (upd_id hd).symm, a, b, r, rfl, a0, a1, b0, hr', rl⟩
      · exact ⟨_, rfl, (upd_id hd).symm, a, b, r, rfl, a0, a1, b0, hr', rl⟩
    · rintro σ H' ⟨ms, rfl, rfl, hD2⟩
      obtain ⟨a, b, r, rfl, a0, a1, b0, hr', rl⟩ := hD2
      refine ⟨_, rfl, d, _, _, _, rfl, rfl, SqL.of upd_same, at_of (j := 1) rfl rfl, _, _, rfl, rfl, _, rfl, ?_⟩
      refine ite2 (fun c => ?_) (fun c => ?_)
      · refine ⟨_, rfl, d, _, _, _, rfl, rfl, SqL.of upd_same, at_of (j := 1) rfl rfl, _, rfl, _, _, rfl, rfl, m0, ?_⟩
        refine ⟨_, rfl, d, _, _, _, rfl, rfl, SqL.of upd_same, at_of (j := 1) rfl rfl, _, rfl, _, _, rfl, rfl, ⟨m0, m1⟩, _, rfl, d, _, 1, 1, rfl, rfl, upd_same, ixN_nat (by simp), ?_⟩
        refine ⟨_, rfl, ?_⟩
        rw [upd_upd]
        exact k (b % m) (a :: b / m :: r) (Int.emod_nonneg _ (by omega)) (Int.emod_lt_of_pos _ m0) ⟨a, b / m, r, rfl, a0, a1, Int.ediv_nonneg b0 (by omega), hr', rl⟩
      · refine ⟨_, rfl, d, _, _, _, rfl, rfl, SqL.of upd_same, at_of (j := 0) rfl rfl, _, _, rfl, rfl, .inl ⟨by omega, by omega⟩, _, _, rfl, rfl, _, _, rfl, rfl, (by show (0 : Int) < 2147483647; decide), _, rfl, d, _, 0, 0, rfl, rfl, upd_same, ixN_nat (by simp), ?_⟩
        rw [upd_upd]
        refine ⟨_, rfl, d, _, _, _, rfl, rfl, SqL.of upd_same, at_of (j := 0) rfl rfl, _, _, rfl, rfl, ⟨by decide, by decide⟩, _, rfl, _, _, rfl, rfl, m0, ?_⟩
        exact k _ (((a * 48271 + 11) % 2147483647) :: b :: r) (Int.emod_nonneg _ (by omega)) (Int.emod_lt_of_pos _ m0) ⟨_, b, r, rfl, Int.emod_nonneg _ (by decide), Int.emod_lt_of_pos _ (by decide), b0, hr', rl⟩
end
/-! ### a knob -/
def spKnob : Sp := fun vs H Q _ => ∃ (d : Addr) (ns : List Int), vs = [.ref d] ∧ H d = some (.lst (ns.map V.int)) ∧ Dice ns ∧
  ∀ (g b : Int) (ms : List Int) (p : Addr), 1 ≤ g → g ≤ 6 → 0 ≤ b → b ≤ g → Dice ms → H p = none → Q (.ref p) (upd (upd H d (.lst (ms.map V.int))) p (.tup [.int g, .int b]))
section
variable {P : Program} {w : World} {K : PySem.W.Frag} {mg : Str → Option Value} {base : Heap}
theorem sc_knob : FnScope ["_law_d", "_law_gap"] ["_law_d"] (defScope (top 18)) := ⟨rfl, rfl, rfl, by decide +kernel, rfl, by decide +kernel, by decide +kernel⟩
theorem ok_knob {f : Addr} {fd : FuncData} (F : Fun K "_law_knob" "_law_knob" (top 18) f fd) (c__law_off : Cal P w K mg base 1 "_law_off" ["_law_d", "_law_most"] spOff) : FnOk P w K mg base CX0 2 f fd ["_law_d"] spKnob := by
  have sc := sc_knob
  refine F.ok sc (fun vs H Q E h => ?_) (fun cdv A outer s H vs Q E hr h => ?_)
  · obtain ⟨d, ns, rfl, _⟩ := h
    rfl
  · obtain ⟨d, ns, rfl, hd, hD, k⟩ := h
    refine ⟨_, (pss_cons (ps_set (i := 1) sc.nd rfl (Or.inl rfl) (pe_op op_add pe_int (pe_cal c__law_off (hr.mono (by first | decide | omega)) (pa_cons (pv 0) (pa_cons pe_int pa_nil)))))
(pss_one (ps_ret (pe_tup (pa_cons (pv 1) (pa_cons (pe_cal c__law_off (hr.mono (by first | decide | omega)) (pa_cons (pv 0) (pa_cons (pe_op op_add (pv 1) pe_int) pa_nil))) pa_nil)))))), ?_⟩
    refine ⟨_, rfl, d, ns, 6, rfl, hd, hD, by decide, by decide, fun v ms v0 v1 hD1 => ?_⟩
    refine ⟨_, _, rfl, rfl, ?_⟩
    refine ⟨_, rfl, _, rfl, _, rfl, _, _, rfl, rfl, d, ms, 1 + v + 1, rfl, upd_same, hD1, by omega, by omega, fun u ms2 u0 u1 hD2 => ?_⟩
    refine ⟨(by show 2 ≤ sizeLine; decide), fun p hp => ?_⟩
    rw [upd_upd] at hp ⊢
    exact k (1 + v) u ms2 p (by omega) (by omega) u0 (by omega) hD2 (by
      have n : p ≠ d := fun z => by rw [z, upd_same] at hp; cases hp
      rw [upd_ne n] at hp; exact hp)
end
/-! ### data that are alike -/
/-- alike of two readings of one thing -/
def spAlike (K : PySem.W.Frag) : Nat → Sp
  | 0 => fun _ _ _ _ => False
  | n + 1 => fun vs H Q _ => ∃ (v u : V) (d : PyData), vs = [v, u] ∧ Dp K H v d ∧ Dp K H u d ∧ Nest n d ∧ ∀ H', Same H H' → Q (.bl true) H'
section
variable {K : PySem.W.Frag} {H : Hp} {σ : St} {x : V} {i : Nat} {t T : String} {b : Bool}
theorem e_isi {Q : VK} (h : σ[i]? = some (some x)) (ty : TyX K H x (.type t)) (e : kitB t T = some b) (q : Q (.bl b) H) : tCB (rIsi K) (tCons (tVar i) (tCons (tC (.ty T)) tNil)) σ H Q :=
  ⟨x, h, x, .ty T, .type t, .type T, b, rfl, .ty T, ty, kit_ty e, q⟩
theorem t_isi {Q : Bool → Hp → Prop} (h : σ[i]? = some (some x)) (ty : TyX K H x (.type t)) (e : kitB t T = some b) (q : Q b H) : tB (tCB (rIsi K) (tCons (tVar i) (tCons (tC (.ty T)) tNil))) σ H Q :=
  e_isi h ty e ⟨b, rfl, q⟩
theorem t_isi2 {Q : Bool → Hp → Prop} {j : Nat} {y : V} (h : σ[i]? = some (some x)) (h' : σ[j]? = some (some y)) (ty : TyX K H x (.type t)) (ty' : TyX K H y (.type t)) (e : kitB t T = some b) (q : Q false H) :
    tTest (tOp rNe (tCB (rIsi K) (tCons (tVar i) (tCons (tC (.ty T)) tNil))) (tCB (rIsi K) (tCons (tVar j) (tCons (tC (.ty T)) tNil)))) σ H Q := by
  refine e_isi h ty e (e_isi h' ty' e ⟨rfl, _, rfl, ?_⟩)
  rw [decide_eq_true rfl]
  exact q
end
section
variable {P : Program} {w : World} {K : PySem.W.Frag} {mg : Str → Option Value} {base : Heap}
theorem sc_alike : FnScope ["_law_found", "_law_due", "_law_k"] ["_law_found", "_law_due"] (defScope (top 17)) := ⟨rfl, rfl, rfl, by decide +kernel, rfl, by decide +kernel, by decide +kernel⟩
theorem ok_alike0 {f : Addr} {fd : FuncData} (F : Fun K "_law_alike" "_law_alike" (top 17) f fd) : FnOk P w K mg base CX0 1 f fd ["_law_found", "_law_due"] (spAlike K 0) :=
  F.ok sc_alike (fun vs H Q E h => h.elim) (fun cdv A outer s H vs Q E hr h => h.elim)
theorem ok_alikeS {f : Addr} {fd : FuncData} {n : Nat} (F : Fun K "_law_alike" "_law_alike" (top 17) f fd) (c__law_alike : Cal P w K mg base (n + 1) "_law_alike" ["_law_found", "_law_due"] (spAlike K n))
    (n_isinstance : mg "isinstance" = none) (n_bool : mg "bool" = none) (n_int : mg "int" = none) (n_str : mg "str" = none) (n_tuple : mg "tuple" = none) (n_list : mg "list" = none) (n_len : mg "len" = none) (n_all : mg "all" = none) (n_range : mg "range" = none) :
    FnOk P w K mg base CX0 (n + 2) f fd ["_law_found", "_law_due"] (spAlike K (n + 1)) := by
  have sc := sc_alike
  refine F.ok sc (fun vs H Q E h => ?_) (fun cdv A outer s H vs Q E hr h => ?_)
  · obtain ⟨v, u, d, rfl, _⟩ := h
    rfl
  · obtain ⟨v, u, d, rfl, hv, hu, hN, k⟩ := h
    refine ⟨_, (pss_cons (ps_if (pt_cmpR op_isN (pv 1) pe_non (nomark _))
(pss_one (ps_ret (pe_cmpR op_isN (pv 0) pe_non (nomark _))))
pss_nil)
(pss_cons (ps_if (pt_val (pe_callB (r := rIsi K) call_isi (by rfl) n_isinstance (by decide +kernel) (pa_cons (pv 1) (pa_cons (pe_bltn (v := .ty "bool") (by rfl) n_bool (by decide +kernel) rfl) pa_nil))))
(pss_one (ps_ret (pe_and (pe_callB (r := rIsi K) call_isi (by rfl) n_isinstance (by decide +kernel) (pa_cons (pv 0) (pa_cons (pe_bltn (v := .ty "bool") (by rfl) n_bool (by decide +kernel) rfl) pa_nil))) (pe_one (pe_cmpR op_eq (pv 0) (pv 1) (nomark _))))))
pss_nil)
(pss_cons (ps_if (pt_val (pe_callB (r := rIsi K) call_isi (by rfl) n_isinstance (by decide +kernel) (pa_cons (pv 1) (pa_cons (pe_bltn (v := .ty "int") (by rfl) n_int (by decide +kernel) rfl) pa_nil))))
(pss_one (ps_ret (pe_and (pe_callB (r := rIsi K) call_isi (by rfl) n_isinstance (by decide +kernel) (pa_cons (pv 0) (pa_cons (pe_bltn (v := .ty "int") (by rfl) n_int (by decide +kernel) rfl) pa_nil))) (pe_and (pe_not (pe_callB (r := rIsi K) call_isi (by rfl) n_isinstance (by decide +kernel) (pa_cons (pv 0) (pa_cons (pe_bltn (v := .ty "bool") (by rfl) n_bool (by decide +kernel) rfl) pa_nil)))) (pe_one (pe_cmpR op_eq (pv 0) (pv 1) (nomark _)))))))
pss_nil)
(pss_cons (ps_if (pt_val (pe_callB (r := rIsi K) call_isi (by rfl) n_isinstance (by decide +kernel) (pa_cons (pv 1) (pa_cons (pe_bltn (v := .ty "str") (by rfl) n_str (by decide +kernel) rfl) pa_nil))))
(pss_one (ps_ret (pe_and (pe_callB (r := rIsi K) call_isi (by rfl) n_isinstance (by decide +kernel) (pa_cons (pv 0) (pa_cons (pe_bltn (v := .ty "str") (by rfl) n_str (by decide +kernel) rfl) pa_nil))) (pe_one (pe_cmpR op_eq (pv 0) (pv 1) (nomark _))))))
pss_nil)
(pss_cons (ps_if (PW.pt (pw_or (pt_cmpR op_ne (pe_callB (r := rIsi K) call_isi (by rfl) n_isinstance (by decide +kernel) (pa_cons (pv 1) (pa_cons (pe_bltn (v := .ty "tuple") (by rfl) n_tuple (by decide +kernel) rfl) pa_nil))) (pe_callB (r := rIsi K) call_isi (by rfl) n_isinstance (by decide +kernel) (pa_cons (pv 0) (pa_cons (pe_bltn (v := .ty "tuple") (by rfl) n_tuple (by decide +kernel) rfl) pa_nil))) (nomark _)) (pw_or1 (pt_cmpR op_ne (pe_callB (r := rIsi K) call_isi (by rfl) n_isinstance (by decide +kernel) (pa_cons (pv 1) (pa_cons (pe_bltn (v := .ty "list") (by rfl) n_list (by decide +kernel) rfl) pa_nil))) (pe_callB (r := rIsi K) call_isi (by rfl) n_isinstance (by decide +kernel) (pa_cons (pv 0) (pa_cons (pe_bltn (v := .ty "list") (by rfl) n_list (by decide +kernel) rfl) pa_nil))) (nomark _)))))
(pss_one (ps_ret pe_bl))
pss_nil)
(pss_cons (ps_if (pt_cmpR op_ne (pe_callB (r := rLenQ K) call_lenQ (by rfl) n_len PySem.boot_len (pa_cons (pv 0) pa_nil)) (pe_callB (r := rLenQ K) call_lenQ (by rfl) n_len PySem.boot_len (pa_cons (pv 1) pa_nil)) (nomark _))
(pss_one (ps_ret pe_bl))
pss_nil)
(pss_one (ps_ret (pe_callB (r := rAll K) (cr_all rfl) (by rfl) n_all (by decide +kernel) (pa_cons (pe_lc (own := [("_law_k", 2)]) (g := gName 2) rfl sc.nd (pi_range1 rfl n_range (pa_cons (pe_callB (r := rLenQ K) call_lenQ (by rfl) n_len PySem.boot_len (pa_cons (pv 1) pa_nil)) pa_nil)) (blkOk_by (own := [("_law_k", 2)]) (N := ["_law_found", "_law_due", "_law_k"]) (sc := defScope (top 17)) (by decide +kernel)) (fun _ _ _ _ _ => (pg_name (i := 2) sc.nd rfl (Or.inl rfl))) (fun _ _ _ _ _ => pts_nil) (fun _ _ _ _ _ => (pe_cal c__law_alike (hr.mono (by first | decide | omega)) (pa_cons (pe_ix (r := rIx K) ix_seq (pv 0) (pv 2) (fun _ _ => rfl)) (pa_cons (pe_ix (r := rIx K) ix_seq (pv 1) (pv 2) (fun _ _ => rfl)) pa_nil))))) pa_nil)))))))))), ?_⟩
    refine ⟨_, rfl, rfl, _, rfl, ?_⟩
    cases d with
    | none =>
      cases hv; cases hu
      exact iteDT rfl ⟨_, rfl, rfl, by rw [decide_eq_true rfl]; exact k H (Same.refl H)⟩
    | bool b =>
      cases hv; cases hu
      refine iteDF (by simp) (t_isi (t := "bool") (b := true) rfl (.base (.bl b)) (by decide +kernel) (iteT ?_))
      refine e_isi (t := "bool") (b := true) rfl (.base (.bl b)) (by decide +kernel) ⟨_, rfl, iteT ⟨_, rfl, _, rfl, rfl, ?_⟩⟩
      rw [decide_eq_true rfl]; exact k H (Same.refl H)
    | int b =>
      cases hv; cases hu
      refine iteDF (by simp) (t_isi (t := "int") (b := false) rfl (.base (.int b)) (by decide +kernel) (iteF ?_))
      refine t_isi (t := "int") (b := true) rfl (.base (.int b)) (by decide +kernel) (iteT ?_)
      refine e_isi (t := "int") (b := true) rfl (.base (.int b)) (by decide +kernel) ⟨_, rfl, iteT ?_⟩
      refine e_isi (t := "int") (b := false) rfl (.base (.int b)) (by decide +kernel) ⟨_, rfl, _, rfl, iteT ⟨_, rfl, _, rfl, rfl, ?_⟩⟩
      rw [decide_eq_true rfl]; exact k H (Same.refl H)
    | str b =>
      cases hv; cases hu
      refine iteDF (by simp) (t_isi (t := "str") (b := false) rfl (.base (.str b)) (by decide +kernel) (iteF ?_))
      refine t_isi (t := "str") (b := false) rfl (.base (.str b)) (by decide +kernel) (iteF ?_)
      refine t_isi (t := "str") (b := true) rfl (.base (.str b)) (by decide +kernel) (iteT ?_)
      refine e_isi (t := "str") (b := true) rfl (.base (.str b)) (by decide +kernel) ⟨_, rfl, iteT ⟨_, rfl, _, rfl, rfl, ?_⟩⟩
      rw [decide_eq_true rfl]; exact k H (Same.refl H)
    | list ds =>
      obtain ⟨a, xs, rfl, hL, hX⟩ := dp_lst hv
      obtain ⟨b, ys, rfl, hM, hY⟩ := dp_lst hu
      have ta := ty_lst hL
      have tb := ty_lst hM
      have lx := dpa_length hX
      have ly := dpa_length hY
      refine iteDF (by simp) (t_isi (t := "list") (b := false) rfl tb (by decide +kernel) (iteF ?_))
      refine t_isi (t := "list") (b := false) rfl tb (by decide +kernel) (iteF ?_)
      refine t_isi (t := "list") (b := false) rfl tb (by decide +kernel) (iteF ?_)
      refine t_isi2 (t := "list") (b := false) rfl rfl tb ta (by decide +kernel) (iteF ?_)
      refine t_isi2 (t := "list") (b := true) rfl rfl tb ta (by decide +kernel) (iteF ?_)
      refine ⟨_, rfl, a, xs, rfl, .inl hL, _, rfl, b, ys, rfl, .inl hM, rfl, _, rfl, iteNS (vint_eq (by omega)) ?_⟩
      match n, hN, c__law_alike, hr with
      | n + 1, hN, c__law_alike, hr =>
      obtain ⟨hl, hN⟩ := hN
      refine ⟨_, rfl, b, ys, rfl, .inl hM, _, rfl, by omega, by omega, fun D hD => lc_range (lo := 0) (n := ((ys.length : Nat) : Int).toNat) (fun i H' => Same H H' ∧ H' D = some (.lst (List.replicate i (V.bl true)))) ⟨same_new hD, upd_same⟩ ?_ ?_⟩
      · rintro i H1 hi ⟨hs, hd1⟩
        have hiy : i < ys.length := by omega
        have hix : i < xs.length := by omega
        obtain ⟨d1, e1, q1⟩ := dpa_get hX (List.getElem?_eq_getElem hix)
        obtain ⟨d2, e2, q2⟩ := dpa_get hY (List.getElem?_eq_getElem hiy)
        rw [e1] at e2
        cases e2
        refine ⟨rfl, _, rfl, _, rfl, .inl ⟨a, xs, _, _, rfl, rfl, hs.seq hL, at_of (j := i) (by omega) (List.getElem?_eq_getElem hix), _, rfl, _, rfl, .inl ⟨b, ys, _, _, rfl, rfl, hs.seq hM, at_of (j := i) (by omega) (List.getElem?_eq_getElem hiy), ?_⟩⟩⟩
        refine ⟨_, _, d1, rfl, dp_same hs q1, dp_same hs q2, hN d1 (List.mem_of_getElem? e1), fun H2 hs2 => ?_⟩
        refine ⟨_, hs2 _ _ hd1, small1000 (by rw [List.length_replicate]; omega), same_put hD (hs.trans hs2), ?_⟩
        rw [upd_same, List.replicate_succ']
      · rintro H1 ⟨hs, hd1⟩
        refine ⟨D, List.replicate ((ys.length : Nat) : Int).toNat true, rfl, SqL.of (by rw [hd1, List.map_replicate]), ?_⟩
        rw [List.all_replicate]
        show Q (.bl (if _ then true else true)) _
        rw [ite_self]
        exact k _ hs
    | tuple ds =>
      obtain ⟨a, xs, rfl, hL, hX⟩ := dp_tup hv
      obtain ⟨b, ys, rfl, hM, hY⟩ := dp_tup hu
      have ta := ty_tup hL
      have tb := ty_tup hM
      have lx := dpa_length hX
      have ly := dpa_length hY
      refine iteDF (by simp) (t_isi (t := "tuple") (b := false) rfl tb (by decide +kernel) (iteF ?_))
      refine t_isi (t := "tuple") (b := false) rfl tb (by decide +kernel) (iteF ?_)
      refine t_isi (t := "tuple") (b := false) rfl tb (by decide +kernel) (iteF ?_)
      refine t_isi2 (t := "tuple") (b := true) rfl rfl tb ta (by decide +kernel) (iteF ?_)
      refine t_isi2 (t := "tuple") (b := false) rfl rfl tb ta (by decide +kernel) (iteF ?_)
      refine ⟨_, rfl, a, xs, rfl, .inr hL, _, rfl, b, ys, rfl, .inr hM, rfl, _, rfl, iteNS (vint_eq (by omega)) ?_⟩
      match n, hN, c__law_alike, hr with
      | n + 1, hN, c__law_alike, hr =>
      obtain ⟨hl, hN⟩ := hN
      refine ⟨_, rfl, b, ys, rfl, .inr hM, _, rfl, by omega, by omega, fun D hD => lc_range (lo := 0) (n := ((ys.length : Nat) : Int).toNat) (fun i H' => Same H H' ∧ H' D = some (.lst (List.replicate i (V.bl true)))) ⟨same_new hD, upd_same⟩ ?_ ?_⟩
      · rintro i H1 hi ⟨hs, hd1⟩
        have hiy : i < ys.length := by omega
        have hix : i < xs.length := by omega
        obtain ⟨d1, e1, q1⟩ := dpa_get hX (List.getElem?_eq_getElem hix)
        obtain ⟨d2, e2, q2⟩ := dpa_get hY (List.getElem?_eq_getElem hiy)
        rw [e1] at e2
        cases e2
        refine ⟨rfl, _, rfl, _, rfl, .inr (.inl ⟨a, xs, _, _, rfl, rfl, same_seqT hs hL, at_of (j := i) (by omega) (List.getElem?_eq_getElem hix), _, rfl, _, rfl, .inr (.inl ⟨b, ys, _, _, rfl, rfl, same_seqT hs hM, at_of (j := i) (by omega) (List.getElem?_eq_getElem hiy), ?_⟩)⟩)⟩
        refine ⟨_, _, d1, rfl, dp_same hs q1, dp_same hs q2, hN d1 (List.mem_of_getElem? e1), fun H2 hs2 => ?_⟩
        refine ⟨_, hs2 _ _ hd1, small1000 (by rw [List.length_replicate]; omega), same_put hD (hs.trans hs2), ?_⟩
        rw [upd_same, List.replicate_succ']
      · rintro H1 ⟨hs, hd1⟩
        refine ⟨D, List.replicate ((ys.length : Nat) : Int).toNat true, rfl, SqL.of (by rw [hd1, List.map_replicate]), ?_⟩
        rw [List.all_replicate]
        show Q (.bl (if _ then true else true)) _
        rw [ite_self]
        exact k _ hs
    | dict _ => cases hv
end
/-! ### what is alike itself by == -/
theorem lay_nest : ∀ (n : Nat) (d : PyData), Nest n d → d.canLay0 = true ∧ d.depth ≤ n := by
  have all : ∀ (n : Nat) (ds : List PyData), (∀ d ∈ ds, d.canLay0 = true ∧ d.depth ≤ n) → PyData.canLayAll0 ds = true ∧ PyData.depthAll ds ≤ n := by
    intro n ds
    induction ds with
    | nil => intro _; exact ⟨rfl, Nat.zero_le _⟩
    | cons d ds ih =>
      intro h
      obtain ⟨h1, h2⟩ := h d (by simp)
      obtain ⟨h3, h4⟩ := ih fun x hx => h x (by simp [hx])
      refine ⟨by simp [PyData.canLayAll0, h1, h3], ?_⟩
      show max d.depth (PyData.depthAll ds) ≤ n
      omega
  intro n
  induction n with
  | zero =>
    intro d h
    cases d with
    | none => exact ⟨rfl, Nat.le_refl _⟩
    | bool _ => exact ⟨rfl, Nat.le_refl _⟩
    | int _ => exact ⟨rfl, Nat.le_refl _⟩
    | str _ => exact ⟨h, Nat.le_refl _⟩
    | list _ => exact h.elim
    | tuple _ => exact h.elim
    | dict _ => exact h.elim
  | succ n ih =>
    intro d h
    cases d with
    | none => exact ⟨rfl, Nat.zero_le _⟩
    | bool _ => exact ⟨rfl, Nat.zero_le _⟩
    | int _ => exact ⟨rfl, Nat.zero_le _⟩
    | str _ => exact ⟨h, Nat.zero_le _⟩
    | list ds =>
      obtain ⟨h1, h2⟩ := all n ds fun d hd => ih d (h.2 d hd)
      exact ⟨by simpa [PyData.canLay0] using h1, Nat.succ_le_succ h2⟩
    | tuple ds =>
      obtain ⟨h1, h2⟩ := all n ds fun d hd => ih d (h.2 d hd)
      exact ⟨by simpa [PyData.canLay0] using h1, Nat.succ_le_succ h2⟩
    | dict _ => exact h.elim
theorem shaped_nest {n : Nat} {d : PyData} (h : Nest n d) (hn : n ≤ 64) : SeqAt.shaped d = true := by
  obtain ⟨h1, h2⟩ := lay_nest n d h
  unfold SeqAt.shaped
  rw [h1, decide_eq_true (Nat.le_trans h2 hn)]
  rfl
theorem eqv_nest {n : Nat} {d : PyData} (h : Nest n d) : PyData.eqv d d = true := SeqAt.eqv_refl d (lay_nest n d h).1
theorem nest_row {row : List Mv} (h : row.length ≤ 1000) : Nest 2 (rowD row) := by
  refine ⟨by rw [List.length_map]; exact h, fun d hd => ?_⟩
  obtain ⟨m, _, rfl⟩ := List.mem_map.mp hd
  refine ⟨by show 2 ≤ 1000; decide, fun x hx => ?_⟩
  simp at hx
  rcases hx with rfl | rfl <;> trivial
theorem nest_pairs {l : List (Int × Int)} (h : l.length ≤ 1000) : Nest 2 (.list (l.map ppD)) := by
  refine ⟨by rw [List.length_map]; exact h, fun d hd => ?_⟩
  obtain ⟨m, _, rfl⟩ := List.mem_map.mp hd
  refine ⟨by show 2 ≤ 1000; decide, fun x hx => ?_⟩
  simp at hx
  rcases hx with rfl | rfl <;> trivial
/-! ### slices, lists of ints as data -/
theorem cut_from {xs : List V} {i : Int} (h : 0 ≤ i) : cutV xs (some i) none = xs.drop i.toNat := by
  unfold cutV
  obtain ⟨n, rfl⟩ := Int.eq_ofNat_of_zero_le h
  rw [show (some (n : Int)) = some ((n : Nat) : Int) from rfl, HT.sIx_nat, HT.sIx_none, Int.toNat_natCast]
  by_cases q : n ≤ xs.length
  · rw [Nat.min_eq_left q, List.take_of_length_le (by rw [List.length_drop]; omega)]
  · rw [Nat.min_eq_right (by omega), Nat.sub_self, List.take_zero, List.drop_eq_nil_of_le (by omega)]
theorem cut_last {xs : List V} {i : Int} (h : 0 < i) : cutV xs (some (0 - i)) none = xs.drop (xs.length - i.toNat) := by
  unfold cutV
  have e : HT.sIx xs.length 0 (some (0 - i)) = xs.length - i.toNat := by
    show (if (0 - i) < 0 then ((0 - i) + (xs.length : Int)).toNat else _) = _
    rw [if_pos (by omega)]; omega
  rw [e, HT.sIx_none, List.take_of_length_le (by rw [List.length_drop]; omega)]
theorem cut_to {xs : List V} {i : Int} (h : 0 ≤ i) : cutV xs none (some i) = xs.take i.toNat := by
  unfold cutV
  obtain ⟨n, rfl⟩ := Int.eq_ofNat_of_zero_le h
  rw [show (some (n : Int)) = some ((n : Nat) : Int) from rfl, HT.sIx_nat, HT.sIx_none, Int.toNat_natCast, Nat.sub_zero, List.drop_zero]
  by_cases q : n ≤ xs.length
  · rw [Nat.min_eq_left q]
  · rw [Nat.min_eq_right (by omega), List.take_of_length_le (by omega), List.take_of_length_le (by omega)]
theorem cut_mid {xs : List V} {i j : Int} (h : 0 ≤ i) (hj : 0 ≤ j) : cutV xs (some i) (some j) = (xs.drop i.toNat).take (j.toNat - i.toNat) := by
  unfold cutV
  obtain ⟨n, rfl⟩ := Int.eq_ofNat_of_zero_le h
  obtain ⟨m, rfl⟩ := Int.eq_ofNat_of_zero_le hj
  rw [show (some (n : Int)) = some ((n : Nat) : Int) from rfl, show (some (m : Int)) = some ((m : Nat) : Int) from rfl, HT.sIx_nat, HT.sIx_nat, Int.toNat_natCast, Int.toNat_natCast]
  by_cases q : n ≤ xs.length
  · rw [Nat.min_eq_left q]
    by_cases q2 : m ≤ xs.length
    · rw [Nat.min_eq_left q2]
    · rw [Nat.min_eq_right (by omega), List.take_of_length_le (by rw [List.length_drop]; omega), List.take_of_length_le (by rw [List.length_drop]; omega)]
  · rw [show min n xs.length = xs.length by omega, List.drop_eq_nil_of_le (Nat.le_refl _), List.drop_eq_nil_of_le (show xs.length ≤ n by omega)]; simp
theorem nest_ints {ns : List Int} (h : ns.length ≤ 1000) : Nest 1 (.list (ns.map PyData.int)) := by
  refine ⟨by rw [List.length_map]; exact h, fun d hd => ?_⟩
  obtain ⟨m, _, rfl⟩ := List.mem_map.mp hd
  trivial
theorem eqv_nil (ds : List PyData) : PyData.eqv (.list ds) (.list []) = ds.isEmpty := by
  cases ds with
  | nil => rfl
  | cons d ds => rfl
theorem dp_ints {K : PySem.W.Frag} {H : Hp} {a : Addr} {ns : List Int} (h : SqL K H a (ns.map V.int)) : Dp K H (.ref a) (.list (ns.map PyData.int)) := .lst h (dpa_ints ns)
theorem dp_nilL {K : PySem.W.Frag} {H : Hp} {a : Addr} (h : SqL K H a []) : Dp K H (.ref a) (.list []) := .lst h .nil
/-! ### need_knob -/
def spNeedKnob (K : PySem.W.Frag) : Sp := fun vs H Q _ => ∃ (v : V) (g b : Int), vs = [v] ∧ Dp K H v (knD g b) ∧ 1 ≤ g ∧ g ≤ 6 ∧ 0 ≤ b ∧ b ≤ g ∧ Q .non H
section
variable {P : Program} {w : World} {K : PySem.W.Frag} {mg : Str → Option Value} {base : Heap}
theorem sc_need_knob : FnScope ["knob", "gap", "bounce"] ["knob"] (defScope (top 8)) := ⟨rfl, rfl, rfl, by decide +kernel, rfl, by decide +kernel, by decide +kernel⟩
theorem ok_need_knob {f : Addr} {fd : FuncData} {t1 : Tok} (F : Fun K "need_knob" "need_knob" (top 8) f fd) (g_MOST_GAP : mg "MOST_GAP" = some (.int 6 t1)) : FnOk P w K mg base CX0 1 f fd ["knob"] (spNeedKnob K) := by
  have sc := sc_need_knob
  refine F.ok sc (fun vs H Q E h => ?_) (fun cdv A outer s H vs Q E hr h => ?_)
  · obtain ⟨v, g, b, rfl, _⟩ := h
    rfl
  · obtain ⟨v, g, b, rfl, hd, g1, g6, b0, b1, k⟩ := h
    obtain ⟨a, rfl, hT⟩ := dp_ii hd
    refine ⟨_, (pss_cons (ps_asg (pv 0) (pg_tup rfl (pgs_cons (pg_name (i := 1) sc.nd rfl (Or.inl rfl)) (pgs_cons (pg_name (i := 2) sc.nd rfl (Or.inl rfl)) pgs_nil))))
(pss_cons (ps_if (pt_not (pt_chain op_le op_le pe_int (pv 1) (pe_glob (v := .int 6) rfl g_MOST_GAP ⟨_, rfl⟩)))
(pss_one ps_never)
pss_nil)
(pss_one (ps_if (pt_not (pt_chain op_le op_le pe_int (pv 2) (pv 1)))
(pss_one ps_never)
pss_nil)))), ?_⟩
    refine ⟨_, rfl, a, _, rfl, hT, rfl, _, _, rfl, _, _, rfl, rfl, ?_⟩
    refine ⟨_, rfl, _, _, rfl, rfl, _, rfl, ?_⟩
    rw [decide_eq_true g1]
    refine iteT ⟨_, _, rfl, rfl, _, rfl, ?_⟩
    rw [decide_eq_true g6]
    refine iteF ?_
    refine ⟨_, rfl, _, _, rfl, rfl, _, rfl, ?_⟩
    rw [decide_eq_true b0]
    refine iteT ⟨_, rfl, _, _, rfl, rfl, _, rfl, ?_⟩
    rw [decide_eq_true b1]
    exact iteF k
end
/-! ### need_reader -/
def spNeedReader (K : PySem.W.Frag) : Sp := fun vs H Q _ => ∃ (v : V) (a s : Int), vs = [v] ∧ Dp K H v (knD a s) ∧ 1 ≤ a ∧ a ≤ 6 ∧ 1 ≤ s ∧ s ≤ 3 ∧ Q .non H
section
variable {P : Program} {w : World} {K : PySem.W.Frag} {mg : Str → Option Value} {base : Heap}
theorem sc_need_reader : FnScope ["reader", "apart", "same"] ["reader"] (defScope (top 9)) := ⟨rfl, rfl, rfl, by decide +kernel, rfl, by decide +kernel, by decide +kernel⟩
theorem ok_need_reader {f : Addr} {fd : FuncData} {t1 t2 : Tok} (F : Fun K "need_reader" "need_reader" (top 9) f fd) (g_MOST_APART : mg "MOST_APART" = some (.int 6 t1)) (g_MOST_SAME : mg "MOST_SAME" = some (.int 3 t2)) : FnOk P w K mg base CX0 1 f fd ["reader"] (spNeedReader K) := by
  have sc := sc_need_reader
  refine F.ok sc (fun vs H Q E h => ?_) (fun cdv A outer s H vs Q E hr h => ?_)
  · obtain ⟨v, g, b, rfl, _⟩ := h
    rfl
  · obtain ⟨v, g, b, rfl, hd, g1, g6, b0, b1, k⟩ := h
    obtain ⟨a, rfl, hT⟩ := dp_ii hd
    refine ⟨_, (pss_cons (ps_asg (pv 0) (pg_tup rfl (pgs_cons (pg_name (i := 1) sc.nd rfl (Or.inl rfl)) (pgs_cons (pg_name (i := 2) sc.nd rfl (Or.inl rfl)) pgs_nil))))
(pss_cons (ps_if (pt_not (pt_chain op_le op_le pe_int (pv 1) (pe_glob (v := .int 6) rfl g_MOST_APART ⟨_, rfl⟩)))
(pss_one ps_never)
pss_nil)
(pss_one (ps_if (pt_not (pt_chain op_le op_le pe_int (pv 2) (pe_glob (v := .int 3) rfl g_MOST_SAME ⟨_, rfl⟩)))
(pss_one ps_never)
pss_nil)))), ?_⟩
    refine ⟨_, rfl, a, _, rfl, hT, rfl, _, _, rfl, _, _, rfl, rfl, ?_⟩
    refine ⟨_, rfl, _, _, rfl, rfl, _, rfl, ?_⟩
    rw [decide_eq_true g1]
    refine iteT ⟨_, _, rfl, rfl, _, rfl, ?_⟩
    rw [decide_eq_true g6]
    refine iteF ?_
    refine ⟨_, rfl, _, _, rfl, rfl, _, rfl, ?_⟩
    rw [decide_eq_true b0]
    refine iteT ⟨_, _, rfl, rfl, _, rfl, ?_⟩
    rw [decide_eq_true b1]
    exact iteF k
end
/-! ### dicts whose keys are tuples of numbers, bools, None and such tuples -/
mutual
def keyOf : PyData → NestedKey
  | .bool b => .num (if b then 1 else 0)
  | .int i => .num i
  | .str x => .text x
  | .tuple ds => .tup (keysOf ds)
  | _ => .none
def keysOf : List PyData → List NestedKey
  | [] => []
  | d :: ds => keyOf d :: keysOf ds
end
mutual
/-- what may be a key -/
def Hsh : PyData → Bool
  | .none => true
  | .bool _ => true
  | .int _ => true
  | .str _ => true
  | .tuple ds => HshAll ds
  | _ => false
def HshAll : List PyData → Bool
  | [] => true
  | d :: ds => Hsh d && HshAll ds
end
mutual
theorem nested_of {h : Heap} : ∀ {d : PyData} {u : Value} {as : List Addr}, Reads h u d as → Hsh d = true → NestedIs h (keyOf d) u
  | .none, _, _, r, _ => by cases r; rw [keyOf]; exact .none; all_goals intros; contradiction
  | .bool b, _, _, r, _ => by cases r; rw [keyOf]; exact .bool rfl
  | .int i, _, _, r, _ => by cases r; rw [keyOf]; exact .int _ _
  | .str x, _, _, r, _ => by cases r; rw [keyOf]; exact .text _ _
  | .tuple ds, _, _, r, hh => by
    cases r with
    | tuple h1 h2 h3 h4 =>
      rw [keyOf]
      rw [Hsh] at hh
      exact .tup h1 h2 h3 (nesteds_of h4 hh)
  | .list ds, _, _, _, hh => by rw [Hsh] at hh; cases hh; all_goals intros; contradiction
  | .dict ds, _, _, _, hh => by rw [Hsh] at hh; cases hh; all_goals intros; contradiction
theorem nesteds_of {h : Heap} : ∀ {ds : List PyData} {us : List Value} {as : List Addr}, ReadsAll h us ds as → HshAll ds = true → NestedAll h (keysOf ds) us
  | [], _, _, r, _ => by cases r; rw [keysOf]; exact .nil
  | d :: ds, _, _, r, hh => by
    cases r with
    | cons r1 r2 =>
      rw [keysOf]
      rw [HshAll, Bool.and_eq_true] at hh
      exact .cons (nested_of r1 hh.1) (nesteds_of r2 hh.2)
end
abbrev MX := List (NestedKey × Addr)
def mxs (xs : MX) : List (NestedKey × Addr × Value) := xs.map fun x => (x.1, x.2, Value.bool true)
/-- at d: a dict with these keys, True at each -/
def metO (P : Program) (w : World) (d : Addr) (xs : MX) : HO := .ext fun h => (d == sysModules) = false ∧ ∃ o es ep, h.get? d = some o ∧ o.ExactDict ∧ o.data = .dict es ep ∧ es.toList = (mxs xs).map (entryOfKey (nestedKind P w)) ∧ (xs.map (·.1)).Nodup
/-- .. and its keys' tuples stand -/
def MetAt (P : Program) (w : World) (K : PySem.W.Frag) (H : Hp) (d : Addr) (xs : MX) : Prop :=
  H d = some (metO P w d xs) ∧ ∀ x ∈ xs, ∃ dd, Dp K H (.ref x.2) dd ∧ Hsh dd = true ∧ keyOf dd = x.1 ∧ x.1.depth ≤ 8
theorem metO_ok {P : Program} {w : World} {H : Hp} {h : Heap} {d : Addr} {xs : MX} {o : Obj} {es : Array DictEntry} {ep : Nat} (hs : (d == sysModules) = false) (ho : h.get? d = some o) (hx : o.ExactDict) (hd : o.data = .dict es ep) (he : es.toList = (mxs xs).map (entryOfKey (nestedKind P w))) (hn : (xs.map (·.1)).Nodup) : ObjOk P w H h d (metO P w d xs) :=
  ⟨⟨hs, o, es, ep, ho, hx, hd, he, hn⟩, ⟨o, ho⟩, fun h1 h2 z k => by
    obtain ⟨z0, o, es, ep, q, r⟩ := z
    exact ⟨z0, o, es, ep, k _ q, r⟩⟩
theorem metO_at {P : Program} {w : World} {H : Hp} {h : Heap} {d : Addr} {xs : MX} (hok : HOk P w H h) (e : H d = some (metO P w d xs)) : (d == sysModules) = false ∧ ∃ o es ep, h.get? d = some o ∧ o.ExactDict ∧ o.data = .dict es ep ∧ es.toList = (mxs xs).map (entryOfKey (nestedKind P w)) ∧ (xs.map (·.1)).Nodup := by
  have x : ObjOk P w H h d (.ext fun h => (d == sysModules) = false ∧ ∃ o es ep, h.get? d = some o ∧ o.ExactDict ∧ o.data = .dict es ep ∧ es.toList = (mxs xs).map (entryOfKey (nestedKind P w)) ∧ (xs.map (·.1)).Nodup) := hok d _ e
  exact x.1
theorem mxs_keys (xs : MX) : (mxs xs).map (·.1) = xs.map (·.1) := by unfold mxs; rw [List.map_map]; rfl
section
variable {X : Cx} {pins : List (Addr × Obj)} {σ : St} {H : Hp} {s : Shared} {d b : Addr} {xs : MX} {dd : PyData}
theorem key_is (I : Inv X pins σ H s) (h : Dp X.K H (.ref b) dd) (hh : Hsh dd = true) (h8 : (keyOf dd).depth ≤ 8) : (nestedKind X.prog X.w).is s.heap (keyOf dd) b := by
  obtain ⟨as, r⟩ := Dp.reads I dd (.ref b) (.ref b) h rfl
  exact ⟨nested_of r hh, h8⟩
theorem met_dict (I : Inv X pins σ H s) (m : MetAt X.prog X.w X.K H d xs) : (d == sysModules) = false ∧ s.heap.DictOfH (nestedKind X.prog X.w) d (mxs xs) := by
  obtain ⟨hs, o, es, ep, ho, hx, hd, he, hn⟩ := metO_at I.hok m.1
  refine ⟨hs, o, es, ep, ho, hx, hd, he, fun x hx' => ?_, by rw [mxs_keys]; exact hn⟩
  obtain ⟨y, hy, rfl⟩ := List.mem_map.mp hx'
  obtain ⟨dd, h1, h2, h3, h4⟩ := m.2 y hy
  have := key_is I h1 h2 (by rw [h3]; exact h4)
  rw [h3] at this
  exact this
theorem at_mxs (xs : MX) (k : NestedKey) : (atKey (mxs xs) k).isSome = decide (k ∈ xs.map (·.1)) := by
  induction xs with
  | nil => rfl
  | cons x r ih =>
    by_cases e : x.1 = k
    · have h1 : atKey (mxs (x :: r)) k = some (x.2, Value.bool true) := by simp [atKey, mxs, List.find?_cons, e]
      rw [h1, List.map_cons, decide_eq_true (by rw [e]; exact List.mem_cons_self ..)]; rfl
    · have h1 : atKey (mxs (x :: r)) k = atKey (mxs r) k := by simp [atKey, mxs, List.find?_cons, e]
      rw [h1, ih, List.map_cons]
      by_cases q : k ∈ r.map (·.1)
      · rw [decide_eq_true q, decide_eq_true (List.mem_cons_of_mem _ q)]
      · rw [decide_eq_false q, decide_eq_false (fun z => (List.mem_cons.mp z).elim (fun z => e z.symm) q)]
end
/-- y not in d -/
def rNotInM (P : Program) (w : World) (K : PySem.W.Frag) : R2 := fun x y H Q => ∃ (d b : Addr) (xs : MX) (dd : PyData), x = .ref b ∧ y = .ref d ∧ MetAt P w K H d xs ∧ Dp K H (.ref b) dd ∧ Hsh dd = true ∧ (keyOf dd).depth ≤ 8 ∧ Q (.bl (!decide (keyOf dd ∈ xs.map (·.1)))) H
/-- d[y] = True, y a new key -/
def rSetM (P : Program) (w : World) (K : PySem.W.Frag) : V → V → V → Hp → (Hp → Prop) → Prop := fun o i v H Q => ∃ (d b : Addr) (xs : MX) (dd : PyData), o = .ref d ∧ i = .ref b ∧ v = .bl true ∧ MetAt P w K H d xs ∧ Dp K H (.ref b) dd ∧ Hsh dd = true ∧ (keyOf dd).depth ≤ 8 ∧
  keyOf dd ∉ xs.map (·.1) ∧ xs.length < sizeLine ∧ Q (upd H d (metO P w d (xs ++ [(keyOf dd, b)])))
section
variable {X : Cx}
theorem room8 {k : Nat} {A : Around} (r : Room k A) : A.units + 9 < cLine := by have := r.un; omega
theorem op_notInM (hu : X.A.units + 9 < cLine) : OpR X (compareOp .NotIn) (rNotInM X.prog X.w X.K) := by
  intro pins s σ H x y v u Q I rx ry h
  obtain ⟨d, b, xs, dd, rfl, rfl, m, hb, hh, h8, q⟩ := h
  cases rx
  cases ry
  obtain ⟨hs, hd⟩ := met_dict I m
  refine PyProof.Rows.wpAny_notIn_heap (knd := nestedKind X.prog X.w) (show X.A.units + 1 + 8 < cLine by omega) (key_is I hb hh h8) hs hd ?_
  rw [at_mxs]
  exact ⟨.bl _, H, I.tok _, rfl, q⟩
theorem set_met (hu : X.A.units + 9 < cLine) : PSet X (rSetM X.prog X.w X.K) := by
  intro pins s σ H o i v ov iv u Q I ro ri rv h
  obtain ⟨d, b, xs, dd, rfl, rfl, rfl, m, hb, hh, h8, hn, hl, q⟩ := h
  cases ro
  cases ri
  cases rv
  obtain ⟨hs, hd⟩ := met_dict I m
  have hz : (mxs xs).length ≤ sizeLine := by unfold mxs; rw [List.length_map]; omega
  refine wpAny_setItem_heap (knd := nestedKind X.prog X.w) (hsz := hz) (show X.A.units + 1 + 8 < cLine by omega) (key_is I hb hh h8) hd fun h' dd' hsb => ⟨_, ?_, q⟩
  have e0 : atKey (mxs xs) (keyOf dd) = none := by
    have := at_mxs xs (keyOf dd)
    rw [decide_eq_false hn] at this
    exact Option.not_isSome_iff_eq_none.mp (by rw [this]; decide)
  rw [storedH_new e0] at dd'
  obtain ⟨o, es, ep, h1, h2, h3, h4, _, h6⟩ := dd'
  refine d_write I (by rw [m.1]; exact True.intro) hsb ⟨o, h1⟩ (metO_ok hs h1 h2 h3 ?_ ?_)
  · rw [h4]; unfold mxs; simp
  · have : ((mxs xs ++ [(keyOf dd, b, Value.bool true)]).map (·.1)) = (xs ++ [(keyOf dd, b)]).map (·.1) := by rw [List.map_append, mxs_keys, List.map_append]; rfl
    rw [← this]; exact h6
/-- {} -/
def tMetNew (P : Program) (w : World) : TE := fun _ H Q => ∀ d, H d = none → Q (.ref d) (upd H d (metO P w d []))
theorem met_empty {P : Program} {w : World} {H : Hp} (h : Heap) (hb : sysModules < h.objs.size) : ObjOk P w H (h.push { cls := .type "dict", data := .dict #[] }) h.objs.size (metO P w h.objs.size []) :=
  metO_ok (by simp; exact (Nat.ne_of_lt hb).symm) (Heap.get?_push_size _ rfl) ⟨rfl, rfl, rfl⟩ rfl rfl (by simp)
theorem pe_metNew {pos : Pos} : PE X (.Dict [] [] pos) (tMetNew X.prog X.w) := ⟨fun pins s σ H Q I h =>
  wpAny_Dict_empty ⟨.ref s.heap.objs.size, _, I.laid (a := s.heap.objs.size) (o := metO X.prog X.w s.heap.objs.size []) (t' := s.toks) (fun _ _ q => Heap.get?_push_of_some _ q) (Nat.le_refl _) (met_empty s.heap I.big), rfl, h _ (I.hok.fresh (Nat.le_refl _))⟩⟩
/-- {e: True} -/
def tMetOne (P : Program) (w : World) (K : PySem.W.Frag) (tk tv : TE) : TE := fun σ H Q => ∀ d, H d = none → tk σ (upd H d (metO P w d [])) fun x H1 => tv σ H1 fun y H2 => ∃ (b : Addr) (dd : PyData), x = .ref b ∧ y = .bl true ∧ H2 d = some (metO P w d []) ∧
  Dp K H2 (.ref b) dd ∧ Hsh dd = true ∧ (keyOf dd).depth ≤ 8 ∧ Q (.ref d) (upd H2 d (metO P w d [(keyOf dd, b)]))
theorem pe_metOne {k v : Expr} {tk tv : TE} {pos : Pos} (hu : X.A.units + 9 < cLine) (hk : PE X k tk) (hv : PE X v tv) : PE X (.Dict [some k] [v] pos) (tMetOne X.prog X.w X.K tk tv) := by
  refine ⟨fun pins s σ H Q I q => ?_⟩
  have hn := I.hok.fresh (Nat.le_refl s.heap.objs.size)
  have I1 := I.laid (a := s.heap.objs.size) (o := metO X.prog X.w s.heap.objs.size []) (h' := s.heap.push { cls := .type "dict", data := .dict #[] }) (t' := s.toks) (fun _ _ q => Heap.get?_push_of_some _ q) (Nat.le_refl _) (met_empty s.heap I.big)
  rw [arm_eval_Dict, zip_pairTrees [some k] [v] X.env pos rfl rfl, dictDisplay_pairs (pairTrees [some k] [v] X.env pos) (fun z => by have := pairTrees_length [some k] [v] X.env pos rfl rfl; rw [z] at this; cases this) (by rw [pairTrees_length [some k] [v] X.env pos rfl rfl]; show 1 < 17; decide)]
  refine wpAny_bind (wpAny_standAt (wpAny_bind (wpAny_subDictH (knd := nestedKind X.prog X.w) (Q := fun d s' => wpAny (model X.prog X.w) X.A (pure (Value.ref d)) (EP X pins σ Q) X.xe s') (show X.A.units + 8 < cLine by omega) (by rw [pairTrees_length [some k] [v] X.env pos rfl rfl]; show 1 ≤ 15; decide) ?_)))
  refine pairTrees_cons_walk (thn (hk.run pins _ σ _ _ I1 (q _ hn)) fun u s1 ⟨x, H1, J1, rx, q1⟩ => thn (hv.run pins s1 σ H1 _ J1 q1) fun w2 s2 ⟨y, H2, J2, ry, b, dd, ex, ey, e, hb, hh, h8, q2⟩ => pairTrees_nil_walk ?_)
  subst ex ey
  cases rx
  cases ry
  have hm : MetAt X.prog X.w X.K H2 s.heap.objs.size [] := ⟨e, by simp⟩
  obtain ⟨hs, hd⟩ := met_dict J2 hm
  refine ⟨[(keyOf dd, b, Value.bool true)], ⟨rfl, rfl, key_is J2 hb hh h8, trivial⟩, hd, fun h' tk' dd' hsb => wpAny_pure ⟨.ref s.heap.objs.size, _, ?_, rfl, q2⟩⟩
  obtain ⟨o, es, ep, h1, h2, h3, h4, _, h6⟩ := dd'
  exact d_write J2 (by rw [e]; exact True.intro) hsb ⟨o, h1⟩ (metO_ok hs h1 h2 h3 h4 (by simp))
end
/-! ### going through all, level by level -/
section
variable {S M : Type} [DecidableEq S] (mv : S → List M) (st : S → M → S) (bad : S → M → Bool) (ok : S → Bool)
abbrev LV (S M : Type) := List (S × List M)
def tryM (s : S) (row : List M) (mb : List S × LV S M) (m : M) : Sum (List M) (List S × LV S M) :=
  if bad s m = true then .inl (row ++ [m])
  else if st s m ∉ mb.1 ∧ ok (st s m) = true then .inr (mb.1 ++ [st s m], mb.2 ++ [(st s m, row ++ [m])])
  else .inr mb
def tryMs (s : S) (row : List M) : List M → List S × LV S M → Sum (List M) (List S × LV S M)
  | [], mb => .inr mb
  | m :: r, mb => match tryM st bad ok s row mb m with
    | .inl x => .inl x
    | .inr mb' => tryMs s row r mb'
def tryL : LV S M → List S × LV S M → Sum (List M) (List S × LV S M)
  | [], mb => .inr mb
  | x :: r, mb => match tryMs st bad ok x.1 x.2 (mv x.1) mb with
    | .inl y => .inl y
    | .inr mb' => tryL r mb'
def bfs : Nat → LV S M → List S → Option (Option (List M))
  | 0, _, _ => none
  | n + 1, level, met => match level with
    | [] => some none
    | x :: r => match tryL mv st bad ok (x :: r) (met, []) with
      | .inl row => some (some row)
      | .inr mb => bfs n mb.2 mb.1
theorem bfs_cons {n : Nat} {x : S × List M} {r : LV S M} {met : List S} : bfs mv st bad ok (n + 1) (x :: r) met = (match tryL mv st bad ok (x :: r) (met, []) with
    | .inl row => some (some row)
    | .inr mb => bfs mv st bad ok n mb.2 mb.1) := by
  show (match x :: r with
    | [] => some none
    | x :: r => match tryL mv st bad ok (x :: r) (met, []) with
      | .inl row => some (some row)
      | .inr mb => bfs mv st bad ok n mb.2 mb.1) = _
  rfl
/-- a way without a fault -/
inductive Clean (s0 : S) : List M → S → Prop
  | nil : Clean s0 [] s0
  | snoc {row : List M} {s : S} {m : M} : Clean s0 row s → m ∈ mv s → bad s m = false → ok (st s m) = true → Clean s0 (row ++ [m]) (st s m)
/-- one that ends in a fault -/
def Fault (s0 : S) (row : List M) : Prop := ∃ pre m s, row = pre ++ [m] ∧ Clean mv st bad ok s0 pre s ∧ m ∈ mv s ∧ bad s m = true
variable {mv st bad ok}
/-- what a part of a level leaves: what was met, what is behind; all that is new -/
structure Ext (mb mb' : List S × LV S M) (src : LV S M) : Prop where
  met : ∃ new : LV S M, mb'.1 = mb.1 ++ new.map (·.1) ∧ mb'.2 = mb.2 ++ new ∧ (∀ y ∈ new, ok y.1 = true ∧ ∃ x ∈ src, ∃ m ∈ mv x.1, bad x.1 m = false ∧ y = (st x.1 m, x.2 ++ [m])) ∧ (mb.1.Nodup → mb'.1.Nodup)
theorem Ext.refl {mb : List S × LV S M} {src : LV S M} : Ext (mv := mv) (st := st) (bad := bad) (ok := ok) mb mb src := ⟨[], by simp, by simp, by simp, id⟩
theorem Ext.trans {a b c : List S × LV S M} {src : LV S M} (h : Ext (mv := mv) (st := st) (bad := bad) (ok := ok) a b src) (k : Ext (mv := mv) (st := st) (bad := bad) (ok := ok) b c src) : Ext (mv := mv) (st := st) (bad := bad) (ok := ok) a c src := by
  obtain ⟨n1, h1, h2, h3, h4⟩ := h
  obtain ⟨n2, k1, k2, k3, k4⟩ := k
  refine ⟨n1 ++ n2, by rw [k1, h1]; simp, by rw [k2, h2]; simp, fun y hy => ?_, fun q => k4 (h4 q)⟩
  rcases List.mem_append.mp hy with q | q
  · exact h3 y q
  · exact k3 y q
theorem Ext.sub {a b : List S × LV S M} {src src' : LV S M} (h : Ext (mv := mv) (st := st) (bad := bad) (ok := ok) a b src) (hs : ∀ x ∈ src, x ∈ src') : Ext (mv := mv) (st := st) (bad := bad) (ok := ok) a b src' := by
  obtain ⟨n1, h1, h2, h3, h4⟩ := h
  exact ⟨n1, h1, h2, fun y hy => let ⟨q, x, hx, r⟩ := h3 y hy; ⟨q, x, hs x hx, r⟩, h4⟩
theorem Ext.mem {a b : List S × LV S M} {src : LV S M} (h : Ext (mv := mv) (st := st) (bad := bad) (ok := ok) a b src) {s : S} (hs : s ∈ a.1) : s ∈ b.1 := by
  obtain ⟨n1, h1, _⟩ := h
  rw [h1]; exact List.mem_append_left _ hs
theorem tryMs_ok {s : S} {row : List M} : ∀ {ms : List M} {mb mb' : List S × LV S M}, (∀ m ∈ ms, m ∈ mv s) → tryMs st bad ok s row ms mb = .inr mb' →
    Ext (mv := mv) (st := st) (bad := bad) (ok := ok) mb mb' [(s, row)] ∧ ∀ m ∈ ms, bad s m = false ∧ (ok (st s m) = true → st s m ∈ mb'.1)
  | [], mb, mb', _, e => by
    cases e
    exact ⟨Ext.refl, by simp⟩
  | m :: r, mb, mb', hm, e => by
    unfold tryMs at e
    have hmm := hm m (by simp)
    cases q : tryM st bad ok s row mb m with
    | inl x => rw [q] at e; cases e
    | inr mb1 =>
      rw [q] at e
      obtain ⟨h1, h2⟩ := tryMs_ok (fun x hx => hm x (by simp [hx])) e
      unfold tryM at q
      by_cases b : bad s m = true
      · rw [if_pos b] at q; cases q
      · rw [if_neg b] at q
        have b' : bad s m = false := by simpa using b
        by_cases c : st s m ∉ mb.1 ∧ ok (st s m) = true
        · rw [if_pos c] at q
          cases q
          have e1 : Ext (mv := mv) (st := st) (bad := bad) (ok := ok) mb (mb.1 ++ [st s m], mb.2 ++ [(st s m, row ++ [m])]) [(s, row)] :=
            ⟨[(st s m, row ++ [m])], rfl, rfl, fun y hy => by rw [List.mem_singleton.mp hy]; exact ⟨c.2, (s, row), by simp, m, hmm, b', rfl⟩, fun nd => by
              refine List.nodup_append.mpr ⟨nd, by simp, fun x hx y hy e => ?_⟩
              rw [List.mem_singleton.mp hy] at e
              exact c.1 (e ▸ hx)⟩
          refine ⟨e1.trans h1, fun x hx => ?_⟩
          rcases List.mem_cons.mp hx with rfl | hx
          · exact ⟨b', fun _ => h1.mem (by simp)⟩
          · exact h2 x hx
        · rw [if_neg c] at q
          cases q
          refine ⟨h1, fun x hx => ?_⟩
          rcases List.mem_cons.mp hx with rfl | hx
          · refine ⟨b', fun o => h1.mem ?_⟩
            exact Decidable.byContradiction fun z => c ⟨z, o⟩
          · exact h2 x hx
theorem tryMs_bad {s : S} {row y : List M} : ∀ {ms : List M} {mb : List S × LV S M}, tryMs st bad ok s row ms mb = .inl y → ∃ m ∈ ms, bad s m = true ∧ y = row ++ [m]
  | [], mb, e => by cases e
  | m :: r, mb, e => by
    unfold tryMs at e
    cases q : tryM st bad ok s row mb m with
    | inl x =>
      rw [q] at e
      cases e
      unfold tryM at q
      by_cases b : bad s m = true
      · rw [if_pos b] at q; cases q; exact ⟨m, by simp, b, rfl⟩
      · rw [if_neg b] at q; split at q <;> cases q
    | inr mb1 =>
      rw [q] at e
      obtain ⟨m', h1, h2⟩ := tryMs_bad e
      exact ⟨m', by simp [h1], h2⟩
theorem tryL_ok : ∀ {lv : LV S M} {mb mb' : List S × LV S M}, tryL mv st bad ok lv mb = .inr mb' →
    Ext (mv := mv) (st := st) (bad := bad) (ok := ok) mb mb' lv ∧ ∀ x ∈ lv, ∀ m ∈ mv x.1, bad x.1 m = false ∧ (ok (st x.1 m) = true → st x.1 m ∈ mb'.1)
  | [], mb, mb', e => by
    cases e
    exact ⟨Ext.refl, by simp⟩
  | x :: r, mb, mb', e => by
    unfold tryL at e
    cases q : tryMs st bad ok x.1 x.2 (mv x.1) mb with
    | inl y => rw [q] at e; cases e
    | inr mb1 =>
      rw [q] at e
      obtain ⟨h1, h2⟩ := tryMs_ok (fun m hm => hm) q
      obtain ⟨k1, k2⟩ := tryL_ok e
      refine ⟨(h1.sub (by simp)).trans (k1.sub fun y hy => by simp [hy]), fun y hy => ?_⟩
      rcases List.mem_cons.mp hy with rfl | hy
      · intro m hm
        obtain ⟨a, b⟩ := h2 m hm
        exact ⟨a, fun o => k1.mem (b o)⟩
      · exact k2 y hy
theorem tryL_bad {y : List M} : ∀ {lv : LV S M} {mb : List S × LV S M}, tryL mv st bad ok lv mb = .inl y → ∃ x ∈ lv, ∃ m ∈ mv x.1, bad x.1 m = true ∧ y = x.2 ++ [m]
  | [], mb, e => by cases e
  | x :: r, mb, e => by
    unfold tryL at e
    cases q : tryMs st bad ok x.1 x.2 (mv x.1) mb with
    | inl z =>
      rw [q] at e
      cases e
      obtain ⟨m, h1, h2, h3⟩ := tryMs_bad q
      exact ⟨x, by simp, m, h1, h2, h3⟩
    | inr mb1 =>
      rw [q] at e
      obtain ⟨x', h1, h2⟩ := tryL_bad e
      exact ⟨x', by simp [h1], h2⟩
/-- k levels are gone through -/
structure Gone (mv : S → List M) (st : S → M → S) (bad : S → M → Bool) (ok : S → Bool) (s0 : S) (k : Nat) (C : S → Prop) (level : LV S M) (met : List S) : Prop where
  way : ∀ x ∈ level, Clean mv st bad ok s0 x.2 x.1 ∧ x.2.length = k
  shut : ∀ s, C s → ∀ m ∈ mv s, bad s m = false ∧ (ok (st s m) = true → C (st s m) ∨ st s m ∈ level.map (·.1))
  seen : ∀ s ∈ met, C s ∨ s ∈ level.map (·.1)
  less : ∀ row s, Clean mv st bad ok s0 row s → row.length < k → C s
  last : ∀ row s, Clean mv st bad ok s0 row s → row.length = k → C s ∨ s ∈ level.map (·.1)
theorem gone_start {s0 : S} {met : List S} (hm : ∀ s ∈ met, s = s0) : Gone mv st bad ok s0 0 (fun _ => False) [(s0, [])] met :=
  ⟨fun x hx => by rw [List.mem_singleton.mp hx]; exact ⟨.nil, rfl⟩, fun s h => h.elim, fun s hs => .inr (by rw [hm s hs]; simp), fun row s _ h => by omega, fun row s h e => by
    cases h with
    | nil => exact .inr (by simp)
    | snoc _ _ _ _ => simp at e⟩
theorem gone_next {s0 : S} {k : Nat} {C : S → Prop} {level : LV S M} {met : List S} {mb : List S × LV S M} (g : Gone mv st bad ok s0 k C level met) (e : tryL mv st bad ok level (met, []) = .inr mb) :
    Gone mv st bad ok s0 (k + 1) (fun s => C s ∨ s ∈ level.map (·.1)) mb.2 mb.1 := by
  obtain ⟨⟨new, h1, h2, h3, h4⟩, h5⟩ := tryL_ok e
  simp only [List.nil_append] at h2
  have hmet : ∀ s ∈ mb.1, (C s ∨ s ∈ level.map (·.1)) ∨ s ∈ mb.2.map (·.1) := fun s hs => by
    rw [h1] at hs
    rcases List.mem_append.mp hs with q | q
    · exact .inl (g.seen s q)
    · rw [h2]; exact .inr q
  refine ⟨fun y hy => ?_, fun s hs m hm => ?_, hmet, fun row s hc hl => ?_, fun row s hc hl => ?_⟩
  · rw [h2] at hy
    obtain ⟨o, x, hx, m, hm, hb, rfl⟩ := h3 y hy
    obtain ⟨w1, w2⟩ := g.way x hx
    exact ⟨w1.snoc hm hb o, by simp [w2]⟩
  · rcases hs with hs | hs
    · obtain ⟨a, b⟩ := g.shut s hs m hm
      exact ⟨a, fun o => .inl (b o)⟩
    · obtain ⟨x, hx, rfl⟩ := List.mem_map.mp hs
      obtain ⟨a, b⟩ := h5 x hx m hm
      exact ⟨a, fun o => hmet _ (b o)⟩
  · by_cases c : row.length < k
    · exact .inl (g.less row s hc c)
    · exact g.last row s hc (by omega)
  · cases hc with
    | nil => simp at hl
    | @snoc row' s' m hc' hm hb ho =>
      have hl' : row'.length = k := by simpa using hl
      rcases g.last row' s' hc' hl' with q | q
      · obtain ⟨_, b⟩ := g.shut s' q m hm
        exact .inl (b ho)
      · obtain ⟨x, hx, rfl⟩ := List.mem_map.mp q
        obtain ⟨_, b⟩ := h5 x hx m hm
        exact hmet _ (b ho)
theorem clean_snoc {s0 s : S} {row : List M} (h : Clean mv st bad ok s0 row s) : True := trivial
/-- what is found is a fault, and none is shorter -/
theorem bfs_spec {s0 : S} : ∀ {n k : Nat} {C : S → Prop} {level : LV S M} {met : List S} {r : Option (List M)}, Gone mv st bad ok s0 k C level met → bfs mv st bad ok n level met = some r →
    (∀ row, r = some row → Fault mv st bad ok s0 row ∧ ∀ row', Fault mv st bad ok s0 row' → row.length ≤ row'.length) ∧ (r = none → ∀ row', ¬ Fault mv st bad ok s0 row')
  | 0, _, _, _, _, _, _, e => by cases e
  | n + 1, k, C, level, met, r, g, e => by
    unfold bfs at e
    cases level with
    | nil =>
      cases e
      refine ⟨fun row h => (by cases h), fun _ row' hf => ?_⟩
      obtain ⟨pre, m, s, rfl, hc, hm, hb⟩ := hf
      have all : ∀ row s, Clean mv st bad ok s0 row s → C s := by
        intro row s hc
        induction hc with
        | nil =>
          rcases Nat.eq_zero_or_pos k with hk | hk
          · rcases g.last [] s0 .nil (by simp [hk]) with q | q
            · exact q
            · simp at q
          · exact g.less [] s0 .nil (by simpa using hk)
        | snoc _ hm hb ho ih =>
          rcases (g.shut _ ih _ hm).2 ho with q | q
          · exact q
          · simp at q
      have := (g.shut s (all pre s hc) m hm).1
      rw [hb] at this; cases this
    | cons x rr =>
      dsimp only at e
      cases q : tryL mv st bad ok (x :: rr) (met, []) with
      | inl row =>
        rw [q] at e
        cases e
        refine ⟨fun row1 h => ?_, fun h => by cases h⟩
        cases h
        obtain ⟨y, hy, m, hm, hb, rfl⟩ := tryL_bad q
        obtain ⟨w1, w2⟩ := g.way y hy
        refine ⟨⟨y.2, m, y.1, rfl, w1, hm, hb⟩, fun row' hf => ?_⟩
        obtain ⟨pre, m', s', rfl, hc, hm', hb'⟩ := hf
        rw [List.length_append, List.length_append, w2]
        refine Nat.add_le_add_right (Nat.le_of_not_lt fun hl => ?_) 1
        have := (g.shut s' (g.less pre s' hc hl) m' hm').1
        rw [hb'] at this; cases this
      | inr mb =>
        rw [q] at e
        exact bfs_spec (gone_next g q) e
theorem len_le_of_sub {l U : List S} (nd : l.Nodup) (h : ∀ s ∈ l, s ∈ U) : l.length ≤ U.length := by
  induction l generalizing U with
  | nil => exact Nat.zero_le _
  | cons a r ih =>
    have ha : a ∈ U := h a (by simp)
    have hn := List.nodup_cons.mp nd
    have := ih (U := U.erase a) hn.2 fun s hs => (List.mem_erase_of_ne (fun e : s = a => hn.1 (by rw [← e]; exact hs))).mpr (h s (by simp [hs]))
    rw [List.length_erase_of_mem ha] at this
    have : 0 < U.length := List.length_pos_of_mem ha
    simp only [List.length_cons]
    omega
/-- it ends -/
theorem bfs_ends {U : List S} (hU : ∀ s ∈ U, ∀ m ∈ mv s, ok (st s m) = true → st s m ∈ U) : ∀ (n : Nat) (level : LV S M) (met : List S), (∀ x ∈ level, x.1 ∈ U) → (∀ s ∈ met, s ∈ U) → met.Nodup → U.length + 2 ≤ n + met.length + (if level = [] then 1 else 0) →
    ∃ r, bfs mv st bad ok n level met = some r
  | 0, level, met, _, hm, nd, hn => by
    have := len_le_of_sub nd hm
    split at hn <;> omega
  | n + 1, level, met, hl, hm, nd, hn => by
    unfold bfs
    cases level with
    | nil => exact ⟨none, rfl⟩
    | cons x rr =>
      dsimp only
      cases q : tryL mv st bad ok (x :: rr) (met, []) with
      | inl row => exact ⟨some row, rfl⟩
      | inr mb =>
        obtain ⟨⟨new, h1, h2, h3, h4⟩, _⟩ := tryL_ok q
        simp only [List.nil_append] at h2
        have hnew : ∀ y ∈ new, y.1 ∈ U := fun y hy => by
          obtain ⟨o, z, hz, m, hm', _, rfl⟩ := h3 y hy
          exact hU z.1 (hl z hz) m hm' o
        refine bfs_ends hU n mb.2 mb.1 (by rw [h2]; exact hnew) (fun s hs => ?_) (h4 nd) ?_
        · rw [h1] at hs
          rcases List.mem_append.mp hs with q | q
          · exact hm s q
          · obtain ⟨y, hy, rfl⟩ := List.mem_map.mp q
            exact hnew y hy
        · rw [if_neg (by simp)] at hn
          rw [h1, List.length_append, List.length_map, h2]
          cases new with
          | nil => rw [if_pos rfl]; simp; omega
          | cons y r => rw [if_neg (by simp)]; simp; omega
end
/-! ### the game: all that a knob may do -/
structure GS where
  phase : Int
  since : Int
  last : Int
  kept : Int
  met : Option Int
  many : Int
  up : Bool
  down : Bool
deriving DecidableEq
structure GP where
  gap : Int
  bounce : Int
  apart : Int
  same : Int
structure GP.Ok (g : GP) : Prop where
  g1 : 1 ≤ g.gap
  g6 : g.gap ≤ 6
  b0 : 0 ≤ g.bounce
  b1 : g.bounce ≤ g.gap
  a1 : 1 ≤ g.apart
  a6 : g.apart ≤ 6
  s1 : 1 ≤ g.same
  s3 : g.same ≤ 3
def gFirst (g : GP) : GS := ⟨0, g.gap, 0, 0, none, 0, false, false⟩
def gAge (s : GS) (t : Int) : Int := if t = 0 then s.since else 0
def gMove (g : GP) (s : GS) (t : Int) : List Mv :=
  if t = 0 ∨ g.gap ≤ s.since then (t, false) :: (if s.phase = 0 ∧ gAge s t < g.bounce ∧ (t ≠ 0 ∨ s.last ≠ 0) then [(t, true)] else []) else []
def gMoves (g : GP) (s : GS) : List Mv := gMove g s 0 ++ gMove g s (-1) ++ gMove g s 1
def gTurn (s : GS) (t : Int) : GS := if t = 0 then s else { s with since := 0, last := t, kept := s.kept - t, met := s.met.map (· - t), up := s.up || decide (0 < t), down := s.down || decide (t < 0) }
def gSeen (s : GS) (old : Bool) : Int := if old = true then 0 - s.last else 0
def gSees (s : GS) (z : Int) : Bool := match s.met with
  | none => false
  | some m => decide ((m - z) % 4 = 0)
def gMany (g : GP) (s : GS) (z : Int) : Int := if gSees s z = true then min g.same (s.many + 1) else 1
def gLook (g : GP) (s : GS) (old : Bool) : GS × Int :=
  if gMany g s (gSeen s old) = g.same then ({ s with met := some (gSeen s old), many := gMany g s (gSeen s old), kept := gSeen s old }, gSeen s old - s.kept)
  else ({ s with met := some (gSeen s old), many := gMany g s (gSeen s old) }, 0)
def gSaw (g : GP) (s : GS) (m : Mv) : GS × Int := if s.phase = 0 then gLook g (gTurn s m.1) m.2 else (gTurn s m.1, 0)
def gBy (g : GP) (s : GS) (m : Mv) : Int := (gSaw g s m).2
def gNoise (g : GP) (s : GS) (m : Mv) : Bool := (decide (0 < gBy g s m) && !(gTurn s m.1).up) || (decide (gBy g s m < 0) && !(gTurn s m.1).down)
def gEnd (g : GP) (ph : Int) (by' : Int) (s : GS) : GS := { s with phase := (ph + 1) % g.apart, since := min (s.since + 1) g.gap, up := if by' = 0 then s.up else false, down := if by' = 0 then s.down else false }
def gNext (g : GP) (s : GS) (m : Mv) : GS := gEnd g s.phase (gBy g s m) (gSaw g s m).1
def absI (z : Int) : Int := if z < 0 then -z else z
def gBad (g : GP) (least : Int) (noises : Bool) (s : GS) (m : Mv) : Bool := decide (least ≤ absI (gBy g s m)) || (noises && gNoise g s m)
def gFar (s : GS) : Bool := decide (absI s.kept < 8)
abbrev gBfs (g : GP) (least : Int) (noises : Bool) := bfs (gMoves g) (gNext g) (gBad g least noises) gFar
abbrev gClean (g : GP) (least : Int) (noises : Bool) := Clean (gMoves g) (gNext g) (gBad g least noises) gFar
abbrev gFault (g : GP) (least : Int) (noises : Bool) := Fault (gMoves g) (gNext g) (gBad g least noises) gFar (gFirst g)
/-! data -/
def metV : Option Int → V
  | none => .non
  | some m => .int m
def metP : Option Int → PyData
  | none => .none
  | some m => .int m
def gsV (s : GS) : List V := [.int s.phase, .int s.since, .int s.last, .int s.kept, metV s.met, .int s.many, .bl s.up, .bl s.down]
def gsDs (s : GS) : List PyData := [.int s.phase, .int s.since, .int s.last, .int s.kept, metP s.met, .int s.many, .bool s.up, .bool s.down]
def gsD (s : GS) : PyData := .tuple (gsDs s)
theorem dpa_gs {K : PySem.W.Frag} {H : Hp} (s : GS) : DpAll K H (gsV s) (gsDs s) := by
  refine .cons (.int _) (.cons (.int _) (.cons (.int _) (.cons (.int _) (.cons ?_ (.cons (.int _) (.cons (.bl _) (.cons (.bl _) .nil)))))))
  cases s.met with
  | none => exact .non
  | some m => exact .int m
theorem dp_gs {K : PySem.W.Frag} {H : Hp} {v : V} {s : GS} (h : Dp K H v (gsD s)) : ∃ a, v = .ref a ∧ SqT K H a (gsV s) := by
  obtain ⟨a, xs, rfl, h1, h2⟩ := dp_tup h
  refine ⟨a, rfl, ?_⟩
  have : xs = gsV s := by
    unfold gsDs at h2
    cases h2 with
    | cons q1 t =>
    cases t with
    | cons q2 t =>
    cases t with
    | cons q3 t =>
    cases t with
    | cons q4 t =>
    cases t with
    | cons q5 t =>
    cases t with
    | cons q6 t =>
    cases t with
    | cons q7 t =>
    cases t with
    | cons q8 t =>
    cases t
    rw [dp_int q1, dp_int q2, dp_int q3, dp_int q4, dp_int q6, dp_bl q7, dp_bl q8]
    unfold gsV
    cases e : s.met with
    | none => rw [e] at q5; rw [dp_non q5]; rfl
    | some m => rw [e] at q5; rw [dp_int q5]; rfl
  rw [this] at h1
  exact h1
theorem hsh_gs (s : GS) : Hsh (gsD s) = true := by
  have : ∀ m, Hsh (metP m) = true := fun m => by cases m <;> rfl
  simp [gsD, gsDs, Hsh, HshAll, this]
theorem keyOf_none : keyOf .none = .none := by rw [keyOf]; all_goals intros; contradiction
theorem key_gs (s : GS) : keyOf (gsD s) = .tup [.num s.phase, .num s.since, .num s.last, .num s.kept, (match s.met with | none => .none | some m => .num m), .num s.many, .num (if s.up then 1 else 0), .num (if s.down then 1 else 0)] := by
  cases e : s.met with
  | none => simp [gsD, gsDs, keyOf, keysOf, metP, e]
  | some m => simp [gsD, gsDs, keyOf, keysOf, metP, e]
theorem depth_gs (s : GS) : (keyOf (gsD s)).depth ≤ 8 := by
  rw [key_gs]
  cases s.met <;> simp [NestedKey.depth, NestedKey.depthAll]
theorem key_inj {s t : GS} (h : keyOf (gsD s) = keyOf (gsD t)) : s = t := by
  rw [key_gs, key_gs] at h
  obtain ⟨a1, a2, a3, a4, a5, a6, a7, a8⟩ := s
  obtain ⟨b1, b2, b3, b4, b5, b6, b7, b8⟩ := t
  injection h with h
  simp only [List.cons.injEq, NestedKey.num.injEq, and_true] at h
  obtain ⟨h1, h2, h3, h4, h5, h6, h7, h8⟩ := h
  subst h1 h2 h3 h4 h6
  have e5 : a5 = b5 := by
    cases a5 with
    | none =>
      cases b5 with
      | none => rfl
      | some m => cases h5
    | some m =>
      cases b5 with
      | none => cases h5
      | some n => injection h5 with h5; rw [h5]
  have e7 : a7 = b7 := by cases a7 <;> cases b7 <;> first | rfl | (simp at h7)
  have e8 : a8 = b8 := by cases a8 <;> cases b8 <;> first | rfl | (simp at h8)
  rw [e5, e7, e8]
/-! the states are few -/
structure VS (g : GP) (s : GS) : Prop where
  p0 : 0 ≤ s.phase
  p1 : s.phase < g.apart
  i0 : 0 ≤ s.since
  i1 : s.since ≤ g.gap
  l : s.last = -1 ∨ s.last = 0 ∨ s.last = 1
  k0 : -8 < s.kept
  k1 : s.kept < 8
  m : ∀ z, s.met = some z → -(if s.phase = 0 then g.apart else s.phase) ≤ z ∧ z ≤ (if s.phase = 0 then g.apart else s.phase)
  n0 : 0 ≤ s.many
  n1 : s.many ≤ g.same
theorem vs_first {g : GP} (o : g.Ok) : VS g (gFirst g) := by
  have := o.g1; have := o.a1; have := o.s1
  refine ⟨by show (0 : Int) ≤ 0; omega, by show (0 : Int) < _; omega, by show (0 : Int) ≤ g.gap; omega, by show g.gap ≤ g.gap; omega, .inr (.inl rfl), by show (-8 : Int) < 0; omega, by show (0 : Int) < 8; omega, fun z h => (by cases h), by show (0 : Int) ≤ 0; omega, by show (0 : Int) ≤ g.same; omega⟩
theorem move_turn {g : GP} {s : GS} {m : Mv} (h : m ∈ gMoves g s) : m.1 = 0 ∨ m.1 = -1 ∨ m.1 = 1 := by
  unfold gMoves at h
  have key : ∀ t, m ∈ gMove g s t → m.1 = t := fun t ht => by
    unfold gMove at ht
    split at ht
    · rcases List.mem_cons.mp ht with rfl | ht
      · rfl
      · split at ht
        · rw [List.mem_singleton.mp ht]
        · cases ht
    · cases ht
  rcases List.mem_append.mp h with h | h
  · rcases List.mem_append.mp h with h | h
    · exact .inl (key _ h)
    · exact .inr (.inl (key _ h))
  · exact .inr (.inr (key _ h))
theorem vs_next {g : GP} (o : g.Ok) {s : GS} (v : VS g s) {m : Mv} (hm : m ∈ gMoves g s) (hk : gFar (gNext g s m) = true) : VS g (gNext g s m) := by
  have ht := move_turn hm
  have := o.g1; have := o.a1; have := o.s1
  have hk' : absI (gNext g s m).kept < 8 := of_decide_eq_true hk
  have t1 : (gTurn s m.1).since = (if m.1 = 0 then s.since else 0) := by unfold gTurn; split <;> rfl
  have t2 : (gTurn s m.1).last = (if m.1 = 0 then s.last else m.1) := by unfold gTurn; split <;> rfl
  have t3 : (gTurn s m.1).met = (if m.1 = 0 then s.met else s.met.map (· - m.1)) := by unfold gTurn; split <;> rfl
  have t4 : (gTurn s m.1).many = s.many := by unfold gTurn; split <;> rfl
  have l1 : (gTurn s m.1).last = -1 ∨ (gTurn s m.1).last = 0 ∨ (gTurn s m.1).last = 1 := by
    rw [t2]; have := v.l; split <;> omega
  have w1 : (gSaw g s m).1.since = (gTurn s m.1).since := by unfold gSaw gLook; split <;> (try split) <;> rfl
  have w2 : (gSaw g s m).1.last = (gTurn s m.1).last := by unfold gSaw gLook; split <;> (try split) <;> rfl
  have hp : (s.phase + 1) % g.apart = if s.phase + 1 = g.apart then 0 else s.phase + 1 := by
    have := v.p0; have := v.p1
    split
    · rename_i e; rw [e]; exact Int.emod_self
    · exact Int.emod_eq_of_lt (by omega) (by omega)
  have n2 : 0 ≤ (gSaw g s m).1.many ∧ (gSaw g s m).1.many ≤ g.same := by
    have mm : ∀ z, 0 ≤ gMany g (gTurn s m.1) z ∧ gMany g (gTurn s m.1) z ≤ g.same := fun z => by
      unfold gMany
      rw [t4]
      have := v.n0; have := v.n1
      split
      · omega
      · omega
    unfold gSaw gLook
    split
    · split <;> exact mm _
    · rw [t4]; exact ⟨v.n0, v.n1⟩
  have m2 : ∀ z, (gSaw g s m).1.met = some z → if s.phase = 0 then -1 ≤ z ∧ z ≤ 1 else -(s.phase + 1) ≤ z ∧ z ≤ s.phase + 1 := by
    intro z hz
    unfold gSaw at hz
    split at hz
    · rename_i hph
      rw [if_pos hph]
      have : (gLook g (gTurn s m.1) m.2).1.met = some (gSeen (gTurn s m.1) m.2) := by unfold gLook; split <;> rfl
      rw [this] at hz
      cases hz
      unfold gSeen
      split <;> omega
    · rename_i hph
      rw [if_neg hph]
      rw [t3] at hz
      split at hz
      · have := v.m z hz
        rw [if_neg hph] at this
        omega
      · cases e : s.met with
        | none => rw [e] at hz; cases hz
        | some y =>
          rw [e] at hz
          cases hz
          have := v.m y e
          rw [if_neg hph] at this
          show _ ≤ y - m.1 ∧ y - m.1 ≤ _
          omega
  refine ⟨?_, ?_, ?_, ?_, ?_, ?_, ?_, ?_, n2.1, n2.2⟩
  · exact Int.emod_nonneg _ (by omega)
  · exact Int.emod_lt_of_pos _ (by omega)
  · show 0 ≤ min ((gSaw g s m).1.since + 1) g.gap
    rw [w1, t1]; have := v.i0; split <;> omega
  · show min ((gSaw g s m).1.since + 1) g.gap ≤ g.gap
    omega
  · show (gSaw g s m).1.last = -1 ∨ (gSaw g s m).1.last = 0 ∨ (gSaw g s m).1.last = 1
    rw [w2]; exact l1
  · unfold absI at hk'; split at hk' <;> omega
  · unfold absI at hk'; split at hk' <;> omega
  · intro z hz
    have q := m2 z hz
    show -(if (s.phase + 1) % g.apart = 0 then g.apart else (s.phase + 1) % g.apart) ≤ z ∧ z ≤ (if (s.phase + 1) % g.apart = 0 then g.apart else (s.phase + 1) % g.apart)
    rw [hp]
    have := v.p0; have := v.p1
    by_cases c : s.phase = 0
    · rw [if_pos c] at q
      split <;> (try split) <;> omega
    · rw [if_neg c] at q
      split <;> (try split) <;> omega
def ir (a : Int) (n : Nat) : List Int := (List.range n).map fun k : Nat => a + (k : Int)
theorem mem_ir {a z : Int} {n : Nat} (h0 : a ≤ z) (h1 : z < a + n) : z ∈ ir a n := List.mem_map.mpr ⟨(z - a).toNat, List.mem_range.mpr (by omega), by omega⟩
theorem len_flat {α β : Type} {f : α → List β} {c : Nat} (h : ∀ x, (f x).length = c) : ∀ l : List α, (l.flatMap f).length = l.length * c
  | [] => by simp
  | x :: l => by rw [List.flatMap_cons, List.length_append, h, len_flat h l, List.length_cons, Nat.succ_mul]; omega
def gAll : List GS :=
  (ir 0 6).flatMap fun p => (ir 0 7).flatMap fun i => (ir (-1) 3).flatMap fun l => (ir (-7) 15).flatMap fun k => (none :: (ir (-6) 13).map some).flatMap fun m => (ir 0 4).flatMap fun n => [true, false].flatMap fun u => [true, false].map fun d => ⟨p, i, l, k, m, n, u, d⟩
theorem gAll_len : gAll.length = 423360 := by
  have h0 : ∀ (p i l k : Int) (m : Option Int) (n : Int) (u : Bool), ([true, false].map fun d => (⟨p, i, l, k, m, n, u, d⟩ : GS)).length = 2 := fun _ _ _ _ _ _ _ => rfl
  unfold gAll
  rw [len_flat (c := 70560) fun p => ?_]
  · simp [ir]
  rw [len_flat (c := 10080) fun i => ?_]
  · simp [ir]
  rw [len_flat (c := 3360) fun l => ?_]
  · simp [ir]
  rw [len_flat (c := 224) fun k => ?_]
  · simp [ir]
  rw [len_flat (c := 16) fun m => ?_]
  · simp [ir]
  rw [len_flat (c := 4) fun n => ?_]
  · simp [ir]
  rw [len_flat (c := 2) fun u => h0 _ _ _ _ _ _ _]
  rfl
theorem vs_all {g : GP} (o : g.Ok) {s : GS} (v : VS g s) : s ∈ gAll := by
  obtain ⟨p, i, l, k, m, n, u, d⟩ := s
  obtain ⟨p0, p1, i0, i1, hl, k0, k1, hm, n0, n1⟩ := v
  have := o.g6; have := o.a6; have := o.s3
  dsimp only at *
  unfold gAll
  refine List.mem_flatMap.mpr ⟨p, mem_ir (by omega) (by omega), List.mem_flatMap.mpr ⟨i, mem_ir (by omega) (by omega), List.mem_flatMap.mpr ⟨l, mem_ir (by omega) (by omega), List.mem_flatMap.mpr ⟨k, mem_ir (by omega) (by omega), List.mem_flatMap.mpr ⟨m, ?_, List.mem_flatMap.mpr ⟨n, mem_ir (by omega) (by omega), List.mem_flatMap.mpr ⟨u, by cases u <;> simp, List.mem_map.mpr ⟨d, by cases d <;> simp, rfl⟩⟩⟩⟩⟩⟩⟩⟩
  cases m with
  | none => simp
  | some z =>
    refine List.mem_cons_of_mem _ (List.mem_map.mpr ⟨z, mem_ir ?_ ?_, rfl⟩)
    · have := (hm z rfl).1; split at this <;> omega
    · have := (hm z rfl).2; split at this <;> omega
/-- all that may be of a game -/
noncomputable def gSome (g : GP) : List GS := gAll.filter fun s => @decide (VS g s) (Classical.propDecidable _)
theorem mem_some {g : GP} (o : g.Ok) {s : GS} : s ∈ gSome g ↔ VS g s := by
  unfold gSome
  rw [List.mem_filter]
  constructor
  · intro h; exact @of_decide_eq_true _ (Classical.propDecidable _) h.2
  · intro h; exact ⟨vs_all o h, @decide_eq_true _ (Classical.propDecidable _) h⟩
theorem some_len (g : GP) : (gSome g).length ≤ 423360 := by
  rw [← gAll_len]
  exact List.length_filter_le _ _
theorem some_shut {g : GP} (o : g.Ok) : ∀ s ∈ gSome g, ∀ m ∈ gMoves g s, gFar (gNext g s m) = true → gNext g s m ∈ gSome g :=
  fun s hs m hm hk => (mem_some o).mpr (vs_next o ((mem_some o).mp hs) hm hk)
/-- the game ends -/
theorem game_ends {g : GP} (o : g.Ok) (least : Int) (noises : Bool) : ∃ r, gBfs g least noises 1000000 [(gFirst g, [])] [gFirst g] = some r := by
  have h1 := (mem_some o).mpr (vs_first o)
  refine bfs_ends (some_shut o) 1000000 _ _ (fun x hx => by rw [List.mem_singleton.mp hx]; exact h1) (fun x hx => by rw [List.mem_singleton.mp hx]; exact h1) (by simp) ?_
  have := some_len g
  rw [if_neg (by simp)]
  simp only [List.length_singleton]
  omega
/-! ### the class Game -/
structure GameK (K : PySem.W.Frag) (C : Addr) : Prop where
  cl : Cls K C
  gap : NoAttr K C "gap"
  bounce : NoAttr K C "bounce"
  apart : NoAttr K C "apart"
  same : NoAttr K C "same"
  first : NoAttr K C "first"
def GameAt (K : PySem.W.Frag) (C : Addr) (H : Hp) (p : Addr) (g : GP) : Prop :=
  ∃ dx fa, H p = some (.ins C dx [("gap", .int g.gap), ("bounce", .int g.bounce), ("apart", .int g.apart), ("same", .int g.same), ("first", .ref fa)]) ∧ H fa = some (.tup (gsV (gFirst g)))
theorem GameAt.same {K : PySem.W.Frag} {C : Addr} {H H' : Hp} {p : Addr} {g : GP} (h : GameAt K C H p g) (e : Same H H') : GameAt K C H' p g := by
  obtain ⟨dx, fa, h1, h2⟩ := h
  exact ⟨dx, fa, e _ _ h1, e _ _ h2⟩
/-- tuples of moves, new ones -/
def MvsNew (H H' : Hp) (xs : List V) (row : List Mv) : Prop := xs.length = row.length ∧ ∀ (i : Nat) (m : Mv), row[i]? = some m → ∃ t, xs[i]? = some (.ref t) ∧ H t = none ∧ H' t = some (.tup [.int m.1, .bl m.2])
theorem MvsNew.nil {H H' : Hp} : MvsNew H H' [] [] := ⟨rfl, fun i m h => by simp at h⟩
theorem MvsNew.mono {H H1 H2 : Hp} {xs : List V} {row : List Mv} (h : MvsNew H H1 xs row) (e : Same H1 H2) : MvsNew H H2 xs row := ⟨h.1, fun i m q => let ⟨t, a, b, c⟩ := h.2 i m q; ⟨t, a, b, e _ _ c⟩⟩
theorem MvsNew.frm {H H1 H2 : Hp} {xs : List V} {row : List Mv} {ps : List Addr} (h : MvsNew H H1 xs row) (e : Frm ps H1 H2) (hn : ∀ t, H t = none → ∀ o, H1 t = some (.tup o) → t ∉ ps) : MvsNew H H2 xs row :=
  ⟨h.1, fun i m q => let ⟨t, a, b, c⟩ := h.2 i m q; ⟨t, a, b, e _ _ (hn t b _ c) c⟩⟩
theorem MvsNew.snoc {H H' : Hp} {xs : List V} {row : List Mv} {t : Addr} {m : Mv} (h : MvsNew H H' xs row) (ht : H t = none) (ht' : H' t = some (.tup [.int m.1, .bl m.2])) : MvsNew H H' (xs ++ [.ref t]) (row ++ [m]) := by
  refine ⟨by simp [h.1], fun i x hx => ?_⟩
  by_cases c : i < row.length
  · rw [List.getElem?_append_left c] at hx
    obtain ⟨u, a, b, d⟩ := h.2 i x hx
    exact ⟨u, by rw [List.getElem?_append_left (by rw [h.1]; exact c)]; exact a, b, d⟩
  · have : i = row.length := by
      have := (List.getElem?_eq_some_iff.mp hx).1
      simp at this
      omega
    subst this
    simp at hx
    subst hx
    exact ⟨t, by rw [← h.1]; simp, ht, ht'⟩
theorem MvsNew.dpa {K : PySem.W.Frag} {H H' : Hp} {xs : List V} {row : List Mv} {ps : List Addr} (h : MvsNew H H' xs row) (hn : ∀ t, H t = none → ∀ o, H' t = some (.tup o) → t ∉ ps) : DpAll K (Fz ps H') xs (row.map mvD) := by
  refine dpa_map (fun i v hv => ?_) h.1
  have hi : i < row.length := by rw [← h.1]; exact (List.getElem?_eq_some_iff.mp hv).1
  obtain ⟨t, a, b, c⟩ := h.2 i row[i] (List.getElem?_eq_getElem hi)
  rw [a] at hv
  cases hv
  exact ⟨row[i], List.getElem?_eq_getElem hi, .tup (SqT.of (fz_some.mpr ⟨hn t b _ c, c⟩)) (dpa_ib _ _)⟩
def spGInit (K : PySem.W.Frag) (C : Addr) : Sp := fun vs H Q _ => ∃ (x dx : Addr) (v u : V) (g : GP), vs = [.ref x, v, u] ∧ H x = some (.ins C dx []) ∧ Dp K (Fz [x] H) v (knD g.gap g.bounce) ∧ Dp K (Fz [x] H) u (knD g.apart g.same) ∧
  ∀ H', Frm [x] H H' → GameAt K C H' x g → Q .non H'
def spMoves (K : PySem.W.Frag) (C : Addr) : Sp := fun vs H Q _ => ∃ (p : Addr) (v : V) (g : GP) (s : GS), vs = [.ref p, v] ∧ GameAt K C H p g ∧ Dp K H v (gsD s) ∧
  ∀ (l : Addr) (xs : List V) (H' : Hp), H l = none → Same H H' → H' l = some (.lst xs) → MvsNew H H' xs (gMoves g s) → Q (.ref l) H'
def spBehind (K : PySem.W.Frag) (C : Addr) : Sp := fun vs H Q _ => ∃ (p : Addr) (v u : V) (g : GP) (s : GS) (m : Mv), vs = [.ref p, v, u] ∧ GameAt K C H p g ∧ g.Ok ∧ Dp K H v (gsD s) ∧ Dp K H u (mvD m) ∧
  ∀ (t o : Addr) (H' : Hp), H t = none → H o = none → Same H H' → H' t = some (.tup [.ref o, .int (gBy g s m), .bl (gNoise g s m)]) → H' o = some (.tup (gsV (gNext g s m))) → Q (.ref t) H'
section
variable {P : Program} {w : World} {K : PySem.W.Frag} {mg : Str → Option Value} {base : Heap}
theorem sc_ginit : FnScope ["self", "knob", "reader"] ["self", "knob", "reader"] (defScope (inClass (top 12) 0)) := ⟨rfl, rfl, rfl, by decide +kernel, rfl, by decide +kernel, by decide +kernel⟩
theorem ok_ginit {f C : Addr} {fd : FuncData} (F : Fun K "__init__" "Game.__init__" (inClass (top 12) 0) f fd) (gk : GameK K C) : FnOk P w K mg base CX0 1 f fd ["self", "knob", "reader"] (spGInit K C) := by
  have sc := sc_ginit
  refine F.ok sc (fun vs H Q E h => ?_) (fun cdv A outer s H vs Q E hr h => ?_)
  · obtain ⟨x, dx, v, u, g, rfl, _⟩ := h
    rfl
  · obtain ⟨x, dx, v, u, g, rfl, hx, hv, hu, k⟩ := h
    obtain ⟨a1, rfl, hT⟩ := dp_ii hv
    obtain ⟨a2, rfl, hU⟩ := dp_ii hu
    have up : ∀ {o : HO} {a : Addr} {xs : List V}, SqT K (Fz [x] H) a xs → SqT K (upd H x o) a xs := fun {o a xs} h => same_seqT (fz_le (ps := [x])) (by rw [fz_set (List.mem_singleton_self x)]; exact h)
    refine ⟨_, (pss_cons (ps_asg (pv 1) (pg_tup rfl (pgs_cons (pg_fld (pv 0)) (pgs_cons (pg_fld (pv 0)) pgs_nil))))
(pss_cons (ps_asg (pv 2) (pg_tup rfl (pgs_cons (pg_fld (pv 0)) (pgs_cons (pg_fld (pv 0)) pgs_nil))))
(pss_one (ps_fld (pv 0) (pe_tup (pa_cons pe_int (pa_cons (pe_fldK (K := K) rfl (pv 0)) (pa_cons pe_int (pa_cons pe_int (pa_cons pe_non (pa_cons pe_int (pa_cons pe_bl (pa_cons pe_bl pa_nil))))))))) rfl)))), ?_⟩
    refine ⟨_, rfl, a1, _, rfl, same_seqT fz_le hT, rfl, _, _, rfl, _, rfl, x, C, dx, _, rfl, hx, gk.cl, gk.gap, few 0 rfl, _, _, rfl, _, rfl, x, C, dx, _, rfl, upd_same, gk.cl, gk.bounce, few 1 rfl, rfl, ?_⟩
    rw [upd_upd]
    refine ⟨_, rfl, a2, _, rfl, up hU, rfl, _, _, rfl, _, rfl, x, C, dx, _, rfl, upd_same, gk.cl, gk.apart, few 2 rfl, _, _, rfl, _, rfl, x, C, dx, _, rfl, upd_same, gk.cl, gk.same, few 3 rfl, rfl, ?_⟩
    rw [upd_upd, upd_upd]
    refine ⟨_, rfl, x, C, dx, _, _, rfl, upd_same, gk.cl, gk.gap, rfl, (by show 8 ≤ sizeLine; decide), fun fa hfa => ?_⟩
    have nx : x ≠ fa := ne_of_none upd_same hfa
    refine ⟨_, rfl, x, C, dx, _, rfl, (by rw [upd_ne nx]; exact upd_same), gk.cl, gk.first, few 4 rfl, ?_⟩
    refine k _ ?_ ⟨dx, fa, upd_same, by rw [upd_ne nx.symm]; exact upd_same⟩
    have f1 : Frm [x] H (upd H x (.ins C dx [("gap", .int g.gap), ("bounce", .int g.bounce), ("apart", .int g.apart), ("same", .int g.same)])) := Frm.set (by simp)
    exact (f1.trans (Frm.new hfa)).trans (Frm.set (by simp))
theorem sc_moves : FnScope ["self", "state", "phase", "since", "last", "found", "turn", "age"] ["self", "state"] (defScope (inClass (top 12) 1)) := ⟨rfl, rfl, rfl, by decide +kernel, rfl, by decide +kernel, by decide +kernel⟩
theorem ok_moves {f C : Addr} {fd : FuncData} (F : Fun K "moves" "Game.moves" (inClass (top 12) 1) f fd) (gk : GameK K C) : FnOk P w K mg base CX0 1 f fd ["self", "state"] (spMoves K C) := by
  have sc := sc_moves
  refine F.ok sc (fun vs H Q E h => ?_) (fun cdv A outer s H vs Q E hr h => ?_)
  · obtain ⟨p, v, g, s, rfl, _⟩ := h
    rfl
  · obtain ⟨p, v, g, st, rfl, hg, hv, k⟩ := h
    obtain ⟨a, rfl, hT⟩ := dp_gs hv
    obtain ⟨dx, fa, hp, hfa⟩ := hg
    refine ⟨_, (pss_cons (ps_asg (pe_slice (r := rSlT K) sl_tup (pv 1) po_none (po_some pe_int)) (pg_tup rfl (pgs_cons (pg_name (i := 2) sc.nd rfl (Or.inl rfl)) (pgs_cons (pg_name (i := 3) sc.nd rfl (Or.inl rfl)) (pgs_cons (pg_name (i := 4) sc.nd rfl (Or.inl rfl)) pgs_nil)))))
(pss_cons (ps_set (i := 5) sc.nd rfl (Or.inl rfl) (pe_lst pa_nil))
(pss_cons (ps_for PassesOwn.never rfl (pi_tup (pe_tup (pa_cons pe_int (pa_cons (pe_un un_neg pe_int) (pa_cons pe_int pa_nil))))) (pg_name (i := 6) sc.nd rfl (Or.inl rfl))
(pss_one (ps_if (pt_cut (PW.pt (pw_or (pt_cmpR op_eq (pv 6) pe_int (nomark _)) (pw_or1 (pt_cmpR op_ge (pv 3) (pe_fldK (K := K) rfl (pv 0)) (nomark _))))))
(pss_cons (ps_expr (pe_bm PySem.F.plainAttrs_list PySem.F.slot_list_append PySem.F.type_list_append mt_append (pv 5) (pa_cons (pe_tup (pa_cons (pv 6) (pa_cons pe_bl pa_nil))) pa_nil)))
(pss_cons (ps_set (i := 7) sc.nd rfl (Or.inl rfl) (pe_cut (pe_ifExp (pt_cmpR op_eq (pv 6) pe_int (nomark _)) (pv 3) pe_int)))
(pss_one (ps_if (pt_cut (PW.pt (pw_and (pt_cmpR op_eq (pv 2) pe_int (nomark _)) (pw_and (pt_cmpR op_lt (pv 7) (pe_fldK (K := K) rfl (pv 0)) (nomark _)) (pw_and1 (PW.pt (pw_or (pt_cmpR op_ne (pv 6) pe_int (nomark _)) (pw_or1 (pt_cmpR op_ne (pv 4) pe_int (nomark _))))))))))
(pss_one (ps_expr (pe_bm PySem.F.plainAttrs_list PySem.F.slot_list_append PySem.F.type_list_append mt_append (pv 5) (pa_cons (pe_tup (pa_cons (pv 6) (pa_cons pe_bl pa_nil))) pa_nil))))
pss_nil))))
pss_nil)))
(pss_one (ps_ret (pv 5)))))), ?_⟩
    refine ⟨_, rfl, _, rfl, a, _, rfl, hT, (by show ¬ (0 = 0 ∧ 3 = 8); decide), fun t1 ht1 => ?_⟩
    have s1 := same_new ht1 (o := .tup (cutV (gsV st) none (some 3)))
    refine ⟨t1, _, rfl, SqT.of upd_same, rfl, _, _, rfl, _, _, rfl, _, _, rfl, rfl, ?_⟩
    refine ⟨Nat.zero_le _, fun l hl => ?_⟩
    have s2 := same_new hl (o := .lst [])
    refine ⟨_, rfl, (by show 3 ≤ sizeLine; decide), fun t2 ht2 => ?_⟩
    have s3 := same_new ht2 (o := .tup [.int 0, .int (-1), .int 1])
    have sA := s1.trans (s2.trans s3)
    have lfree : H l = none := s1.free hl
    refine ⟨t2, rfl, ⟨_, SqT.of upd_same⟩, for_it (walk_tup (xs := [.int 0, .int (-1), .int 1])) (fun i σ H' => ∃ (xs : List V) (u6 u7 : Option V), σ = [some (.ref p), some (.ref a), some (.int st.phase), some (.int st.since), some (.int st.last), some (.ref l), u6, u7] ∧
        Same H H' ∧ H' t2 = some (.tup [.int 0, .int (-1), .int 1]) ∧ H' l = some (.lst xs) ∧ MvsNew H H' xs ((([0, -1, 1] : List Int).take i).flatMap (gMove g st)) ∧ xs.length ≤ 2 * i)
      ⟨[], none, none, rfl, sA, upd_same, s3 _ _ upd_same, MvsNew.nil, by simp⟩ (fun i σ H' _ ⟨_, _, _, _, _, e, _⟩ => SqT.of e) ?_ ?_⟩
    · rintro i x σ H1 H2 hi ⟨xs, u6, u7, rfl, sH, ht2', hl1, hX, hxl⟩ ⟨rfl, hx⟩
      obtain ⟨t, rfl, et⟩ : ∃ t : Int, x = .int t ∧ ([0, -1, 1] : List Int)[i]? = some t := by
        match i, hx with
        | 0, hx => cases hx; exact ⟨0, rfl, rfl⟩
        | 1, hx => cases hx; exact ⟨-1, rfl, rfl⟩
        | 2, hx => cases hx; exact ⟨1, rfl, rfl⟩
      have hi3 : i < 3 := by simpa using hi
      rw [take_snoc et, List.flatMap_append, List.flatMap_singleton]
      have ht2l : t2 ≠ l := fun z => by rw [z, hl1] at ht2'; cases ht2'
      refine ⟨fun b H' => b = decide (t = 0 ∨ g.gap ≤ st.since) ∧ H' = H2, ?_, ?_⟩
      · refine ⟨_, rfl, rfl, _, rfl, ?_⟩
        by_cases h0 : t = 0
        · exact iteDT (vint_eq h0) ⟨(decide_eq_true (.inl h0)).symm, rfl⟩
        · refine iteDF (vint_ne h0) ⟨_, rfl, _, rfl, p, C, dx, _, _, rfl, sH _ _ hp, gk.cl, gk.gap, rfl, _, _, rfl, rfl, _, rfl, ?_, rfl⟩
          by_cases h1 : g.gap ≤ st.since
          · rw [decide_eq_true h1, decide_eq_true (.inr h1)]
          · rw [decide_eq_false h1, decide_eq_false (fun h => h.elim h0 h1)]
      · rintro b H3 ⟨rfl, rfl⟩
        refine iteD (fun hc => ?_) (fun hc => ?_)
        · refine ⟨_, rfl, .inl ⟨rfl, _, SqL.of hl1⟩, _, rfl, (by show 2 ≤ sizeLine; decide), fun tp htp => ?_⟩
          have ntl : l ≠ tp := ne_of_none hl1 htp
          have stp := same_new htp (o := .tup [.int t, .bl false])
          refine ⟨l, xs, _, rfl, rfl, stp _ _ hl1, small1000 (by omega), ?_⟩
          have hX4 : MvsNew H (upd (upd H3 tp (.tup [.int t, .bl false])) l (.lst (xs ++ [.ref tp]))) (xs ++ [.ref tp]) ((([0, -1, 1] : List Int).take i).flatMap (gMove g st) ++ [(t, false)]) := by
            refine MvsNew.snoc (hX.frm (ps := [l]) ((Frm.of_same stp).trans (Frm.set (by simp))) fun u _ o ho hm => ?_) (sH.free htp) (by rw [upd_ne ntl.symm]; exact upd_same)
            rw [List.mem_singleton.mp hm, hl1] at ho; cases ho
          have sH4 : Same H (upd (upd H3 tp (.tup [.int t, .bl false])) l (.lst (xs ++ [.ref tp]))) := same_put lfree (sH.trans stp)
          have hl4 : (upd (upd H3 tp (.tup [.int t, .bl false])) l (.lst (xs ++ [.ref tp]))) l = some (.lst (xs ++ [.ref tp])) := upd_same
          have ht24 : (upd (upd H3 tp (.tup [.int t, .bl false])) l (.lst (xs ++ [.ref tp]))) t2 = some (.tup [.int 0, .int (-1), .int 1]) := by rw [upd_ne ht2l]; exact stp _ _ ht2'
          revert hX4 sH4 hl4 ht24
          generalize upd (upd H3 tp (.tup [.int t, .bl false])) l (.lst (xs ++ [.ref tp])) = H4
          intro hX4 sH4 hl4 ht24
          -- age
          refine ⟨fun v H' => v = .int (gAge st t) ∧ H' = H4, ?_, ?_⟩
          · refine ⟨_, rfl, rfl, _, rfl, ?_⟩
            unfold gAge
            by_cases h0 : t = 0
            · rw [if_pos h0]; exact iteDT (vint_eq h0) ⟨_, rfl, rfl, rfl⟩
            · rw [if_neg h0]; exact iteDF (vint_ne h0) ⟨rfl, rfl⟩
          rintro v H5 ⟨rfl, rfl⟩
          refine ⟨fun b H' => b = decide (st.phase = 0 ∧ gAge st t < g.bounce ∧ (t ≠ 0 ∨ st.last ≠ 0)) ∧ H' = H5, ?_, ?_⟩
          · refine ⟨_, rfl, rfl, _, rfl, ?_⟩
            by_cases h1 : st.phase = 0
            · refine iteDT (vint_eq h1) ⟨_, rfl, _, rfl, p, C, dx, _, _, rfl, sH4 _ _ hp, gk.cl, gk.bounce, rfl, _, _, rfl, rfl, _, rfl, ?_⟩
              by_cases h2 : gAge st t < g.bounce
              · refine iteDT h2 ⟨_, rfl, rfl, _, rfl, ?_⟩
                by_cases h3 : t = 0
                · refine iteNS (vint_eq h3) ⟨_, rfl, rfl, _, rfl, ?_, rfl⟩
                  by_cases h4 : st.last = 0
                  · rw [decide_eq_true (vint_eq h4), decide_eq_false (fun h => h.2.2.elim (fun z => z h3) (fun z => z h4))]; rfl
                  · rw [decide_eq_false (vint_ne h4), decide_eq_true ⟨h1, h2, .inr h4⟩]; rfl
                · exact iteNT (vint_ne h3) ⟨(decide_eq_true ⟨h1, h2, .inl h3⟩).symm, rfl⟩
              · exact iteDF h2 ⟨(decide_eq_false (fun h => h2 h.2.1)).symm, rfl⟩
            · exact iteDF (vint_ne h1) ⟨(decide_eq_false (fun h => h1 h.1)).symm, rfl⟩
          rintro b H6 ⟨rfl, rfl⟩
          refine iteD (fun hd => ?_) (fun hd => ?_)
          · have eM : gMove g st t = [(t, false), (t, true)] := by unfold gMove; rw [if_pos hc, if_pos hd]
            rw [eM]
            refine ⟨_, rfl, .inl ⟨rfl, _, SqL.of hl4⟩, _, rfl, (by show 2 ≤ sizeLine; decide), fun tq htq => ?_⟩
            have nql : l ≠ tq := ne_of_none hl4 htq
            have stq := same_new htq (o := .tup [.int t, .bl true])
            refine ⟨l, _, _, rfl, rfl, stq _ _ hl4, small1000 (by rw [List.length_append, List.length_singleton]; omega), ?_⟩
            refine ⟨(xs ++ [.ref tp]) ++ [.ref tq], _, _, rfl, same_put lfree (sH4.trans stq), by rw [upd_ne ht2l]; exact stq _ _ ht24, upd_same, ?_, by simp; omega⟩
            have := MvsNew.snoc (m := (t, true)) (t := tq) (H' := upd (upd H6 tq (.tup [.int t, .bl true])) l (.lst ((xs ++ [.ref tp]) ++ [.ref tq]))) (hX4.frm (ps := [l]) ((Frm.of_same stq).trans (Frm.set (by simp))) fun u _ o ho hm => by rw [List.mem_singleton.mp hm, hl4] at ho; cases ho) (sH4.free htq) (by rw [upd_ne nql.symm]; exact upd_same)
            rw [show ((([0, -1, 1] : List Int).take i).flatMap (gMove g st) ++ [(t, false), (t, true)]) = ((([0, -1, 1] : List Int).take i).flatMap (gMove g st) ++ [(t, false)]) ++ [(t, true)] by simp]
            exact this
          · have eM : gMove g st t = [(t, false)] := by unfold gMove; rw [if_pos hc, if_neg hd]
            rw [eM]
            exact ⟨xs ++ [.ref tp], _, _, rfl, sH4, ht24, hl4, hX4, by simp; omega⟩
        · have eM : gMove g st t = [] := by unfold gMove; rw [if_neg hc]
          rw [eM, List.append_nil]
          exact ⟨xs, _, _, rfl, sH, ht2', hl1, hX, by omega⟩
    · rintro σ H1 ⟨xs, u6, u7, rfl, sH, ht2', hl1, hX, hxl⟩
      refine ⟨_, rfl, k l xs H1 lfree sH hl1 ?_⟩
      have e : (([0, -1, 1] : List Int).take 3).flatMap (gMove g st) = gMoves g st := by
        show gMove g st 0 ++ (gMove g st (-1) ++ (gMove g st 1 ++ [])) = _
        unfold gMoves
        rw [List.append_nil, List.append_assoc]
      rw [← e]; exact hX
theorem sc_behind : FnScope ["self", "state", "move", "phase", "since", "last", "kept", "met", "many", "up", "down", "turn", "old", "by", "noise", "seen"] ["self", "state", "move"] (defScope (inClass (top 12) 2)) := ⟨rfl, rfl, rfl, by decide +kernel, rfl, by decide +kernel, by decide +kernel⟩
set_option maxHeartbeats 800000 in
theorem ok_behind {f C : Addr} {fd : FuncData} (F : Fun K "behind" "Game.behind" (inClass (top 12) 2) f fd) (gk : GameK K C) (n_min : mg "min" = none) : FnOk P w K mg base CX0 1 f fd ["self", "state", "move"] (spBehind K C) := by
  have sc := sc_behind
  refine F.ok sc (fun vs H Q E h => ?_) (fun cdv A outer s H vs Q E hr h => ?_)
  · obtain ⟨p, v, u, g, s, m, rfl, _⟩ := h
    rfl
  · obtain ⟨p, v, u, g, st, ⟨t, o⟩, rfl, hg, gok, hv, hu, k⟩ := h
    obtain ⟨a, rfl, hT⟩ := dp_gs hv
    obtain ⟨b, rfl, hM⟩ := dp_ib hu
    obtain ⟨dx, fa, hp, hfa⟩ := hg
    refine ⟨_, (pss_cons (ps_asg (pv 1) (pg_tup rfl (pgs_cons (pg_name (i := 3) sc.nd rfl (Or.inl rfl)) (pgs_cons (pg_name (i := 4) sc.nd rfl (Or.inl rfl)) (pgs_cons (pg_name (i := 5) sc.nd rfl (Or.inl rfl)) (pgs_cons (pg_name (i := 6) sc.nd rfl (Or.inl rfl)) (pgs_cons (pg_name (i := 7) sc.nd rfl (Or.inl rfl)) (pgs_cons (pg_name (i := 8) sc.nd rfl (Or.inl rfl)) (pgs_cons (pg_name (i := 9) sc.nd rfl (Or.inl rfl)) (pgs_cons (pg_name (i := 10) sc.nd rfl (Or.inl rfl)) pgs_nil))))))))))
(C8.pss_cut (ps_asg (pv 2) (pg_tup rfl (pgs_cons (pg_name (i := 11) sc.nd rfl (Or.inl rfl)) (pgs_cons (pg_name (i := 12) sc.nd rfl (Or.inl rfl)) pgs_nil))))
(C8.pss_cut (ps_if (pt_cmpR op_ne (pv 11) pe_int (nomark _))
(pss_cons (ps_set (i := 4) sc.nd rfl (Or.inl rfl) pe_int)
(pss_cons (ps_set (i := 5) sc.nd rfl (Or.inl rfl) (pv 11))
(C8.pss_cut (ps_set (i := 6) sc.nd rfl (Or.inl rfl) (pe_op op_sub (pv 6) (pv 11)))
(pss_cons (ps_set (i := 7) sc.nd rfl (Or.inl rfl) (pe_cut (pe_ifExp (pt_cmpR op_isN (pv 7) pe_non (nomark _)) pe_non (pe_op op_sub (pv 7) (pv 11)))))
(pss_cons (ps_set (i := 9) sc.nd rfl (Or.inl rfl) (pe_cut (pe_or (pv 9) (pe_one (pe_cmpR op_gt (pv 11) pe_int (nomark _))))))
(pss_one (ps_set (i := 10) sc.nd rfl (Or.inl rfl) (pe_cut (pe_or (pv 10) (pe_one (pe_cmpR op_lt (pv 11) pe_int (nomark _))))))))))))
pss_nil)
(pss_cons (ps_set (i := 13) sc.nd rfl (Or.inl rfl) pe_int)
(pss_cons (ps_set (i := 14) sc.nd rfl (Or.inl rfl) pe_bl)
(C8.pss_cut (ps_if (pt_cmpR op_eq (pv 3) pe_int (nomark _))
(pss_cons (ps_set (i := 15) sc.nd rfl (Or.inl rfl) (pe_cut (pe_ifExp (pt_val (pv 12)) (pe_op op_sub pe_int (pv 5)) pe_int)))
(pss_cons (ps_set (i := 8) sc.nd rfl (Or.inl rfl) (pe_cut (pe_ifExp (PW.pt (pw_and (pt_cmpR op_notN (pv 7) pe_non (nomark _)) (pw_and1 (pt_cmpR op_eq (pe_op op_mod (pe_op op_sub (pv 7) (pv 15)) pe_int) pe_int (nomark _))))) (pe_callB (call_min2 rfl) (by rfl) n_min (by decide +kernel) (pa_cons (pe_fldK (K := K) rfl (pv 0)) (pa_cons (pe_op op_add (pv 8) pe_int) pa_nil))) pe_int)))
(pss_cons (ps_set (i := 7) sc.nd rfl (Or.inl rfl) (pv 15))
(pss_one (ps_if (pt_cmpR op_eq (pv 8) (pe_fldK (K := K) rfl (pv 0)) (nomark _))
(pss_cons (ps_set (i := 13) sc.nd rfl (Or.inl rfl) (pe_op op_sub (pv 15) (pv 6)))
(pss_one (ps_set (i := 6) sc.nd rfl (Or.inl rfl) (pv 15))))
pss_nil)))))
pss_nil)
(C8.pss_cut (ps_if (pt_cmpR op_ne (pv 13) pe_int (nomark _))
(pss_cons (ps_set (i := 14) sc.nd rfl (Or.inl rfl) (pe_cut (pe_or (pe_and (pe_cmpR op_gt (pv 13) pe_int (nomark _)) (pe_one (pe_not (pv 9)))) (pe_one (pe_and (pe_cmpR op_lt (pv 13) pe_int (nomark _)) (pe_one (pe_not (pv 10))))))))
(pss_cons (ps_set (i := 9) sc.nd rfl (Or.inl rfl) pe_bl)
(pss_one (ps_set (i := 10) sc.nd rfl (Or.inl rfl) pe_bl))))
pss_nil)
(pss_cons (ps_set (i := 3) sc.nd rfl (Or.inl rfl) (pe_op op_mod (pe_op op_add (pv 3) pe_int) (pe_fldK (K := K) rfl (pv 0))))
(pss_one (ps_ret (pe_tup (pa_cons (pe_tup (pa_cons (pv 3) (pa_cons (pe_callB (call_min2 rfl) (by rfl) n_min (by decide +kernel) (pa_cons (pe_op op_add (pv 4) pe_int) (pa_cons (pe_fldK (K := K) rfl (pv 0)) pa_nil))) (pa_cons (pv 5) (pa_cons (pv 6) (pa_cons (pv 7) (pa_cons (pv 8) (pa_cons (pv 9) (pa_cons (pv 10) pa_nil))))))))) (pa_cons (pv 13) (pa_cons (pv 14) pa_nil)))))))))))))), ?_⟩
    refine ⟨_, rfl, a, _, rfl, hT, rfl, _, _, rfl, _, _, rfl, _, _, rfl, _, _, rfl, _, _, rfl, _, _, rfl, _, _, rfl, _, _, rfl, rfl, ?_⟩
    refine ⟨fun σ H' => H' = H ∧ σ = [some (.ref p), some (.ref a), some (.ref b), some (.int st.phase), some (.int st.since), some (.int st.last), some (.int st.kept), some (metV st.met), some (.int st.many), some (.bl st.up), some (.bl st.down), some (.int t), some (.bl o), none, none, none], ?_, ?_⟩
    · exact ⟨_, rfl, b, _, rfl, hM, rfl, _, _, rfl, _, _, rfl, rfl, rfl, rfl⟩
    rintro σ H0 ⟨rfl, rfl⟩
    -- the turn
    have stay : gTurn st 0 = st := if_pos rfl
    refine ⟨fun σ H' => H' = H0 ∧ σ = [some (.ref p), some (.ref a), some (.ref b), some (.int st.phase), some (.int (gTurn st t).since), some (.int (gTurn st t).last), some (.int (gTurn st t).kept), some (metV (gTurn st t).met), some (.int (gTurn st t).many), some (.bl (gTurn st t).up), some (.bl (gTurn st t).down), some (.int t), some (.bl o), none, none, none], ?_, ?_⟩
    · refine ⟨_, rfl, rfl, _, rfl, ?_⟩
      by_cases h0 : t = 0
      · refine iteNS (vint_eq h0) ⟨rfl, ?_⟩
        rw [h0, stay]
      · have eT : gTurn st t = { st with since := 0, last := t, kept := st.kept - t, met := st.met.map (· - t), up := st.up || decide (0 < t), down := st.down || decide (t < 0) } := if_neg h0
        rw [eT]
        refine iteNT (vint_ne h0) ⟨_, rfl, ?_⟩
        refine ⟨fun σ H' => H' = H0 ∧ σ = [some (.ref p), some (.ref a), some (.ref b), some (.int st.phase), some (.int 0), some (.int t), some (.int (st.kept - t)), some (metV st.met), some (.int st.many), some (.bl st.up), some (.bl st.down), some (.int t), some (.bl o), none, none, none], ?_, ?_⟩
        · exact ⟨_, rfl, _, rfl, _, _, rfl, rfl, rfl, rfl⟩
        rintro σ H01 ⟨rfl, rfl⟩
        refine ⟨fun v H' => v = metV (st.met.map (· - t)) ∧ H' = H01, ?_, ?_⟩
        · refine ⟨_, rfl, rfl, _, rfl, ?_⟩
          cases st.met with
          | none => exact iteDT rfl ⟨rfl, rfl⟩
          | some z => exact iteDF (fun z => by cases z) ⟨_, rfl, _, rfl, _, _, rfl, rfl, rfl, rfl⟩
        rintro v H1 ⟨rfl, rfl⟩
        refine ⟨fun v H' => v = .bl (st.up || decide (0 < t)) ∧ H' = H1, ?_, ?_⟩
        · refine ⟨_, rfl, _, rfl, iteB (fun e => ?_) (fun e => ?_)⟩
          · rw [e]; exact ⟨rfl, rfl⟩
          · rw [e]; exact ⟨_, rfl, _, _, rfl, rfl, rfl, rfl⟩
        rintro v H2 ⟨rfl, rfl⟩
        refine ⟨fun v H' => v = .bl (st.down || decide (t < 0)) ∧ H' = H2, ?_, ?_⟩
        · refine ⟨_, rfl, _, rfl, iteB (fun e => ?_) (fun e => ?_)⟩
          · rw [e]; exact ⟨rfl, rfl⟩
          · rw [e]; exact ⟨_, rfl, _, _, rfl, rfl, rfl, rfl⟩
        rintro v H3 ⟨rfl, rfl⟩
        exact ⟨rfl, rfl⟩
    rintro σ H1 ⟨rfl, rfl⟩
    have eSaw : gSaw g st (t, o) = if st.phase = 0 then gLook g (gTurn st t) o else (gTurn st t, 0) := rfl
    have eBy : gBy g st (t, o) = (gSaw g st (t, o)).2 := rfl
    have eNoi : gNoise g st (t, o) = ((decide (0 < gBy g st (t, o)) && !(gTurn st t).up) || (decide (gBy g st (t, o) < 0) && !(gTurn st t).down)) := rfl
    have eNx : gNext g st (t, o) = gEnd g st.phase (gBy g st (t, o)) (gSaw g st (t, o)).1 := rfl
    rw [eNx, eNoi, eBy] at k
    have w3 : (gSaw g st (t, o)).1.up = (gTurn st t).up := by unfold gSaw gLook; split <;> (try split) <;> rfl
    have w4 : (gSaw g st (t, o)).1.down = (gTurn st t).down := by unfold gSaw gLook; split <;> (try split) <;> rfl
    revert k w3 w4 eSaw
    generalize gSaw g st (t, o) = S2
    generalize gTurn st t = s1
    intro k eSaw w3 w4
    obtain ⟨s2, y⟩ := S2
    dsimp only at k w3 w4
    -- the look
    refine ⟨fun σ H' => H' = H1 ∧ ∃ u15, σ = [some (.ref p), some (.ref a), some (.ref b), some (.int st.phase), some (.int s2.since), some (.int s2.last), some (.int s2.kept), some (metV s2.met), some (.int s2.many), some (.bl s1.up), some (.bl s1.down), some (.int t), some (.bl o), some (.int y), some (.bl false), u15], ?_, ?_⟩
    · refine ⟨_, rfl, rfl, _, rfl, ?_⟩
      by_cases hph : st.phase = 0
      · rw [if_pos hph] at eSaw
        refine iteDT (vint_eq hph) ?_
        refine ⟨fun v H' => v = .int (gSeen s1 o) ∧ H' = H1, ?_, ?_⟩
        · refine ⟨_, rfl, _, rfl, iteB (fun e => ?_) (fun e => ?_)⟩
          · rw [show gSeen s1 o = 0 - s1.last from if_pos e]
            exact ⟨_, rfl, _, _, rfl, rfl, rfl, rfl⟩
          · rw [show gSeen s1 o = 0 from if_neg (by rw [e]; decide)]
            exact ⟨rfl, rfl⟩
        rintro v H2 ⟨rfl, rfl⟩
        unfold gLook at eSaw
        generalize gSeen s1 o = z at eSaw ⊢
        refine ⟨fun v H' => v = .int (gMany g s1 z) ∧ H' = H2, ?_, ?_⟩
        · unfold gMany gSees
          refine ⟨_, rfl, rfl, _, rfl, ?_⟩
          cases em : s1.met with
          | none => exact iteF ⟨rfl, rfl⟩
          | some y =>
            refine iteT ⟨_, rfl, _, rfl, _, _, rfl, rfl, _, _, rfl, rfl, (by show (0 : Int) < 4; decide), rfl, _, rfl, ?_⟩
            by_cases hy : (y - z) % 4 = 0
            · refine iteDT (vint_eq hy) ⟨_, rfl, p, C, dx, _, _, rfl, hp, gk.cl, gk.same, rfl, _, rfl, _, _, rfl, rfl, _, _, rfl, ?_, rfl⟩
              show V.int (if s1.many + 1 < g.same then s1.many + 1 else g.same) = V.int (if decide ((y - z) % 4 = 0) = true then min g.same (s1.many + 1) else 1)
              rw [decide_eq_true hy, if_pos (rfl : true = true), min2]
            · refine iteDF (vint_ne hy) ⟨?_, rfl⟩
              show V.int 1 = V.int (if decide ((y - z) % 4 = 0) = true then min g.same (s1.many + 1) else 1)
              rw [decide_eq_false hy, if_neg (by decide)]
        rintro v H3 ⟨rfl, rfl⟩
        generalize gMany g s1 z = mn at eSaw ⊢
        refine ⟨_, rfl, _, rfl, _, rfl, p, C, dx, _, _, rfl, hp, gk.cl, gk.same, rfl, rfl, _, rfl, ?_⟩
        by_cases hs : mn = g.same
        · rw [if_pos hs] at eSaw
          cases eSaw
          exact iteDT (vint_eq hs) ⟨_, rfl, _, rfl, _, _, rfl, rfl, _, rfl, rfl, _, rfl⟩
        · rw [if_neg hs] at eSaw
          cases eSaw
          exact iteDF (vint_ne hs) ⟨rfl, _, rfl⟩
      · rw [if_neg hph] at eSaw
        cases eSaw
        exact iteDF (vint_ne hph) ⟨rfl, _, rfl⟩
    rintro σ H2 ⟨rfl, u15, rfl⟩
    -- noise
    refine ⟨fun σ H' => H' = H2 ∧ σ = [some (.ref p), some (.ref a), some (.ref b), some (.int st.phase), some (.int s2.since), some (.int s2.last), some (.int s2.kept), some (metV s2.met), some (.int s2.many), some (.bl (if y = 0 then s2.up else false)), some (.bl (if y = 0 then s2.down else false)), some (.int t), some (.bl o), some (.int y), some (.bl ((decide (0 < y) && !s1.up) || (decide (y < 0) && !s1.down))), u15], ?_, ?_⟩
    · refine ⟨_, rfl, rfl, _, rfl, ?_⟩
      rw [w3, w4]
      by_cases h0 : y = 0
      · refine iteNS (vint_eq h0) ⟨rfl, ?_⟩
        rw [if_pos h0, if_pos h0, h0]
        rfl
      · rw [if_neg h0, if_neg h0]
        refine iteNT (vint_ne h0) ?_
        refine ⟨fun v H' => v = .bl ((decide (0 < y) && !s1.up) || (decide (y < 0) && !s1.down)) ∧ H' = H2, ?_, ?_⟩
        · refine ⟨_, rfl, _, _, rfl, rfl, _, rfl, ?_⟩
          by_cases c1 : 0 < y
          · have c2 : ¬ y < 0 := by omega
            rw [decide_eq_true c1, Bool.true_and, decide_eq_false c2, Bool.false_and, Bool.or_false]
            refine iteT ⟨_, rfl, _, rfl, _, rfl, ?_⟩
            refine iteB (fun e => ?_) (fun e => ?_)
            · rw [e]; exact ⟨rfl, rfl⟩
            · refine ⟨_, rfl, _, _, rfl, rfl, _, rfl, ?_⟩
              rw [decide_eq_false c2, e]
              exact iteF ⟨rfl, rfl⟩
          · rw [decide_eq_false c1, Bool.false_and, Bool.false_or]
            refine iteF ⟨_, rfl, iteF ⟨_, rfl, _, _, rfl, rfl, _, rfl, ?_⟩⟩
            refine iteD (fun c2 => ?_) (fun c2 => ?_)
            · rw [decide_eq_true c2, Bool.true_and]
              exact ⟨_, rfl, _, rfl, rfl, rfl⟩
            · rw [decide_eq_false c2, Bool.false_and]
              exact ⟨rfl, rfl⟩
        rintro v H3 ⟨rfl, rfl⟩
        exact ⟨rfl, rfl⟩
    rintro σ H3 ⟨rfl, rfl⟩
    have := gok.a1
    refine ⟨_, rfl, _, _, rfl, rfl, _, rfl, p, C, dx, _, _, rfl, hp, gk.cl, gk.apart, rfl, _, _, rfl, rfl, (by show (0 : Int) < g.apart; omega), ?_⟩
    refine ⟨_, rfl, _, rfl, _, _, rfl, rfl, _, rfl, p, C, dx, _, _, rfl, hp, gk.cl, gk.gap, rfl, _, _, rfl, _, rfl, _, rfl, _, rfl, _, rfl, _, rfl, _, rfl, (by show 8 ≤ sizeLine; decide), fun oo hoo => ?_⟩
    have so := same_new hoo (o := .tup [.int ((st.phase + 1) % g.apart), .int (if g.gap < s2.since + 1 then g.gap else s2.since + 1), .int s2.last, .int s2.kept, metV s2.met, .int s2.many, .bl (if y = 0 then s2.up else false), .bl (if y = 0 then s2.down else false)])
    refine ⟨_, rfl, _, rfl, (by show 3 ≤ sizeLine; decide), fun tt htt => ?_⟩
    have s3 := same_new htt (o := .tup [.ref oo, .int y, .bl ((decide (0 < y) && !s1.up) || (decide (y < 0) && !s1.down))])
    refine k tt oo _ (so.free htt) hoo (so.trans s3) upd_same (s3 _ _ ?_)
    rw [upd_same]
    refine congrArg (fun z => some (HO.tup [.int ((st.phase + 1) % g.apart), .int z, .int s2.last, .int s2.kept, metV s2.met, .int s2.many, .bl (if y = 0 then s2.up else false), .bl (if y = 0 then s2.down else false)])) ?_
    show (if g.gap < s2.since + 1 then g.gap else s2.since + 1) = min (s2.since + 1) g.gap
    rw [min2]
end
/-! ### first_row -/
theorem lay_all (n : Nat) (ds : List PyData) (h : ∀ d ∈ ds, d.canLay0 = true ∧ d.depth ≤ n) : PyData.canLayAll0 ds = true ∧ PyData.depthAll ds ≤ n := by
  induction ds with
  | nil => exact ⟨rfl, Nat.zero_le _⟩
  | cons d ds ih =>
    obtain ⟨h1, h2⟩ := h d (by simp)
    obtain ⟨h3, h4⟩ := ih fun x hx => h x (by simp [hx])
    refine ⟨by simp [PyData.canLayAll0, h1, h3], ?_⟩
    show max d.depth (PyData.depthAll ds) ≤ n
    omega
theorem lay_list {n : Nat} {ds : List PyData} (h : ∀ d ∈ ds, d.canLay0 = true ∧ d.depth ≤ n) : (PyData.list ds).canLay0 = true ∧ (PyData.list ds).depth ≤ n + 1 := by
  obtain ⟨h1, h2⟩ := lay_all n ds h
  exact ⟨by simpa [PyData.canLay0] using h1, Nat.succ_le_succ h2⟩
theorem lay_tup {n : Nat} {ds : List PyData} (h : ∀ d ∈ ds, d.canLay0 = true ∧ d.depth ≤ n) : (PyData.tuple ds).canLay0 = true ∧ (PyData.tuple ds).depth ≤ n + 1 := by
  obtain ⟨h1, h2⟩ := lay_all n ds h
  exact ⟨by simpa [PyData.canLay0] using h1, Nat.succ_le_succ h2⟩
theorem lay_row (row : List Mv) : (rowD row).canLay0 = true ∧ (rowD row).depth ≤ 2 := by
  refine lay_list fun d hd => ?_
  obtain ⟨m, _, rfl⟩ := List.mem_map.mp hd
  exact lay_tup (n := 0) fun x hx => by
    simp at hx
    rcases hx with rfl | rfl <;> exact ⟨rfl, Nat.le_refl _⟩
theorem lay_gs (s : GS) : (gsD s).canLay0 = true ∧ (gsD s).depth ≤ 1 := by
  refine lay_tup (n := 0) fun x hx => ?_
  simp only [gsDs, List.mem_cons, List.not_mem_nil, or_false] at hx
  rcases hx with rfl | rfl | rfl | rfl | rfl | rfl | rfl | rfl
  any_goals exact ⟨rfl, Nat.le_refl _⟩
  cases s.met <;> exact ⟨rfl, Nat.le_refl _⟩
theorem shaped_lay {n : Nat} {d : PyData} (h : d.canLay0 = true ∧ d.depth ≤ n) (hn : n ≤ 64) : SeqAt.shaped d = true := by
  unfold SeqAt.shaped
  rw [h.1, decide_eq_true (Nat.le_trans h.2 hn)]
  rfl
def lvD (x : GS × List Mv) : PyData := .tuple [gsD x.1, rowD x.2]
theorem shaped_lv (lv : LV GS Mv) : SeqAt.shaped (.list (lv.map lvD)) = true := by
  refine shaped_lay (n := 4) (lay_list fun d hd => ?_) (by decide)
  obtain ⟨x, _, rfl⟩ := List.mem_map.mp hd
  refine lay_tup (n := 2) fun y hy => ?_
  simp only [List.mem_cons, List.not_mem_nil, or_false] at hy
  rcases hy with rfl | rfl
  · have := lay_gs x.1; exact ⟨this.1, by omega⟩
  · exact lay_row x.2
theorem small6 {n : Nat} (h : n ≤ 2000000) : n < sizeLine := by rw [sizeLine_eq]; omega
/-- the states of a level and their rows, at xs; none of the rows is the list at q -/
def LvIs (H0 H : Hp) (q : Addr) (xs : List V) (lv : LV GS Mv) : Prop := xs.length = lv.length ∧ ∀ (i : Nat) (x : GS × List Mv), lv[i]? = some x →
  ∃ (t sa ra : Addr) (ms : List V), xs[i]? = some (.ref t) ∧ H t = some (.tup [.ref sa, .ref ra]) ∧ H sa = some (.tup (gsV x.1)) ∧ H ra = some (.lst ms) ∧ MvsNew H0 H ms x.2 ∧ ra ≠ q
/-- what was met, in the dict at D -/
def MetIs (P : Program) (w : World) (H : Hp) (D : Addr) (mx : MX) (met : List GS) : Prop := H D = some (metO P w D mx) ∧ mx.map (·.1) = met.map (fun s => keyOf (gsD s)) ∧ ∀ x ∈ mx, ∃ s, x.1 = keyOf (gsD s) ∧ H x.2 = some (.tup (gsV s))
section
variable {P : Program} {w : World} {K : PySem.W.Frag} {H0 H H' : Hp} {q D : Addr}
theorem tup_keep {mx : MX} {b : Addr} {ys zs : List V} (f : Frm [q, D] H H') (hq : H q = some (.lst zs)) (hD : H D = some (metO P w D mx)) (h : H b = some (.tup ys)) : H' b = some (.tup ys) := f _ _ (by
  intro hm
  simp only [List.mem_cons, List.not_mem_nil, or_false] at hm
  rcases hm with rfl | rfl
  · rw [hq] at h; cases h
  · rw [hD] at h; cases h) h
theorem MetIs.at {mx : MX} {met : List GS} (m : MetIs P w H D mx met) : MetAt P w K H D mx := ⟨m.1, fun x hx => by
  obtain ⟨s, h1, h2⟩ := m.2.2 x hx
  exact ⟨gsD s, .tup (SqT.of h2) (dpa_gs s), hsh_gs s, h1.symm, by rw [h1]; exact depth_gs s⟩⟩
theorem MetIs.length {mx : MX} {met : List GS} (m : MetIs P w H D mx met) : mx.length = met.length := by
  have := congrArg List.length m.2.1
  simpa using this
theorem MetIs.mem {mx : MX} {met : List GS} (m : MetIs P w H D mx met) (s : GS) : keyOf (gsD s) ∈ mx.map (·.1) ↔ s ∈ met := by
  rw [m.2.1]
  constructor
  · intro h
    obtain ⟨t, ht, e⟩ := List.mem_map.mp h
    rw [← key_inj e]; exact ht
  · intro h; exact List.mem_map.mpr ⟨s, h, rfl⟩
theorem MetIs.mono {mx : MX} {met : List GS} (m : MetIs P w H D mx met) (e : Same H H') : MetIs P w H' D mx met :=
  ⟨e _ _ m.1, m.2.1, fun x hx => let ⟨s, h1, h2⟩ := m.2.2 x hx; ⟨s, h1, e _ _ h2⟩⟩
theorem LvIs.mono {xs : List V} {lv : LV GS Mv} (l : LvIs H0 H q xs lv) (e : Same H H') : LvIs H0 H' q xs lv :=
  ⟨l.1, fun i x hx => let ⟨t, sa, ra, ms, h1, h2, h3, h4, h5, h6⟩ := l.2 i x hx; ⟨t, sa, ra, ms, h1, e _ _ h2, e _ _ h3, e _ _ h4, h5.mono e, h6⟩⟩
theorem LvIs.frm {mx : MX} {zs : List V} {xs : List V} {lv : LV GS Mv} (l : LvIs H0 H q xs lv) (f : Frm [q, D] H H') (hq : H q = some (.lst zs)) (hD : H D = some (metO P w D mx)) : LvIs H0 H' q xs lv := by
  refine ⟨l.1, fun i x hx => ?_⟩
  obtain ⟨t, sa, ra, ms, h1, h2, h3, h4, h5, h6⟩ := l.2 i x hx
  refine ⟨t, sa, ra, ms, h1, tup_keep f hq hD h2, tup_keep f hq hD h3, f _ _ ?_ h4, ⟨h5.1, fun j m hm => ?_⟩, h6⟩
  · intro hm
    simp only [List.mem_cons, List.not_mem_nil, or_false] at hm
    rcases hm with e | e
    · exact h6 e
    · rw [e, hD] at h4; cases h4
  · obtain ⟨u, a, b, c⟩ := h5.2 j m hm
    exact ⟨u, a, b, tup_keep f hq hD c⟩
theorem LvIs.dpa {xs : List V} {lv : LV GS Mv} (l : LvIs H0 H q xs lv) : DpAll K H xs (lv.map lvD) := by
  refine dpa_map (fun i v hv => ?_) l.1
  have hi : i < lv.length := by rw [← l.1]; exact (List.getElem?_eq_some_iff.mp hv).1
  obtain ⟨t, sa, ra, ms, h1, h2, h3, h4, h5, h6⟩ := l.2 i lv[i] (List.getElem?_eq_getElem hi)
  rw [h1] at hv
  cases hv
  refine ⟨lv[i], List.getElem?_eq_getElem hi, .tup (SqT.of h2) (.cons (.tup (SqT.of h3) (dpa_gs _)) (.cons (.lst (SqL.of h4) ?_) .nil))⟩
  have := h5.dpa (K := K) (ps := []) (fun _ _ _ _ => by simp)
  rw [fz_nil] at this
  exact this
theorem LvIs.snoc {xs : List V} {lv : LV GS Mv} {t sa ra : Addr} {ms : List V} {x : GS × List Mv} (l : LvIs H0 H q xs lv) (h2 : H t = some (.tup [.ref sa, .ref ra])) (h3 : H sa = some (.tup (gsV x.1))) (h4 : H ra = some (.lst ms)) (h5 : MvsNew H0 H ms x.2) (h6 : ra ≠ q) :
    LvIs H0 H q (xs ++ [.ref t]) (lv ++ [x]) := by
  refine ⟨by simp [l.1], fun i y hy => ?_⟩
  by_cases c : i < lv.length
  · rw [List.getElem?_append_left c] at hy
    obtain ⟨t', sa', ra', ms', k1, k2⟩ := l.2 i y hy
    exact ⟨t', sa', ra', ms', by rw [List.getElem?_append_left (by rw [l.1]; exact c)]; exact k1, k2⟩
  · have : i = lv.length := by
      have := (List.getElem?_eq_some_iff.mp hy).1
      simp at this
      omega
    subst this
    simp at hy
    subst hy
    exact ⟨t, sa, ra, ms, by rw [← l.1]; simp, h2, h3, h4, h5, h6⟩
end
def spFirst (K : PySem.W.Frag) (C : Addr) : Sp := fun vs H Q _ => ∃ (p : Addr) (least : Int) (noises : Bool) (g : GP), vs = [.ref p, .int least, .bl noises] ∧ GameAt K C H p g ∧ g.Ok ∧
  ∀ r, gBfs g least noises 1000000 [(gFirst g, [])] [gFirst g] = some r → (r = none → ∀ H', Same H H' → Q .non H') ∧
    ∀ row, r = some row → ∀ (l : Addr) (xs : List V) (H' : Hp), H l = none → Same H H' → H' l = some (.lst xs) → MvsNew H H' xs row → row.length ≤ 1000000 → Q (.ref l) H'
section
variable {P : Program} {w : World} {K : PySem.W.Frag} {mg : Str → Option Value} {base : Heap}
theorem sc_first : FnScope ["self", "least", "noises", "level", "met", "behind", "state", "row", "move", "other", "by", "noise"] ["self", "least", "noises"] (defScope (inClass (top 12) 3)) := ⟨rfl, rfl, rfl, by decide +kernel, rfl, by decide +kernel, by decide +kernel⟩
set_option maxHeartbeats 2000000 in
theorem ok_first {f C : Addr} {fd : FuncData} (F : Fun K "first_row" "Game.first_row" (inClass (top 12) 3) f fd) (gk : GameK K C) (n_abs : mg "abs" = none)
    (m_moves : Mtd P w K mg base 1 C "moves" ["self", "state"] (spMoves K C)) (m_behind : Mtd P w K mg base 1 C "behind" ["self", "state", "move"] (spBehind K C)) : FnOk P w K mg base CX0 2 f fd ["self", "least", "noises"] (spFirst K C) := by
  have sc := sc_first
  have cl := gk.cl
  refine F.ok sc (fun vs H Q E h => ?_) (fun cdv A outer s H vs Q E hr h => ?_)
  · obtain ⟨p, least, noises, g, rfl, _⟩ := h
    rfl
  · obtain ⟨p, least, noises, g, rfl, hg, gok, k⟩ := h
    obtain ⟨r, hr0⟩ := game_ends gok least noises
    obtain ⟨kN, kS⟩ := k r hr0
    obtain ⟨dx, fa, hp, hfa⟩ := id hg
    refine ⟨_, (pss_cons (ps_set (i := 3) sc.nd rfl (Or.inl rfl) (pe_lst (pa_cons (pe_tup (pa_cons (pe_fldK (K := K) rfl (pv 0)) (pa_cons (pe_lst pa_nil) pa_nil))) pa_nil)))
(pss_cons (ps_set (i := 4) sc.nd rfl (Or.inl rfl) (pe_metOne (room8 hr) (pe_fldK (K := K) rfl (pv 0)) pe_bl))
(pss_cons (ps_while PassesOwn.never (pt_cmpR (r := rNeD K) (op_neD hr.units) (pv 3) (pe_lst pa_nil) (nomark _))
(pss_cons (ps_set (i := 5) sc.nd rfl (Or.inl rfl) (pe_lst pa_nil))
(pss_cons (ps_for PassesOwn.never rfl (pi_list (pv 3)) (pg_tup rfl (pgs_cons (pg_name (i := 6) sc.nd rfl (Or.inl rfl)) (pgs_cons (pg_name (i := 7) sc.nd rfl (Or.inl rfl)) pgs_nil)))
(pss_one (ps_for PassesOwn.never rfl (pi_list (pe_mtd m_moves cl (hr.mono (by first | decide | omega)) (pv 0) (pa_cons (pv 6) pa_nil))) (pg_name (i := 8) sc.nd rfl (Or.inl rfl))
(pss_cons (ps_asg (pe_mtd m_behind cl (hr.mono (by first | decide | omega)) (pv 0) (pa_cons (pv 6) (pa_cons (pv 8) pa_nil))) (pg_tup rfl (pgs_cons (pg_name (i := 9) sc.nd rfl (Or.inl rfl)) (pgs_cons (pg_name (i := 10) sc.nd rfl (Or.inl rfl)) (pgs_cons (pg_name (i := 11) sc.nd rfl (Or.inl rfl)) pgs_nil)))))
(pss_cons (ps_if (pt_cut (PW.pt (pw_or (pt_cmpR op_ge (pe_callB call_abs (by rfl) n_abs (by decide +kernel) (pa_cons (pv 10) pa_nil)) (pv 1) (nomark _)) (pw_or1 (PW.pt (pw_and (pt_val (pv 2)) (pw_and1 (pt_val (pv 11)))))))))
(pss_one (ps_ret (pe_op op_cat (pv 7) (pe_lst (pa_cons (pv 8) pa_nil)))))
pss_nil)
(pss_one (ps_if (pt_cut (PW.pt (pw_and (pt_cmpR (r := rNotInM P w K) (op_notInM (room8 hr)) (pv 9) (pv 4) (by rfl)) (pw_and1 (pt_cmpR op_lt (pe_callB call_abs (by rfl) n_abs (by decide +kernel) (pa_cons (pe_ix (r := rIxT K) ix_tup (pv 9) pe_int (fun _ _ => rfl)) pa_nil)) pe_int (nomark _))))))
(pss_cons (ps_asg pe_bl (pg_sub (t := rSetM P w K) (pv 4) (pv 9) (set_met (room8 hr))))
(pss_one (ps_expr (pe_bm PySem.F.plainAttrs_list PySem.F.slot_list_append PySem.F.type_list_append mt_append (pv 5) (pa_cons (pe_tup (pa_cons (pv 9) (pa_cons (pe_op op_cat (pv 7) (pe_lst (pa_cons (pv 8) pa_nil))) pa_nil))) pa_nil)))))
pss_nil)))))))
(pss_one (ps_set (i := 3) sc.nd rfl (Or.inl rfl) (pv 5))))))
(pss_one (ps_ret pe_non))))), ?_⟩
    -- the first level
    refine ⟨_, rfl, p, C, dx, _, _, rfl, hp, gk.cl, gk.first, rfl, Nat.zero_le _, fun r0 hr0' => ⟨(by show 2 ≤ sizeLine; decide), fun t0 ht0 => ⟨(by show 1 ≤ sizeLine; decide), fun L0 hL0 => ?_⟩⟩⟩
    have s1 := same_new hr0' (o := .lst [])
    have s2 := same_new ht0 (o := .tup [.ref fa, .ref r0])
    have s3 := same_new hL0 (o := .lst [.ref t0])
    have sA := s1.trans (s2.trans s3)
    refine fun D0 hD0 => ?_
    have s4 := same_new hD0 (o := metO P w D0 [])
    have sB := sA.trans s4
    refine ⟨_, rfl, p, C, dx, _, _, rfl, sB _ _ hp, gk.cl, gk.first, rfl, fa, gsD (gFirst g), rfl, rfl, upd_same, .tup (SqT.of (sB _ _ hfa)) (dpa_gs _), hsh_gs _, depth_gs _, ?_⟩
    rw [upd_upd]
    have s5 := same_new hD0 (o := metO P w D0 [(keyOf (gsD (gFirst g)), fa)])
    have sC := sA.trans s5
    -- level by level
    refine ⟨fun n σ H' => ∃ (lv : LV GS Mv) (met : List GS) (kk : Nat) (L : Addr) (xs : List V) (mx : MX) (u5 u6 u7 u8 u9 u10 u11 : Option V), σ = [some (.ref p), some (.int least), some (.bl noises), some (.ref L), some (.ref D0), u5, u6, u7, u8, u9, u10, u11] ∧
      Same H H' ∧ gBfs g least noises n lv met = some r ∧ H' L = some (.lst xs) ∧ (∀ q, H' q = none → LvIs H H' q xs lv) ∧ MetIs P w H' D0 mx met ∧ (∀ s ∈ met, VS g s) ∧ met.Nodup ∧ (∀ x ∈ lv, VS g x.1 ∧ x.2.length = kk) ∧ kk + n ≤ 1000000, ⟨1000000, ?_⟩, ?_⟩
    · refine ⟨[(gFirst g, [])], [gFirst g], 0, L0, [.ref t0], [(keyOf (gsD (gFirst g)), fa)], none, none, none, none, none, none, none, rfl, sC, hr0, s5 _ _ upd_same, fun q hq => ?_, ⟨upd_same, rfl, fun x hx => ?_⟩, fun s hs => ?_, by simp, fun x hx => ?_, Nat.le_refl _⟩
      · refine ⟨rfl, fun i x hx => ?_⟩
        match i, hx with
        | 0, hx =>
          cases hx
          have hr5 := (s2.trans (s3.trans s5)) _ _ (upd_same (a := r0) (o := .lst []))
          exact ⟨t0, fa, r0, [], rfl, (s3.trans s5) _ _ upd_same, sC _ _ hfa, hr5, MvsNew.nil, ne_of_none hr5 hq⟩
      · rw [List.mem_singleton.mp hx]
        exact ⟨_, rfl, sC _ _ hfa⟩
      · rw [List.mem_singleton.mp hs]; exact vs_first gok
      · rw [List.mem_singleton.mp hx]; exact ⟨vs_first gok, rfl⟩
    · rintro n σ Hs ⟨lv, met, kk, L, xs, mx, u5, u6, u7, u8, u9, u10, u11, rfl, sH, hb, hL, hLv, hM, hV, hnd, hlv, hkk⟩
      refine ⟨_, rfl, Nat.zero_le _, fun e he => ?_⟩
      have se := same_new he (o := .lst [])
      refine ⟨_, _, .lst (SqL.of (se _ _ hL)) (dpa_same se (hLv e he).dpa), dp_nilL (SqL.of upd_same), shaped_lv lv, rfl, _, rfl, ?_⟩
      rw [eqv_nil]
      cases n with
      | zero => exact absurd hb (by intro z; cases z)
      | succ n =>
      cases lv with
      | nil =>
        have er : r = none := by
          have : some none = some r := hb
          injection this with this
          exact this.symm
        exact iteF (kN er _ (sH.trans se))
      | cons x0 lv0 =>
      generalize hlvE : x0 :: lv0 = lv at hb hLv hlv ⊢
      have hne : (lv.map lvD).isEmpty = false := by rw [← hlvE]; rfl
      rw [hne]
      have hbI : ∀ row, tryL (gMoves g) (gNext g) (gBad g least noises) gFar lv (met, []) = .inl row → r = some row := fun row e => by
        rw [← hlvE] at hb e
        unfold gBfs at hb
        rw [bfs_cons, e] at hb
        exact (Option.some.inj hb).symm
      have hbR : ∀ mb, tryL (gMoves g) (gNext g) (gBad g least noises) gFar lv (met, []) = .inr mb → gBfs g least noises n mb.2 mb.1 = some r := fun mb e => by
        rw [← hlvE] at hb e
        unfold gBfs at hb
        rw [bfs_cons, e] at hb
        exact hb
      refine iteT ⟨fun σ' H' => ∃ (lv : LV GS Mv) (met : List GS) (kk : Nat) (L : Addr) (xs : List V) (mx : MX) (u5 u6 u7 u8 u9 u10 u11 : Option V), σ' = [some (.ref p), some (.int least), some (.bl noises), some (.ref L), some (.ref D0), u5, u6, u7, u8, u9, u10, u11] ∧
        Same H H' ∧ gBfs g least noises n lv met = some r ∧ H' L = some (.lst xs) ∧ (∀ q, H' q = none → LvIs H H' q xs lv) ∧ MetIs P w H' D0 mx met ∧ (∀ s ∈ met, VS g s) ∧ met.Nodup ∧ (∀ x ∈ lv, VS g x.1 ∧ x.2.length = kk) ∧ kk + n ≤ 1000000, fun σ' H' h' => ⟨n, Nat.lt_succ_self _, h'⟩, ?_⟩
      generalize hT : tryL (gMoves g) (gNext g) (gBad g least noises) gFar lv (met, []) = T at hbI hbR
      -- what is behind
      refine ⟨Nat.zero_le _, fun q hq => ?_⟩
      have sq := same_new hq (o := .lst [])
      have seq := se.trans sq
      have hLv1 := (hLv q (se.free hq)).mono seq
      have hM1 := hM.mono seq
      have hL1 := seq _ _ hL
      have sH1 := sH.trans seq
      have hq1 : (upd (upd Hs e (.lst [])) q (.lst [])) q = some (.lst []) := upd_same
      have nqL : L ≠ q := ne_of_none (se _ _ hL) hq
      have qfree : H q = none := (sH.trans se).free hq
      revert hLv1 hM1 hL1 sH1 hq1
      generalize upd (upd Hs e (.lst [])) q (.lst []) = H1
      intro hLv1 hM1 hL1 sH1 hq1
      have nDq : D0 ≠ q := fun z => by have := hM1.1; rw [z, hq1] at this; cases this
      have nLD : L ≠ D0 := fun z => by have := hM1.1; rw [← z, hL1] at this; cases this
      have D0free : H D0 = none := sA.free hD0
      have lenMet : ∀ {mt : List GS}, (∀ s ∈ mt, VS g s) → mt.Nodup → mt.length ≤ 423360 := fun {mt} h1 h2 => Nat.le_trans (len_le_of_sub h2 fun s hs => (mem_some gok).mpr (h1 s hs)) (some_len g)
      refine ⟨_, rfl, L, rfl, ⟨xs, SqL.of hL1⟩, for_it (walk_list (xs := xs)) (fun i σ H' => ∃ (mb : List GS × LV GS Mv) (mx : MX) (ys : List V) (u6 u7 u8 u9 u10 u11 : Option V), σ = [some (.ref p), some (.int least), some (.bl noises), some (.ref L), some (.ref D0), some (.ref q), u6, u7, u8, u9, u10, u11] ∧
        Same H H' ∧ Frm [q, D0] H1 H' ∧ tryL (gMoves g) (gNext g) (gBad g least noises) gFar (lv.drop i) mb = T ∧ MetIs P w H' D0 mx mb.1 ∧ H' q = some (.lst ys) ∧ LvIs H H' q ys mb.2 ∧ (∀ s ∈ mb.1, VS g s) ∧ mb.1.Nodup ∧ (∀ x ∈ mb.2, VS g x.1 ∧ x.2.length = kk + 1) ∧ mb.2.length ≤ mb.1.length)
        ?_ ?_ ?_ ?_⟩
      · exact ⟨(met, []), mx, [], u6, u7, u8, u9, u10, u11, rfl, sH1, Frm.refl, hT, hM1, hq1, ⟨rfl, by simp⟩, hV, hnd, by simp, Nat.zero_le _⟩
      · rintro i σ H' _ ⟨mb, mx', ys, v6, v7, v8, v9, v10, v11, rfl, sH', fr', _⟩
        exact SqL.of (fr' _ _ (by simp [nqL, nLD]) hL1)
      · rintro i x σ H2 H3 hi ⟨mb, mx', ys, v6, v7, v8, v9, v10, v11, rfl, sH2, fr2, hTi, hM2, hq2, hB2, hV2, hnd2, hlv2, hle2⟩ ⟨rfl, hx⟩
        have hil : i < lv.length := by rw [← (hLv1).1]; exact hi
        obtain ⟨t, sa, ra, ms, h1, h2, h3, h4, h5, h6⟩ := (hLv1.frm fr2 hq1 hM1.1).2 i lv[i] (List.getElem?_eq_getElem hil)
        rw [h1] at hx
        cases hx
        have hdrop : lv.drop i = lv[i] :: lv.drop (i + 1) := List.drop_eq_getElem_cons hil
        obtain ⟨hVx, hkx⟩ := hlv lv[i] (List.getElem_mem hil)
        revert h3 h5 hVx hkx hdrop
        generalize lv[i] = X
        obtain ⟨s0, row⟩ := X
        intro h3 h5 hdrop hVx hkx
        dsimp only at h3 h5 hVx hkx
        refine ⟨t, _, rfl, SqT.of h2, rfl, _, _, rfl, _, _, rfl, rfl, ?_⟩
        have hg2 := hg.same sH2
        obtain ⟨dx2, fa2, hp2, _⟩ := id hg2
        -- its moves
        refine ⟨_, rfl, p, dx2, _, rfl, hp2, rfl, _, rfl, p, .ref sa, g, s0, rfl, hg2, .tup (SqT.of h3) (dpa_gs s0), fun l zs H4 hl s4 hl4 hZ => ?_⟩
        have nlq : l ≠ q := (ne_of_none hq2 hl).symm
        have nlD : l ≠ D0 := (ne_of_none hM2.1 hl).symm
        have hTm : (match tryMs (gNext g) (gBad g least noises) gFar s0 row ((gMoves g s0).drop 0) mb with | .inl y => Sum.inl y | .inr mb' => tryL (gMoves g) (gNext g) (gBad g least noises) gFar (lv.drop (i + 1)) mb') = T := by
          rw [hdrop] at hTi
          rw [← hTi, tryL, List.drop_zero]
          dsimp only
          cases tryMs (gNext g) (gBad g least noises) gFar s0 row (gMoves g s0) mb <;> rfl
        refine ⟨l, rfl, ⟨zs, SqL.of hl4⟩, for_it (walk_list (xs := zs)) (fun j σ H' => ∃ (mb : List GS × LV GS Mv) (mx : MX) (ys : List V) (u8 u9 u10 u11 : Option V), σ = [some (.ref p), some (.int least), some (.bl noises), some (.ref L), some (.ref D0), some (.ref q), some (.ref sa), some (.ref ra), u8, u9, u10, u11] ∧
          Same H H' ∧ Frm [q, D0] H4 H' ∧ (match tryMs (gNext g) (gBad g least noises) gFar s0 row ((gMoves g s0).drop j) mb with | .inl y => Sum.inl y | .inr mb' => tryL (gMoves g) (gNext g) (gBad g least noises) gFar (lv.drop (i + 1)) mb') = T ∧
          MetIs P w H' D0 mx mb.1 ∧ H' q = some (.lst ys) ∧ LvIs H H' q ys mb.2 ∧ (∀ s ∈ mb.1, VS g s) ∧ mb.1.Nodup ∧ (∀ x ∈ mb.2, VS g x.1 ∧ x.2.length = kk + 1) ∧ mb.2.length ≤ mb.1.length)
          ?_ ?_ ?_ ?_⟩
        · exact ⟨mb, mx', ys, v8, v9, v10, v11, rfl, sH2.trans s4, Frm.refl, hTm, hM2.mono s4, s4 _ _ hq2, hB2.mono s4, hV2, hnd2, hlv2, hle2⟩
        · rintro j σ H' _ ⟨mb, mx', ys, w8, w9, w10, w11, rfl, sH', fr', _⟩
          exact SqL.of (fr' _ _ (by simp [nlq, nlD]) hl4)
        · rintro j x σ H5 H6 hj ⟨mb, mx', ys, w8, w9, w10, w11, rfl, sH5, fr5, hTj, hM5, hq5, hB5, hV5, hnd5, hlv5, hle5⟩ ⟨rfl, hx⟩
          have hjl : j < (gMoves g s0).length := by rw [← hZ.1]; exact hj
          obtain ⟨mt, k1, k2, k3⟩ := hZ.2 j (gMoves g s0)[j] (List.getElem?_eq_getElem hjl)
          rw [k1] at hx
          cases hx
          have hmd : (gMoves g s0).drop j = (gMoves g s0)[j] :: (gMoves g s0).drop (j + 1) := List.drop_eq_getElem_cons hjl
          have hmm : (gMoves g s0)[j] ∈ gMoves g s0 := List.getElem_mem hjl
          revert k3 hmd hmm
          generalize (gMoves g s0)[j] = m
          intro k3 hmd hmm
          rw [hmd] at hTj
          have mtH : H mt = none := sH2.free k2
          have qD4 : H4 q = some (.lst _) := s4 _ _ hq2
          have mD4 := s4 _ _ hM2.1
          have k5 : H6 mt = some (.tup [.int m.1, .bl m.2]) := tup_keep fr5 qD4 mD4 k3
          have h35 : H6 sa = some (.tup (gsV s0)) := tup_keep fr5 qD4 mD4 (s4 _ _ h3)
          have h45 : H6 ra = some (.lst ms) := fr5 _ _ (by
            intro hm
            simp only [List.mem_cons, List.not_mem_nil, or_false] at hm
            rcases hm with e | e
            · exact h6 e
            · rw [e, hM2.1] at h4; cases h4) (s4 _ _ h4)
          have h55 : MvsNew H H6 ms row := ⟨h5.1, fun j m hm => by
            obtain ⟨u, a, b, c⟩ := h5.2 j m hm
            exact ⟨u, a, b, tup_keep fr5 qD4 mD4 (s4 _ _ c)⟩⟩
          have hml : ms.length = kk := by rw [h5.1, hkx]
          have hg5 := hg.same sH5
          obtain ⟨dx5, fa5, hp5, _⟩ := id hg5
          refine ⟨_, rfl, p, dx5, _, rfl, hp5, rfl, _, rfl, _, rfl, p, .ref sa, .ref mt, g, s0, m, rfl, hg5, gok, .tup (SqT.of h35) (dpa_gs s0), .tup (SqT.of k5) (dpa_ib _ _), fun tt o H7 htt ho s7 htt7 ho7 => ?_⟩
          refine ⟨tt, _, rfl, SqT.of htt7, rfl, _, _, rfl, _, _, rfl, _, _, rfl, rfl, ?_⟩
          have sH7 := sH5.trans s7
          have fr7 : Frm [q, D0] H4 H7 := fr5.trans (Frm.of_same s7)
          have hM7 := hM5.mono s7
          have hq7 := s7 _ _ hq5
          have hB7 := hB5.mono s7
          have hra7 := s7 _ _ h45
          have hms7 := h55.mono s7
          have hmt7 := s7 _ _ k5
          have oD : Dp K H7 (.ref o) (gsD (gNext g s0 m)) := .tup (SqT.of ho7) (dpa_gs _)
          have hkk' : kk ≤ 1000000 := by omega
          -- a fault
          refine ⟨fun b H' => b = gBad g least noises s0 m ∧ H' = H7, ?_, ?_⟩
          · unfold gBad
            refine ⟨_, rfl, _, rfl, _, rfl, _, _, rfl, rfl, _, rfl, ?_⟩
            by_cases c1 : least ≤ absI (gBy g s0 m)
            · rw [decide_eq_true c1, Bool.true_or]
              exact iteDT c1 ⟨rfl, rfl⟩
            · rw [decide_eq_false c1, Bool.false_or]
              refine iteDF c1 ⟨_, rfl, _, rfl, iteB (fun e => ?_) (fun e => ?_)⟩
              · rw [e, Bool.true_and]; exact ⟨_, rfl, _, rfl, rfl, rfl⟩
              · rw [e, Bool.false_and]; exact ⟨rfl, rfl⟩
          rintro b H8 ⟨rfl, rfl⟩
          refine iteB (fun hbad => ?_) (fun hbad => ?_)
          · refine ⟨_, rfl, _, rfl, (by show 1 ≤ sizeLine; decide), fun e1 he1 => ?_⟩
            have se1 := same_new he1 (o := .lst [.ref mt])
            refine ⟨ra, e1, ms, _, rfl, rfl, se1 _ _ hra7, upd_same, Nat.le_of_lt (small6 (by show ms.length + 1 ≤ 2000000; omega)), fun l1 hl1 => ?_⟩
            have sl1 := same_new hl1 (o := .lst (ms ++ [.ref mt]))
            have eT : T = .inl (row ++ [m]) := by
              rw [← hTj]
              unfold tryMs tryM
              rw [if_pos hbad]
            refine kS _ (hbI _ eT) l1 _ _ ((sH7.trans se1).free hl1) ((sH7.trans se1).trans sl1) upd_same (MvsNew.snoc (hms7.mono (se1.trans sl1)) mtH ((se1.trans sl1) _ _ hmt7)) ?_
            rw [List.length_append, List.length_singleton, hkx]; omega
          -- met already
          have eTj : (match tryM (gNext g) (gBad g least noises) gFar s0 row mb m with | .inl x => Sum.inl x | .inr mb' => (match tryMs (gNext g) (gBad g least noises) gFar s0 row ((gMoves g s0).drop (j + 1)) mb' with | .inl y => Sum.inl y | .inr mb' => tryL (gMoves g) (gNext g) (gBad g least noises) gFar (lv.drop (i + 1)) mb')) = T := by
            rw [← hTj, tryMs]
            cases tryM (gNext g) (gBad g least noises) gFar s0 row mb m <;> rfl
          unfold tryM at eTj
          rw [if_neg (by rw [hbad]; decide)] at eTj
          refine ⟨fun b H' => b = decide (gNext g s0 m ∉ mb.1 ∧ gFar (gNext g s0 m) = true) ∧ H' = H8, ?_, ?_⟩
          · refine ⟨_, rfl, _, rfl, D0, o, mx', gsD (gNext g s0 m), rfl, rfl, hM7.at, oD, hsh_gs _, depth_gs _, _, rfl, ?_⟩
            by_cases c1 : gNext g s0 m ∈ mb.1
            · rw [decide_eq_true ((hM7.mem _).mpr c1)]
              exact iteF ⟨(decide_eq_false (fun h => h.1 c1)).symm, rfl⟩
            · rw [decide_eq_false (fun h => c1 ((hM7.mem _).mp h))]
              refine iteT ⟨_, rfl, o, _, _, _, rfl, rfl, SqT.of ho7, at_of (j := 3) rfl rfl, _, rfl, _, _, rfl, rfl, _, rfl, ?_, rfl⟩
              show decide (absI (gNext g s0 m).kept < 8) = _
              by_cases c2 : absI (gNext g s0 m).kept < 8
              · rw [decide_eq_true c2, decide_eq_true ⟨c1, decide_eq_true c2⟩]
              · rw [decide_eq_false c2, decide_eq_false (fun h => c2 (of_decide_eq_true h.2))]
          rintro b H9 ⟨rfl, rfl⟩
          refine iteD (fun hc => ?_) (fun hc => ?_)
          · rw [if_pos hc] at eTj
            dsimp only at eTj
            have hVn : VS g (gNext g s0 m) := vs_next gok hVx hmm hc.2
            have hl1 := lenMet hV5 hnd5
            refine ⟨_, rfl, _, rfl, D0, o, mx', gsD (gNext g s0 m), rfl, rfl, rfl, hM7.at, oD, hsh_gs _, depth_gs _, fun h => hc.1 ((hM7.mem _).mp h), small6 (by rw [hM7.length]; omega), ?_⟩
            have fD : Frm [q, D0] H9 (upd H9 D0 (metO P w D0 (mx' ++ [(keyOf (gsD (gNext g s0 m)), o)]))) := Frm.set (by simp)
            have sH10 : Same H (upd H9 D0 (metO P w D0 (mx' ++ [(keyOf (gsD (gNext g s0 m)), o)]))) := same_put D0free sH7
            have hB10 := hB7.frm fD hq7 hM7.1
            have hq10 : (upd H9 D0 (metO P w D0 (mx' ++ [(keyOf (gsD (gNext g s0 m)), o)]))) q = some (.lst ys) := by rw [upd_ne nDq.symm]; exact hq7
            have tk : ∀ {b : Addr} {ys : List V}, H9 b = some (.tup ys) → (upd H9 D0 (metO P w D0 (mx' ++ [(keyOf (gsD (gNext g s0 m)), o)]))) b = some (.tup ys) := fun {b ys} h => tup_keep fD hq7 hM7.1 h
            have ho10 := tk ho7
            have hmt10 := tk hmt7
            have hra10 : (upd H9 D0 (metO P w D0 (mx' ++ [(keyOf (gsD (gNext g s0 m)), o)]))) ra = some (.lst ms) := by
              rw [upd_ne (fun z => by rw [z, hM7.1] at hra7; cases hra7)]; exact hra7
            have hms10 : MvsNew H (upd H9 D0 (metO P w D0 (mx' ++ [(keyOf (gsD (gNext g s0 m)), o)]))) ms row := ⟨hms7.1, fun j m hm => by
              obtain ⟨u, a, b, c⟩ := hms7.2 j m hm
              exact ⟨u, a, b, tk c⟩⟩
            have hM10 : MetIs P w (upd H9 D0 (metO P w D0 (mx' ++ [(keyOf (gsD (gNext g s0 m)), o)]))) D0 (mx' ++ [(keyOf (gsD (gNext g s0 m)), o)]) (mb.1 ++ [gNext g s0 m]) := by
              refine ⟨upd_same, by rw [List.map_append, hM7.2.1, List.map_append]; rfl, fun x hx => ?_⟩
              rcases List.mem_append.mp hx with h | h
              · obtain ⟨s, e1, e2⟩ := hM7.2.2 x h
                exact ⟨s, e1, tk e2⟩
              · rw [List.mem_singleton.mp h]
                exact ⟨_, rfl, ho10⟩
            have fr10 : Frm [q, D0] H4 (upd H9 D0 (metO P w D0 (mx' ++ [(keyOf (gsD (gNext g s0 m)), o)]))) := fr7.trans fD
            revert sH10 hB10 hq10 ho10 hmt10 hra10 hms10 hM10 fr10
            generalize upd H9 D0 (metO P w D0 (mx' ++ [(keyOf (gsD (gNext g s0 m)), o)])) = H10
            intro sH10 hB10 hq10 ho10 hmt10 hra10 hms10 hM10 fr10
            -- behind.append
            refine ⟨_, rfl, .inl ⟨rfl, _, SqL.of hq10⟩, _, rfl, _, rfl, _, rfl, (by show 1 ≤ sizeLine; decide), fun e1 he1 => ?_⟩
            have se1 := same_new he1 (o := .lst [.ref mt])
            refine ⟨ra, e1, ms, _, rfl, rfl, se1 _ _ hra10, upd_same, Nat.le_of_lt (small6 (by show ms.length + 1 ≤ 2000000; omega)), fun l1 hl1' => ?_⟩
            have sl1 := same_new hl1' (o := .lst (ms ++ [.ref mt]))
            refine ⟨(by show 2 ≤ sizeLine; decide), fun tp htp => ?_⟩
            have stp := same_new htp (o := .tup [.ref o, .ref l1])
            have sZ := se1.trans (sl1.trans stp)
            have hqZ := sZ _ _ hq10
            have hyl : ys.length ≤ 423360 := by rw [hB10.1]; omega
            refine ⟨q, ys, _, rfl, rfl, hqZ, small6 (by omega), ?_⟩
            have nl1 : l1 ≠ q := (ne_of_none (se1 _ _ hq10) hl1').symm
            have fQ : Frm [q, D0] (upd (upd (upd H10 e1 (.lst [.ref mt])) l1 (.lst (ms ++ [.ref mt]))) tp (.tup [.ref o, .ref l1])) (upd (upd (upd (upd H10 e1 (.lst [.ref mt])) l1 (.lst (ms ++ [.ref mt]))) tp (.tup [.ref o, .ref l1])) q (.lst (ys ++ [.ref tp]))) := Frm.set (by simp)
            have hMZ := hM10.mono sZ
            have hBZ := (hB10.mono sZ).snoc (x := (gNext g s0 m, row ++ [m])) (t := tp) (sa := o) (ra := l1) (ms := ms ++ [.ref mt]) upd_same (sZ _ _ ho10) (stp _ _ upd_same) (MvsNew.snoc (hms10.mono sZ) mtH (sZ _ _ hmt10)) nl1
            have tz : ∀ {b : Addr} {zs : List V}, (upd (upd (upd H10 e1 (.lst [.ref mt])) l1 (.lst (ms ++ [.ref mt]))) tp (.tup [.ref o, .ref l1])) b = some (.tup zs) → (upd (upd (upd (upd H10 e1 (.lst [.ref mt])) l1 (.lst (ms ++ [.ref mt]))) tp (.tup [.ref o, .ref l1])) q (.lst (ys ++ [.ref tp]))) b = some (.tup zs) := fun {b zs} h => tup_keep fQ hqZ hMZ.1 h
            refine ⟨(mb.1 ++ [gNext g s0 m], mb.2 ++ [(gNext g s0 m, row ++ [m])]), mx' ++ [(keyOf (gsD (gNext g s0 m)), o)], ys ++ [.ref tp], _, _, _, _, rfl, same_put qfree (sH10.trans sZ), fr10.trans ((Frm.of_same sZ).trans fQ), eTj, ?_, upd_same, hBZ.frm fQ hqZ hMZ.1, ?_, ?_, ?_, ?_⟩
            · exact ⟨by rw [upd_ne nDq]; exact hMZ.1, hMZ.2.1, fun x hx => let ⟨s, a, b⟩ := hMZ.2.2 x hx; ⟨s, a, tz b⟩⟩
            · intro s hs
              rcases List.mem_append.mp hs with h | h
              · exact hV5 s h
              · rw [List.mem_singleton.mp h]; exact hVn
            · refine List.nodup_append.mpr ⟨hnd5, by simp, fun a ha b hb e => ?_⟩
              rw [List.mem_singleton.mp hb] at e
              exact hc.1 (e ▸ ha)
            · intro x hx
              rcases List.mem_append.mp hx with h | h
              · exact hlv5 x h
              · rw [List.mem_singleton.mp h]; exact ⟨hVn, by simp [hkx]⟩
            · show (mb.2 ++ [_]).length ≤ (mb.1 ++ [_]).length
              simp; exact hle5
          · rw [if_neg hc] at eTj
            exact ⟨mb, mx', ys, _, _, _, _, rfl, sH7, fr7, eTj, hM7, hq7, hB7, hV5, hnd5, hlv5, hle5⟩
        · rintro σ H5 ⟨mb, mx', ys, w8, w9, w10, w11, rfl, sH5, fr5, hTj, hM5, hq5, hB5, hV5, hnd5, hlv5, hle5⟩
          rw [hZ.1, List.drop_length] at hTj
          refine ⟨mb, mx', ys, _, _, _, _, _, _, rfl, sH5, fr2.trans ((Frm.of_same s4).trans fr5), hTj, hM5, hq5, hB5, hV5, hnd5, hlv5, hle5⟩
      · rintro σ H2 ⟨mb, mx', ys, v6, v7, v8, v9, v10, v11, rfl, sH2, fr2, hTi, hM2, hq2, hB2, hV2, hnd2, hlv2, hle2⟩
        rw [hLv1.1, List.drop_length] at hTi
        have hmb : T = .inr mb := hTi.symm
        refine ⟨_, rfl, mb.2, mb.1, kk + 1, q, ys, mx', _, _, _, _, _, _, _, rfl, sH2, hbR mb hmb, hq2, fun q' hq' => ?_, hM2, hV2, hnd2, hlv2, by omega⟩
        refine ⟨hB2.1, fun i x hx => ?_⟩
        obtain ⟨t, sa, ra, ms, h1, h2, h3, h4, h5, h6⟩ := hB2.2 i x hx
        exact ⟨t, sa, ra, ms, h1, h2, h3, h4, h5, ne_of_none h4 hq'⟩
end
/-! ### what the game tells -/
def gOf (a b c d : Int) : GP := ⟨a, b, c, d⟩
/-- a tuple of a word and a new row -/
def WordRow (H H' : Hp) (p : Addr) (x : Str) (row : List Mv) : Prop := ∃ l xs, H l = none ∧ H' p = some (.tup [.str x, .ref l]) ∧ H' l = some (.lst xs) ∧ MvsNew H H' xs row ∧ row.length ≤ 1000000
def gRes (g : GP) (least : Int) (noises : Bool) (r : Option (List Mv)) : Prop := gBfs g least noises 1000000 [(gFirst g, [])] [gFirst g] = some r
theorem MvsNew.up {H0 H H' : Hp} {xs : List V} {row : List Mv} (h : MvsNew H H' xs row) (e : Same H0 H) : MvsNew H0 H' xs row := ⟨h.1, fun i m q => let ⟨t, a, b, c⟩ := h.2 i m q; ⟨t, a, e.free b, c⟩⟩
/-- what is told is a fault, and none is shorter; none where there is none -/
theorem res_spec {g : GP} {least : Int} {noises : Bool} {r : Option (List Mv)} (h : gRes g least noises r) :
    (∀ row, r = some row → gFault g least noises row ∧ ∀ row', gFault g least noises row' → row.length ≤ row'.length) ∧ (r = none → ∀ row', ¬ gFault g least noises row') :=
  bfs_spec (gone_start (by simp)) h
theorem mem_move {g : GP} {s : GS} {t : Int} {m : Mv} : m ∈ gMove g s t ↔ m.1 = t ∧ (t = 0 ∨ g.gap ≤ s.since) ∧ (m.2 = true → s.phase = 0 ∧ gAge s t < g.bounce ∧ (t ≠ 0 ∨ s.last ≠ 0)) := by
  obtain ⟨a, b⟩ := m
  unfold gMove
  constructor
  · intro h
    split at h
    · rename_i c
      rcases List.mem_cons.mp h with e | h
      · cases e; exact ⟨rfl, c, fun z => by cases z⟩
      · split at h
        · rename_i c2
          cases List.mem_singleton.mp h
          exact ⟨rfl, c, fun _ => c2⟩
        · cases h
    · cases h
  · rintro ⟨rfl, h2, h3⟩
    dsimp only at h2 h3 ⊢
    rw [if_pos h2]
    cases b with
    | false => exact List.mem_cons_self ..
    | true => rw [if_pos (h3 rfl)]; exact List.mem_cons_of_mem _ (List.mem_cons_self ..)
theorem mem_moves {g : GP} {s : GS} {m : Mv} : m ∈ gMoves g s ↔ (m.1 = 0 ∨ m.1 = -1 ∨ m.1 = 1) ∧ (m.1 = 0 ∨ g.gap ≤ s.since) ∧ (m.2 = true → s.phase = 0 ∧ gAge s m.1 < g.bounce ∧ (m.1 ≠ 0 ∨ s.last ≠ 0)) := by
  unfold gMoves
  rw [List.mem_append, List.mem_append, mem_move, mem_move, mem_move]
  constructor
  · rintro ((⟨e, h⟩ | ⟨e, h⟩) | ⟨e, h⟩)
    · exact ⟨.inl e, by rw [e]; exact h⟩
    · exact ⟨.inr (.inl e), by rw [e]; exact h⟩
    · exact ⟨.inr (.inr e), by rw [e]; exact h⟩
  · rintro ⟨e | e | e, h⟩
    · exact .inl (.inl ⟨e, by rw [e] at h; exact h⟩)
    · exact .inl (.inr ⟨e, by rw [e] at h; exact h⟩)
    · exact .inr ⟨e, by rw [e] at h; exact h⟩
/-! ### judged -/
def spJudged (K : PySem.W.Frag) : Sp := fun vs H Q _ => ∃ (v u : V) (g : GP), vs = [v, u] ∧ Dp K H v (knD g.gap g.bounce) ∧ Dp K H u (knD g.apart g.same) ∧ g.Ok ∧ ∀ r3 r2, gRes g 3 false r3 → gRes g 2 false r2 →
  ∀ (p : Addr) (H' : Hp), H p = none → Same H H' → (∀ row, r3 = some row → WordRow H H' p "wrong" row) → (r3 = none → ∀ row, r2 = some row → WordRow H H' p "missed" row) → (r3 = none → r2 = none → H' p = some (.tup [.str "right"])) → Q (.ref p) H'
section
variable {P : Program} {w : World} {K : PySem.W.Frag} {mg : Str → Option Value} {base : Heap}
theorem sc_judged : FnScope ["knob", "reader", "game", "row"] ["knob", "reader"] (defScope (top 13)) := ⟨rfl, rfl, rfl, by decide +kernel, rfl, by decide +kernel, by decide +kernel⟩
set_option maxHeartbeats 1000000 in
theorem ok_judged {f C : Addr} {fd : FuncData} {t1 : Tok} (F : Fun K "judged" "judged" (top 13) f fd) (gk : GameK K C) (g_MISSED : mg "MISSED" = some (.int 2 t1)) (c_need_knob : Cal P w K mg base 1 "need_knob" ["knob"] (spNeedKnob K)) (c_need_reader : Cal P w K mg base 1 "need_reader" ["reader"] (spNeedReader K))
    (m_Game : Mkr P w K mg base 1 C "Game" ["self", "knob", "reader"] (spGInit K C)) (m_first_row : Mtd P w K mg base 2 C "first_row" ["self", "least", "noises"] (spFirst K C)) : FnOk P w K mg base CX0 3 f fd ["knob", "reader"] (spJudged K) := by
  have sc := sc_judged
  have cl := gk.cl
  refine F.ok sc (fun vs H Q E h => ?_) (fun cdv A outer s H vs Q E hr h => ?_)
  · obtain ⟨v, u, g, rfl, _⟩ := h
    rfl
  · obtain ⟨v, u, g, rfl, hv, hu, gok, k⟩ := h
    obtain ⟨r3, h3⟩ := game_ends gok 3 false
    obtain ⟨r2, h2⟩ := game_ends gok 2 false
    have k := k r3 r2 h3 h2
    refine ⟨_, (pss_cons (ps_expr (pe_cal c_need_knob (hr.mono (by first | decide | omega)) (pa_cons (pv 0) pa_nil)))
(pss_cons (ps_expr (pe_cal c_need_reader (hr.mono (by first | decide | omega)) (pa_cons (pv 1) pa_nil)))
(pss_cons (ps_set (i := 2) sc.nd rfl (Or.inl rfl) (pe_mkr m_Game (hr.mono (by first | decide | omega)) (pa_cons (pv 0) (pa_cons (pv 1) pa_nil))))
(pss_cons (ps_set (i := 3) sc.nd rfl (Or.inl rfl) (pe_mtd m_first_row cl (hr.mono (by first | decide | omega)) (pv 2) (pa_cons (pe_op op_add (pe_glob (v := .int 2) rfl g_MISSED ⟨_, rfl⟩) pe_int) (pa_cons pe_bl pa_nil))))
(pss_cons (ps_if (pt_cmpR op_notN (pv 3) pe_non (nomark _))
(pss_one (ps_ret (pe_tup (pa_cons pe_str (pa_cons (pv 3) pa_nil)))))
pss_nil)
(pss_cons (ps_set (i := 3) sc.nd rfl (Or.inl rfl) (pe_mtd m_first_row cl (hr.mono (by first | decide | omega)) (pv 2) (pa_cons (pe_glob (v := .int 2) rfl g_MISSED ⟨_, rfl⟩) (pa_cons pe_bl pa_nil))))
(pss_one (ps_ret (pe_ifExp (pt_cmpR op_isN (pv 3) pe_non (nomark _)) (pe_tup (pa_cons pe_str pa_nil)) (pe_tup (pa_cons pe_str (pa_cons (pv 3) pa_nil)))))))))))), ?_⟩
    refine ⟨_, rfl, v, g.gap, g.bounce, rfl, hv, gok.g1, gok.g6, gok.b0, gok.b1, ?_⟩
    refine ⟨_, rfl, u, g.apart, g.same, rfl, hu, gok.a1, gok.a6, gok.s1, gok.s3, ?_⟩
    refine ⟨_, rfl, _, rfl, fun x dx hx hdx ne => ?_⟩
    have sA : Same H (upd (upd H dx (.own x)) x (.ins C dx [])) := (same_new hdx).trans (same_new (by rw [upd_ne ne.symm]; exact hx))
    have sF : Same H (Fz [x] (upd (upd H dx (.own x)) x (.ins C dx []))) := same_fz (by simpa using hx) sA
    refine ⟨x, dx, v, u, g, rfl, upd_same, dp_same sF hv, dp_same sF hu, fun H1 fr1 hg1 => ⟨rfl, ?_⟩⟩
    have s1 : Same H H1 := fun b o e => fr1 b o (by simpa using ne_of_none e hx) (sA b o e)
    obtain ⟨dx1, fa1, hp1, _⟩ := id hg1
    refine ⟨_, rfl, x, dx1, _, rfl, hp1, rfl, _, _, rfl, rfl, x, 3, false, g, rfl, hg1, gok, fun r hr3 => ?_⟩
    have er : r = r3 := Option.some.inj (hr3.symm.trans h3)
    subst er
    refine ⟨fun er H2 s2 => ?_, fun row er l xs H2 hl s2 hl2 hX hlen => ?_⟩
    · refine ⟨_, rfl, rfl, _, rfl, iteF ?_⟩
      have hg2 := hg1.same s2
      obtain ⟨dx2, fa2, hp2, _⟩ := id hg2
      refine ⟨_, rfl, x, dx2, _, rfl, hp2, rfl, x, 2, false, g, rfl, hg2, gok, fun r' hr2 => ?_⟩
      have er2 : r' = r2 := Option.some.inj (hr2.symm.trans h2)
      subst er2
      refine ⟨fun er' H3 s3 => ?_, fun row er' l xs H3 hl s3 hl3 hX hlen => ?_⟩
      · refine ⟨_, rfl, rfl, _, rfl, iteT ⟨(by show 1 ≤ sizeLine; decide), fun p hp => ?_⟩⟩
        have sZ := s1.trans (s2.trans s3)
        exact k p _ (sZ.free hp) (sZ.trans (same_new hp)) (fun row e => by rw [er] at e; cases e) (fun _ row e => by rw [er'] at e; cases e) (fun _ _ => upd_same)
      · refine ⟨_, rfl, rfl, _, rfl, iteF ⟨_, rfl, (by show 2 ≤ sizeLine; decide), fun p hp => ?_⟩⟩
        have sZ := s1.trans (s2.trans s3)
        have sp := same_new hp (o := .tup [.str "missed", .ref l])
        refine k p _ (sZ.free hp) (sZ.trans sp) (fun row e => by rw [er] at e; cases e) (fun _ row' e => ?_) (fun _ e => by rw [er'] at e; cases e)
        rw [er'] at e
        cases e
        exact ⟨l, xs, (s1.trans s2).free hl, upd_same, sp _ _ hl3, (hX.mono sp).up (s1.trans s2), hlen⟩
    · refine ⟨_, rfl, rfl, _, rfl, iteT ⟨_, rfl, (by show 2 ≤ sizeLine; decide), fun p hp => ?_⟩⟩
      have sZ := s1.trans s2
      have sp := same_new hp (o := .tup [.str "wrong", .ref l])
      refine k p _ (sZ.free hp) (sZ.trans sp) (fun row' e => ?_) (fun e => by rw [er] at e; cases e) (fun e => by rw [er] at e; cases e)
      rw [er] at e
      cases e
      exact ⟨l, xs, s1.free hl, upd_same, sp _ _ hl2, (hX.mono sp).up s1, hlen⟩
end
/-! ### readers that believe one look -/
def remL (g : GP) (s : GS) : Int := if s.phase = 0 then 1 else g.apart - s.phase + 1
/-- what a moment leaves, where one look is enough -/
theorem one_step {g : GP} (o : g.Ok) (h1 : g.same = 1) {s : GS} (v : VS g s) {m : Mv} (hm : m ∈ gMoves g s) :
    ∃ k1 l1 i1 : Int, (m.1 = 0 ∧ k1 = s.kept ∧ l1 = s.last ∧ i1 = s.since ∨ m.1 ≠ 0 ∧ k1 = s.kept - m.1 ∧ l1 = m.1 ∧ i1 = 0 ∧ g.gap ≤ s.since) ∧ (l1 = -1 ∨ l1 = 0 ∨ l1 = 1) ∧
      (gNext g s m).last = l1 ∧ (gNext g s m).since = min (i1 + 1) g.gap ∧
      ((s.phase = 0 ∧ remL g (gNext g s m) = g.apart ∧ ((gNext g s m).kept = 0 ∧ gBy g s m = 0 - k1 ∨ (gNext g s m).kept = 0 - l1 ∧ gBy g s m = 0 - l1 - k1 ∧ i1 < g.bounce)) ∨
        (s.phase ≠ 0 ∧ remL g (gNext g s m) = remL g s - 1 ∧ (gNext g s m).kept = k1 ∧ gBy g s m = 0)) := by
  have hmv := mem_moves.mp hm
  have := o.a1
  have p0 := v.p0
  have p1 := v.p1
  have hp : (gNext g s m).phase = if s.phase + 1 = g.apart then 0 else s.phase + 1 := by
    show (s.phase + 1) % g.apart = _
    split
    · rename_i e; rw [e]; exact Int.emod_self
    · exact Int.emod_eq_of_lt (by omega) (by omega)
  have t1 : (gTurn s m.1).since = (if m.1 = 0 then s.since else 0) := by unfold gTurn; split <;> rfl
  have t2 : (gTurn s m.1).last = (if m.1 = 0 then s.last else m.1) := by unfold gTurn; split <;> rfl
  have t3 : (gTurn s m.1).kept = (if m.1 = 0 then s.kept else s.kept - m.1) := by unfold gTurn; split <;> rfl
  have t4 : (gTurn s m.1).many = s.many := by unfold gTurn; split <;> rfl
  have w1 : (gSaw g s m).1.since = (gTurn s m.1).since := by unfold gSaw gLook; split <;> (try split) <;> rfl
  have w2 : (gSaw g s m).1.last = (gTurn s m.1).last := by unfold gSaw gLook; split <;> (try split) <;> rfl
  have hmany : ∀ z, gMany g (gTurn s m.1) z = g.same := fun z => by
    unfold gMany
    rw [t4, h1]
    have := v.n0
    split
    · omega
    · rfl
  refine ⟨(gTurn s m.1).kept, (gTurn s m.1).last, (gTurn s m.1).since, ?_, ?_, w2, ?_, ?_⟩
  · rw [t1, t2, t3]
    by_cases c : m.1 = 0
    · exact .inl ⟨c, if_pos c, if_pos c, if_pos c⟩
    · exact .inr ⟨c, if_neg c, if_neg c, if_neg c, hmv.2.1.resolve_left c⟩
  · rw [t2]; have := v.l; have := hmv.1; split <;> omega
  · show min ((gSaw g s m).1.since + 1) g.gap = _
    rw [w1]
  · by_cases c : s.phase = 0
    · refine .inl ⟨c, ?_, ?_⟩
      · unfold remL
        rw [hp, c]
        split <;> (try split) <;> omega
      · have eS : gSaw g s m = ({ gTurn s m.1 with met := some (gSeen (gTurn s m.1) m.2), many := gMany g (gTurn s m.1) (gSeen (gTurn s m.1) m.2), kept := gSeen (gTurn s m.1) m.2 }, gSeen (gTurn s m.1) m.2 - (gTurn s m.1).kept) := by
          unfold gSaw gLook
          rw [if_pos c, if_pos (hmany _)]
        have ek : (gNext g s m).kept = gSeen (gTurn s m.1) m.2 := by
          show (gSaw g s m).1.kept = _
          rw [eS]
        have eb : gBy g s m = gSeen (gTurn s m.1) m.2 - (gTurn s m.1).kept := by unfold gBy; rw [eS]
        rw [ek, eb]
        unfold gSeen
        by_cases co : m.2 = true
        · rw [if_pos co]
          refine .inr ⟨rfl, rfl, ?_⟩
          have := (hmv.2.2 co).2.1
          unfold gAge at this
          rw [t1]; exact this
        · rw [if_neg co]
          exact .inl ⟨rfl, rfl⟩
    · refine .inr ⟨c, ?_, ?_, ?_⟩
      · unfold remL
        rw [hp, if_neg c]
        split <;> (try split) <;> omega
      · show (gSaw g s m).1.kept = _
        unfold gSaw
        rw [if_neg c]
      · unfold gBy gSaw
        rw [if_neg c]
def J2 (g : GP) (s : GS) : Prop := s.kept = 0 ∨ (s.kept = 0 - s.last ∧ s.since + remL g s ≤ g.gap)
def J3 (g : GP) (s : GS) : Prop := s.kept = 0 ∨ ((s.kept = 1 ∨ s.kept = -1) ∧ s.since + remL g s ≤ 2 * g.gap) ∨ (s.kept = 0 - 2 * s.last ∧ (s.kept = 2 ∨ s.kept = -2) ∧ s.since + remL g s ≤ g.gap)
theorem rem_pos {g : GP} {s : GS} (v : VS g s) : 1 ≤ remL g s ∧ remL g s ≤ g.apart := by
  have := v.p0; have := v.p1
  unfold remL
  split <;> omega
theorem j2_step {g : GP} (o : g.Ok) (h1 : g.same = 1) (hA : g.apart ≤ g.gap - g.bounce) {s : GS} (v : VS g s) (j : J2 g s) {m : Mv} (hm : m ∈ gMoves g s) : J2 g (gNext g s m) ∧ absI (gBy g s m) < 2 := by
  obtain ⟨k1, l1, i1, hc, hl, e1, e2, h⟩ := one_step o h1 v hm
  have hr := rem_pos v
  have ht := (mem_moves.mp hm).1
  have := o.b0
  have hvl := v.l
  unfold J2 at j ⊢
  unfold absI
  rw [e1, e2]
  rcases h with ⟨hp, r1, ⟨q1, q2⟩ | ⟨q1, q2, q3⟩⟩ | ⟨hp, r1, q1, q2⟩ <;> rw [q1, q2, r1] <;> rcases hc with ⟨a, b, c, d⟩ | ⟨a, b, c, d, e⟩
  all_goals (refine ⟨?_, ?_⟩ <;> (try split) <;> omega)
theorem j3_step {g : GP} (o : g.Ok) (h1 : g.same = 1) (hA : g.apart ≤ 2 * g.gap - g.bounce) {s : GS} (v : VS g s) (j : J3 g s) {m : Mv} (hm : m ∈ gMoves g s) : J3 g (gNext g s m) ∧ absI (gBy g s m) < 3 := by
  obtain ⟨k1, l1, i1, hc, hl, e1, e2, h⟩ := one_step o h1 v hm
  have hr := rem_pos v
  have ht := (mem_moves.mp hm).1
  have := o.b0
  have hvl := v.l
  unfold J3 at j ⊢
  unfold absI
  rw [e1, e2]
  rcases h with ⟨hp, r1, ⟨q1, q2⟩ | ⟨q1, q2, q3⟩⟩ | ⟨hp, r1, q1, q2⟩ <;> rw [q1, q2, r1] <;> rcases hc with ⟨a, b, c, d⟩ | ⟨a, b, c, d, e⟩
  all_goals (refine ⟨?_, ?_⟩ <;> (try split) <;> omega)
theorem vs_clean {g : GP} (o : g.Ok) {least : Int} {noises : Bool} {row : List Mv} {s : GS} (h : gClean g least noises (gFirst g) row s) : VS g s := by
  induction h with
  | nil => exact vs_first o
  | snoc _ hm _ hf ih => exact vs_next o ih hm hf
theorem none2 {g : GP} (o : g.Ok) (h1 : g.same = 1) (hA : g.apart ≤ g.gap - g.bounce) (row : List Mv) : ¬ gFault g 2 false row := by
  rintro ⟨pre, m, s, rfl, hc, hm, hb⟩
  have j : J2 g s := by
    clear hm hb
    induction hc with
    | nil => exact .inl rfl
    | snoc h hm _ _ ih => exact (j2_step o h1 hA (vs_clean o h) ih hm).1
  have := (j2_step o h1 hA (vs_clean o hc) j hm).2
  unfold gBad at hb
  simp at hb
  omega
theorem none3 {g : GP} (o : g.Ok) (h1 : g.same = 1) (hA : g.apart ≤ 2 * g.gap - g.bounce) (row : List Mv) : ¬ gFault g 3 false row := by
  rintro ⟨pre, m, s, rfl, hc, hm, hb⟩
  have j : J3 g s := by
    clear hm hb
    induction hc with
    | nil => exact .inl rfl
    | snoc h hm _ _ ih => exact (j3_step o h1 hA (vs_clean o h) ih hm).1
  have := (j3_step o h1 hA (vs_clean o hc) j hm).2
  unfold gBad at hb
  simp at hb
  omega
/-! faults that are written down -/
def runF (g : GP) (least : Int) (noises : Bool) : GS → List Mv → Bool
  | _, [] => false
  | s, [m] => decide (m ∈ gMoves g s) && gBad g least noises s m
  | s, m :: m' :: r => decide (m ∈ gMoves g s) && !gBad g least noises s m && gFar (gNext g s m) && runF g least noises (gNext g s m) (m' :: r)
theorem run_fault {g : GP} {least : Int} {noises : Bool} : ∀ {row pre : List Mv} {s : GS}, gClean g least noises (gFirst g) pre s → runF g least noises s row = true → gFault g least noises (pre ++ row)
  | [], _, _, _, e => by cases e
  | [m], pre, s, hc, e => by
    simp only [runF, Bool.and_eq_true, decide_eq_true_eq] at e
    exact ⟨pre, m, s, rfl, hc, e.1, e.2⟩
  | m :: m' :: r, pre, s, hc, e => by
    simp only [runF, Bool.and_eq_true, decide_eq_true_eq, Bool.not_eq_true'] at e
    have := run_fault (hc.snoc e.1.1.1 e.1.1.2 e.1.2) e.2
    rw [List.append_assoc] at this
    exact this
def wL (bounce apart : Nat) : Nat := ((bounce - 1 + apart - 1) / apart) * apart
def wRow (gap bounce apart n : Nat) : List Mv := (List.range (wL bounce apart + apart + 1)).map fun i =>
  (if i + bounce = wL bounce apart + 1 ∨ i + bounce = wL bounce apart + 1 + gap ∨ (n = 3 ∧ i + bounce = wL bounce apart + 1 + 2 * gap) then 1 else 0, decide (i = wL bounce apart ∧ 1 ≤ bounce))
def gN (gap bounce apart same : Nat) : GP := ⟨gap, bounce, apart, same⟩
theorem rows2 : ((List.range 7).all fun gap => (List.range 7).all fun b => (List.range 7).all fun a => (decide (gap = 0) || decide (a = 0) || decide (gap < b) || decide (a + b ≤ gap) || runF (gN gap b a 1) 2 false (gFirst (gN gap b a 1)) (wRow gap b a 2))) = true := by decide +kernel
theorem rows3 : ((List.range 7).all fun gap => (List.range 7).all fun b => (List.range 7).all fun a => (decide (gap = 0) || decide (a = 0) || decide (gap < b) || decide (a + b ≤ 2 * gap) || runF (gN gap b a 1) 3 false (gFirst (gN gap b a 1)) (wRow gap b a 3))) = true := by decide +kernel
theorem all7 {f : Nat → Bool} (h : (List.range 7).all f = true) {n : Nat} (hn : n < 7) : f n = true := List.all_eq_true.mp h n (List.mem_range.mpr hn)
theorem some2 {g : GP} (o : g.Ok) (h1 : g.same = 1) (hA : ¬ g.apart ≤ g.gap - g.bounce) : ∃ row, gFault g 2 false row := by
  obtain ⟨g1, b1, a1, s1⟩ := g
  obtain ⟨gg, g6, b0, bb, aa, a6, _, _⟩ := o
  dsimp only at *
  obtain ⟨gn, rfl⟩ := Int.eq_ofNat_of_zero_le (show 0 ≤ g1 by omega)
  obtain ⟨bn, rfl⟩ := Int.eq_ofNat_of_zero_le b0
  obtain ⟨an, rfl⟩ := Int.eq_ofNat_of_zero_le (show 0 ≤ a1 by omega)
  subst h1
  have := all7 (all7 (all7 rows2 (n := gn) (by omega)) (n := bn) (by omega)) (n := an) (by omega)
  simp only [Bool.or_eq_true, decide_eq_true_eq] at this
  rcases this with (((h | h) | h) | h) | h
  · omega
  · omega
  · omega
  · omega
  · exact ⟨_, run_fault (pre := []) .nil h⟩
theorem some3 {g : GP} (o : g.Ok) (h1 : g.same = 1) (hA : ¬ g.apart ≤ 2 * g.gap - g.bounce) : ∃ row, gFault g 3 false row := by
  obtain ⟨g1, b1, a1, s1⟩ := g
  obtain ⟨gg, g6, b0, bb, aa, a6, _, _⟩ := o
  dsimp only at *
  obtain ⟨gn, rfl⟩ := Int.eq_ofNat_of_zero_le (show 0 ≤ g1 by omega)
  obtain ⟨bn, rfl⟩ := Int.eq_ofNat_of_zero_le b0
  obtain ⟨an, rfl⟩ := Int.eq_ofNat_of_zero_le (show 0 ≤ a1 by omega)
  subst h1
  have := all7 (all7 (all7 rows3 (n := gn) (by omega)) (n := bn) (by omega)) (n := an) (by omega)
  simp only [Bool.or_eq_true, decide_eq_true_eq] at this
  rcases this with (((h | h) | h) | h) | h
  · omega
  · omega
  · omega
  · omega
  · exact ⟨_, run_fault (pre := []) .nil h⟩
/-! ### what judged tells -/
def wd (i : Nat) : Str := if i = 0 then "right" else if i = 1 then "missed" else "wrong"
/-- what judged tells, by its word's place -/
structure JIs (H' : Hp) (p : Addr) (r3 r2 : Option (List Mv)) (i : Nat) (rest : List V) : Prop where
  le : i ≤ 2
  tup : H' p = some (.tup (.str (wd i) :: rest))
  one : i = 0 → r3 = none ∧ r2 = none
  two : i = 1 → r3 = none ∧ ∃ l xs row, rest = [.ref l] ∧ r2 = some row ∧ H' l = some (.lst xs) ∧ xs.length = row.length
  three : i = 2 → ∃ l xs row, rest = [.ref l] ∧ r3 = some row ∧ H' l = some (.lst xs) ∧ xs.length = row.length
theorem j_is {H H' : Hp} {p : Addr} {r3 r2 : Option (List Mv)} (w1 : ∀ row, r3 = some row → WordRow H H' p "wrong" row) (w2 : r3 = none → ∀ row, r2 = some row → WordRow H H' p "missed" row) (w3 : r3 = none → r2 = none → H' p = some (.tup [.str "right"])) : ∃ i rest, JIs H' p r3 r2 i rest := by
  cases e3 : r3 with
  | some row =>
    obtain ⟨l, xs, h1, h2, h3, h4, h5⟩ := w1 row e3
    exact ⟨2, _, by decide, h2, (fun z => by cases z), (fun z => by cases z), fun _ => ⟨l, xs, row, rfl, rfl, h3, h4.1⟩⟩
  | none =>
    cases e2 : r2 with
    | some row =>
      obtain ⟨l, xs, h1, h2, h3, h4, h5⟩ := w2 e3 row e2
      exact ⟨1, _, by decide, h2, (fun z => by cases z), fun _ => ⟨rfl, l, xs, row, rfl, rfl, h3, h4.1⟩, (fun z => by cases z)⟩
    | none => exact ⟨0, _, by decide, w3 e3 e2, fun _ => ⟨rfl, rfl⟩, (fun z => by cases z), (fun z => by cases z)⟩
theorem JIs.mono {H H' : Hp} {p : Addr} {r3 r2 : Option (List Mv)} {i : Nat} {rest : List V} (j : JIs H p r3 r2 i rest) (e : Same H H') : JIs H' p r3 r2 i rest :=
  ⟨j.le, e _ _ j.tup, j.one, fun z => let ⟨a, l, xs, row, b, c, d, f⟩ := j.two z; ⟨a, l, xs, row, b, c, e _ _ d, f⟩, fun z => let ⟨l, xs, row, b, c, d, f⟩ := j.three z; ⟨l, xs, row, b, c, e _ _ d, f⟩⟩
theorem wd_ix (i : Nat) (h : i ≤ 2) : ([V.str "right", V.str "missed", V.str "wrong"] : List V)[i]? = some (.str (wd i)) ∧ ∀ (m : Nat) (z' : V), m < i → ([V.str "right", V.str "missed", V.str "wrong"] : List V)[m]? = some z' → eqV z' (.str (wd i)) = false := by
  match i, h with
  | 0, _ => exact ⟨rfl, fun m z' h => by omega⟩
  | 1, _ =>
    refine ⟨rfl, fun m z' hm hz => ?_⟩
    have : m = 0 := by omega
    subst this
    cases hz
    decide
  | 2, _ =>
    refine ⟨rfl, fun m z' hm hz => ?_⟩
    have : m = 0 ∨ m = 1 := by omega
    rcases this with rfl | rfl <;> cases hz <;> decide
theorem wd_inj {i j : Nat} (hi : i ≤ 2) (hj : j ≤ 2) (h : wd i = wd j) : i = j := by
  have hi' : i = 0 ∨ i = 1 ∨ i = 2 := by omega
  have hj' : j = 0 ∨ j = 1 ∨ j = 2 := by omega
  rcases hi' with rfl | rfl | rfl <;> rcases hj' with rfl | rfl | rfl <;> first | rfl | exact absurd h (by decide)
/-! ### the law -/
def spLaw (K : PySem.W.Frag) : Sp := fun vs H Q _ => ∃ (a : Addr) (ns : List Int), vs = [.ref a] ∧ SqL K H a (ns.map V.int) ∧ ns.length ≤ 63 ∧ ∀ H', Q (.bl true) H'
theorem wd_ok (i : Nat) : PyData.strOk (wd i) = true := by
  unfold wd
  split
  · decide +kernel
  · split <;> decide +kernel
section
variable {P : Program} {w : World} {K : PySem.W.Frag} {mg : Str → Option Value} {base : Heap}
theorem sc_law : FnScope ["_law_script", "_law_d", "_law_gap", "_law_bounce", "_law_apart", "_law_word", "_law_due"] ["_law_script"] (defScope (top 19)) := ⟨rfl, rfl, rfl, by decide +kernel, rfl, by decide +kernel, by decide +kernel⟩
set_option maxHeartbeats 2000000 in
theorem ok_law {f : Addr} {fd : FuncData} (F : Fun K "law" "law" (top 19) f fd) (n_range : mg "range" = none)
    (c__law_dice : Cal P w K mg base 1 "_law_dice" ["_law_script", "_law_k"] (spDice K)) (c__law_knob : Cal P w K mg base 2 "_law_knob" ["_law_d"] spKnob) (c__law_alike : Cal P w K mg base 2 "_law_alike" ["_law_found", "_law_due"] (spAlike K 1)) (c_judged : Cal P w K mg base 3 "judged" ["knob", "reader"] (spJudged K)) : FnOk P w K mg base CX0 4 f fd ["_law_script"] (spLaw K) := by
  have sc := sc_law
  refine F.ok sc (fun vs H Q E h => ?_) (fun cdv A outer s H vs Q E hr h => ?_)
  · obtain ⟨a, ns, rfl, _⟩ := h
    rfl
  · obtain ⟨sa, ns, rfl, hS, hlen, k⟩ := h
    refine ⟨_, (pss_cons (ps_set (i := 1) sc.nd rfl (Or.inl rfl) (pe_cal c__law_dice (hr.mono (by first | decide | omega)) (pa_cons (pv 0) (pa_cons pe_int pa_nil))))
(pss_cons (ps_asg (pe_cal c__law_knob (hr.mono (by first | decide | omega)) (pa_cons (pv 1) pa_nil)) (pg_tup rfl (pgs_cons (pg_name (i := 2) sc.nd rfl (Or.inl rfl)) (pgs_cons (pg_name (i := 3) sc.nd rfl (Or.inl rfl)) pgs_nil))))
(pss_cons (ps_for PassesOwn.never rfl (pi_range2 rfl n_range (pa_cons pe_int (pa_cons pe_int pa_nil))) (pg_name (i := 4) sc.nd rfl (Or.inl rfl))
(pss_cons (ps_set (i := 5) sc.nd rfl (Or.inl rfl) (pe_ix (r := rIxT K) ix_tup (pe_cal c_judged (hr.mono (by first | decide | omega)) (pa_cons (pe_tup (pa_cons (pv 2) (pa_cons (pv 3) pa_nil))) (pa_cons (pe_tup (pa_cons (pv 4) (pa_cons pe_int pa_nil))) pa_nil))) pe_int (fun _ _ => rfl)))
(pss_cons (ps_set (i := 6) sc.nd rfl (Or.inl rfl) pe_str)
(C8.pss_cut (ps_if (pt_cmpR op_le (pv 4) (pe_op op_sub (pe_op op_mul pe_int (pv 2)) (pv 3)) (nomark _))
(pss_one (ps_set (i := 6) sc.nd rfl (Or.inl rfl) pe_str))
pss_nil)
(C8.pss_cut (ps_if (pt_cmpR op_le (pv 4) (pe_op op_sub (pv 2) (pv 3)) (nomark _))
(pss_one (ps_set (i := 6) sc.nd rfl (Or.inl rfl) pe_str))
pss_nil)
(pss_one (ps_if (pt_not (pt_val (pe_cal c__law_alike (hr.mono (by first | decide | omega)) (pa_cons (pv 5) (pa_cons (pv 6) pa_nil)))))
(pss_one (ps_ret pe_bl))
pss_nil)))))))
(pss_one (ps_ret pe_bl))))), ?_⟩
    refine ⟨_, rfl, sa, ns, rfl, hS, hlen, fun d ms H1 hd0 s1 hd1 hD1 => ?_⟩
    refine ⟨_, rfl, d, ms, rfl, hd1, hD1, fun g b ms2 kn g1 g6 b0 b1 hD2 hkn => ?_⟩
    refine ⟨kn, _, rfl, SqT.of upd_same, rfl, _, _, rfl, _, _, rfl, rfl, ?_⟩
    refine ⟨1, 7, rfl, ⟨by decide, by decide, by decide, by decide⟩, for_range (lo := 1) (n := ((7 : Int) - 1).toNat) (fun i σ H' => ∃ (u4 u5 u6 : Option V), σ = [some (.ref sa), some (.ref d), some (.int g), some (.int b), u4, u5, u6]) ?_ ?_ ?_⟩
    · exact ⟨_, _, _, rfl⟩
    · rintro i σ H2 hi ⟨u4, u5, u6, rfl⟩
      have hi : i < 6 := hi
      refine ⟨_, rfl, _, rfl, (by show 2 ≤ sizeLine; decide), fun t1 ht1 => ?_⟩
      have s1 := same_new ht1 (o := .tup [.int g, .int b])
      refine ⟨_, rfl, (by show 2 ≤ sizeLine; decide), fun t2 ht2 => ?_⟩
      have s2 := same_new ht2 (o := .tup [.int (1 + (i : Int)), .int 1])
      let G : GP := ⟨g, b, 1 + (i : Int), 1⟩
      have gok : G.Ok := ⟨g1, g6, b0, b1, by show (1 : Int) ≤ 1 + i; omega, by show (1 : Int) + i ≤ 6; omega, by show (1 : Int) ≤ 1; omega, by show (1 : Int) ≤ 3; omega⟩
      refine ⟨.ref t1, .ref t2, G, rfl, .tup (SqT.of (s2 _ _ upd_same)) (dpa_ii _ _), .tup (SqT.of upd_same) (dpa_ii _ _), gok, fun r3 r2 h3 h2 p H3 hp s3 w1 w2 w3 => ?_⟩
      obtain ⟨j, rest, jj⟩ := j_is w1 w2 w3
      refine ⟨p, _, _, .str (wd j), rfl, rfl, SqT.of jj.tup, at_of (j := 0) rfl rfl, ?_⟩
      refine ⟨fun σ H' => H' = H3 ∧ σ = [some (.ref sa), some (.ref d), some (.int g), some (.int b), some (.int (1 + (i : Int))), some (.str (wd j)), some (.str (wd (if 1 + (i : Int) ≤ 2 * g - b then 1 else 2)))], ?_, ?_⟩
      · refine ⟨_, rfl, _, rfl, _, _, rfl, rfl, .inl ⟨by decide, by decide⟩, _, rfl, _, _, rfl, rfl, _, _, rfl, rfl, _, rfl, ?_⟩
        refine iteD (fun c => ?_) (fun c => ?_)
        · refine ⟨rfl, ?_⟩
          rw [if_pos c]; rfl
        · refine ⟨rfl, ?_⟩
          rw [if_neg c]; rfl
      rintro σ H4 ⟨rfl, rfl⟩
      refine ⟨fun σ H' => H' = H4 ∧ σ = [some (.ref sa), some (.ref d), some (.int g), some (.int b), some (.int (1 + (i : Int))), some (.str (wd j)), some (.str (wd (if 1 + (i : Int) ≤ g - b then 0 else if 1 + (i : Int) ≤ 2 * g - b then 1 else 2)))], ?_, ?_⟩
      · refine ⟨_, rfl, _, rfl, _, rfl, _, _, rfl, rfl, _, _, rfl, rfl, _, rfl, ?_⟩
        refine iteD (fun c => ?_) (fun c => ?_)
        · refine ⟨rfl, ?_⟩
          rw [if_pos c]; rfl
        · refine ⟨rfl, ?_⟩
          rw [if_neg c]
      rintro σ H5 ⟨rfl, rfl⟩
      have ej : j = (if 1 + (i : Int) ≤ g - b then 0 else if 1 + (i : Int) ≤ 2 * g - b then 1 else 2) := by
        have hj : j = 0 ∨ j = 1 ∨ j = 2 := by have := jj.le; omega
        have n3 : r3 = none ↔ 1 + (i : Int) ≤ 2 * g - b := by
          constructor
          · intro e
            refine Decidable.byContradiction fun c => ?_
            obtain ⟨row, hf⟩ := some3 gok rfl c
            exact (res_spec h3).2 e row hf
          · intro c
            cases e : r3 with
            | none => rfl
            | some row => exact absurd ((res_spec h3).1 row e).1 (none3 gok rfl c row)
        have n2 : r2 = none ↔ 1 + (i : Int) ≤ g - b := by
          constructor
          · intro e
            refine Decidable.byContradiction fun c => ?_
            obtain ⟨row, hf⟩ := some2 gok rfl c
            exact (res_spec h2).2 e row hf
          · intro c
            cases e : r2 with
            | none => rfl
            | some row => exact absurd ((res_spec h2).1 row e).1 (none2 gok rfl c row)
        rcases hj with e | e | e
        · have := jj.one e
          rw [if_pos (n2.mp this.2)]; exact e
        · obtain ⟨a, _, _, row, _, c, _⟩ := jj.two e
          rw [if_neg (fun z => by rw [n2.mpr z] at c; cases c), if_pos (n3.mp a)]; exact e
        · obtain ⟨_, _, row, _, c, _⟩ := jj.three e
          have nb : ¬ 1 + (i : Int) ≤ 2 * g - b := fun z => by rw [n3.mpr z] at c; cases c
          rw [if_neg (fun z => nb (by omega)), if_neg nb]; exact e
      rw [← ej]
      refine ⟨_, rfl, _, rfl, .str (wd j), .str (wd j), .str (wd j), rfl, .str _, .str _, wd_ok j, fun H6 s6 => ⟨_, rfl, iteF ?_⟩⟩
      exact ⟨_, _, _, rfl⟩
    · rintro σ H2 ⟨u4, u5, u6, rfl⟩
      exact k H2
end
theorem all_mk {l : PySem.W.OpenLaw} {w : World} {K : PySem.W.Frag} {h : Heap} {mg : Str → Option Value} {fa : Addr} (X : K.In h) (G : h.Ns mainGlobals mg) (hfa : mg "law" = some (.ref fa))
    {f1 : Addr} {od1 an1 : Option Addr} {sl1 : Array (Option Value)} {oc1 kV1 dc1 pm1 cd1 ct1 : Value}
    {f2 : Addr} {od2 an2 : Option Addr} {sl2 : Array (Option Value)} {oc2 kV2 dc2 pm2 cd2 ct2 : Value}
    {f3 : Addr} {od3 an3 : Option Addr} {sl3 : Array (Option Value)} {oc3 kV3 dc3 pm3 cd3 ct3 : Value}
    {f4 : Addr} {od4 an4 : Option Addr} {sl4 : Array (Option Value)} {oc4 kV4 dc4 pm4 cd4 ct4 : Value}
    {f5 : Addr} {od5 an5 : Option Addr} {sl5 : Array (Option Value)} {oc5 kV5 dc5 pm5 cd5 ct5 : Value}
    {f6 : Addr} {od6 an6 : Option Addr} {sl6 : Array (Option Value)} {oc6 kV6 dc6 pm6 cd6 ct6 : Value}
    {f7 : Addr} {od7 an7 : Option Addr} {sl7 : Array (Option Value)} {oc7 kV7 dc7 pm7 cd7 ct7 : Value}
    {f8 : Addr} {od8 an8 : Option Addr} {sl8 : Array (Option Value)} {oc8 kV8 dc8 pm8 cd8 ct8 : Value}
    {tg_MISSED : Tok}
    {tg_MOST_APART : Tok}
    {tg_MOST_GAP : Tok}
    {tg_MOST_SAME : Tok}
    {C_Game : Addr}
    {fGamexinitx : Addr} {odGamexinitx anGamexinitx : Option Addr} {slGamexinitx : Array (Option Value)} {ocGamexinitx kVGamexinitx dcGamexinitx pmGamexinitx cdGamexinitx ctGamexinitx : Value}
    {fGamemoves : Addr} {odGamemoves anGamemoves : Option Addr} {slGamemoves : Array (Option Value)} {ocGamemoves kVGamemoves dcGamemoves pmGamemoves cdGamemoves ctGamemoves : Value}
    {fGamebehind : Addr} {odGamebehind anGamebehind : Option Addr} {slGamebehind : Array (Option Value)} {ocGamebehind kVGamebehind dcGamebehind pmGamebehind cdGamebehind ctGamebehind : Value}
    {fGamefirst_row : Addr} {odGamefirst_row anGamefirst_row : Option Addr} {slGamefirst_row : Array (Option Value)} {ocGamefirst_row kVGamefirst_row dcGamefirst_row pmGamefirst_row cdGamefirst_row ctGamefirst_row : Value}
    (a1 : PySem.W.nsIn K mainGlobals "_law_dice" = some (some (.ref f1)))
    (l1 : K.lookup f1 = some ⟨oc1, od1, .func (PySem.W.fnOf "_law_dice" "_law_dice" (defArgs (top 15)) (defBody (top 15)) (defScope (top 15)) .none kV1 dc1 pm1 an1 cd1 ct1), sl1⟩)
    (c1 : PySem.W.codeIn K cd1 "_law_dice" = true)
    (k1 : PySem.W.keepIn K (.ref f1) = true)
    (a2 : PySem.W.nsIn K mainGlobals "_law_off" = some (some (.ref f2)))
    (l2 : K.lookup f2 = some ⟨oc2, od2, .func (PySem.W.fnOf "_law_off" "_law_off" (defArgs (top 16)) (defBody (top 16)) (defScope (top 16)) .none kV2 dc2 pm2 an2 cd2 ct2), sl2⟩)
    (c2 : PySem.W.codeIn K cd2 "_law_off" = true)
    (k2 : PySem.W.keepIn K (.ref f2) = true)
    (a3 : PySem.W.nsIn K mainGlobals "_law_knob" = some (some (.ref f3)))
    (l3 : K.lookup f3 = some ⟨oc3, od3, .func (PySem.W.fnOf "_law_knob" "_law_knob" (defArgs (top 18)) (defBody (top 18)) (defScope (top 18)) .none kV3 dc3 pm3 an3 cd3 ct3), sl3⟩)
    (c3 : PySem.W.codeIn K cd3 "_law_knob" = true)
    (k3 : PySem.W.keepIn K (.ref f3) = true)
    (a4 : PySem.W.nsIn K mainGlobals "need_knob" = some (some (.ref f4)))
    (l4 : K.lookup f4 = some ⟨oc4, od4, .func (PySem.W.fnOf "need_knob" "need_knob" (defArgs (top 8)) (defBody (top 8)) (defScope (top 8)) .none kV4 dc4 pm4 an4 cd4 ct4), sl4⟩)
    (c4 : PySem.W.codeIn K cd4 "need_knob" = true)
    (k4 : PySem.W.keepIn K (.ref f4) = true)
    (a5 : PySem.W.nsIn K mainGlobals "need_reader" = some (some (.ref f5)))
    (l5 : K.lookup f5 = some ⟨oc5, od5, .func (PySem.W.fnOf "need_reader" "need_reader" (defArgs (top 9)) (defBody (top 9)) (defScope (top 9)) .none kV5 dc5 pm5 an5 cd5 ct5), sl5⟩)
    (c5 : PySem.W.codeIn K cd5 "need_reader" = true)
    (k5 : PySem.W.keepIn K (.ref f5) = true)
    (a6 : PySem.W.nsIn K mainGlobals "judged" = some (some (.ref f6)))
    (l6 : K.lookup f6 = some ⟨oc6, od6, .func (PySem.W.fnOf "judged" "judged" (defArgs (top 13)) (defBody (top 13)) (defScope (top 13)) .none kV6 dc6 pm6 an6 cd6 ct6), sl6⟩)
    (c6 : PySem.W.codeIn K cd6 "judged" = true)
    (k6 : PySem.W.keepIn K (.ref f6) = true)
    (a7 : PySem.W.nsIn K mainGlobals "_law_alike" = some (some (.ref f7)))
    (l7 : K.lookup f7 = some ⟨oc7, od7, .func (PySem.W.fnOf "_law_alike" "_law_alike" (defArgs (top 17)) (defBody (top 17)) (defScope (top 17)) .none kV7 dc7 pm7 an7 cd7 ct7), sl7⟩)
    (c7 : PySem.W.codeIn K cd7 "_law_alike" = true)
    (k7 : PySem.W.keepIn K (.ref f7) = true)
    (a8 : PySem.W.nsIn K mainGlobals "law" = some (some (.ref f8)))
    (l8 : K.lookup f8 = some ⟨oc8, od8, .func (PySem.W.fnOf "law" "law" (defArgs (top 19)) (defBody (top 19)) (defScope (top 19)) .none kV8 dc8 pm8 an8 cd8 ct8), sl8⟩)
    (c8 : PySem.W.codeIn K cd8 "law" = true)
    (k8 : PySem.W.keepIn K (.ref f8) = true)
    (zg_MISSED : PySem.W.nsIn K mainGlobals "MISSED" = some (some (.int 2 tg_MISSED)))
    (zg_MOST_APART : PySem.W.nsIn K mainGlobals "MOST_APART" = some (some (.int 6 tg_MOST_APART)))
    (zg_MOST_GAP : PySem.W.nsIn K mainGlobals "MOST_GAP" = some (some (.int 6 tg_MOST_GAP)))
    (zg_MOST_SAME : PySem.W.nsIn K mainGlobals "MOST_SAME" = some (some (.int 3 tg_MOST_SAME)))
    (zn_abs : PySem.W.nsIn K mainGlobals "abs" = some none)
    (zn_all : PySem.W.nsIn K mainGlobals "all" = some none)
    (zn_bool : PySem.W.nsIn K mainGlobals "bool" = some none)
    (zn_int : PySem.W.nsIn K mainGlobals "int" = some none)
    (zn_isinstance : PySem.W.nsIn K mainGlobals "isinstance" = some none)
    (zn_len : PySem.W.nsIn K mainGlobals "len" = some none)
    (zn_list : PySem.W.nsIn K mainGlobals "list" = some none)
    (zn_min : PySem.W.nsIn K mainGlobals "min" = some none)
    (zn_range : PySem.W.nsIn K mainGlobals "range" = some none)
    (zn_str : PySem.W.nsIn K mainGlobals "str" = some none)
    (zn_tuple : PySem.W.nsIn K mainGlobals "tuple" = some none)
    (zCGame : PySem.W.nsIn K mainGlobals "Game" = some (some (.ref C_Game)))
    (pgGame : PySem.W.plainGet K C_Game Str.empty = true)
    (hdGame : PySem.W.hasDictIn K C_Game = true)
    (poGame : PySem.W.plainOver K C_Game = true)
    (saGame : PySem.W.findIn K (.ref C_Game) "__setattr__" = some (some (.builtin "object.__setattr__")))
    (mkGame : PySem.W.makesIn K C_Game = true)
    (kcGame : PySem.W.keepIn K (.ref C_Game) = true)
    (na_Game_gap : PySem.W.findIn K (.ref C_Game) "gap" = some none)
    (na_Game_bounce : PySem.W.findIn K (.ref C_Game) "bounce" = some none)
    (na_Game_apart : PySem.W.findIn K (.ref C_Game) "apart" = some none)
    (na_Game_same : PySem.W.findIn K (.ref C_Game) "same" = some none)
    (na_Game_first : PySem.W.findIn K (.ref C_Game) "first" = some none)
    (aGamexinitx : PySem.W.findIn K (.ref C_Game) "__init__" = some (some (.ref fGamexinitx)))
    (lGamexinitx : K.lookup fGamexinitx = some ⟨ocGamexinitx, odGamexinitx, .func (PySem.W.fnOf "__init__" "Game.__init__" (defArgs (inClass (top 12) 0)) (defBody (inClass (top 12) 0)) (defScope (inClass (top 12) 0)) .none kVGamexinitx dcGamexinitx pmGamexinitx anGamexinitx cdGamexinitx ctGamexinitx), slGamexinitx⟩)
    (cGamexinitx : PySem.W.codeIn K cdGamexinitx "Game.__init__" = true)
    (kGamexinitx : PySem.W.keepIn K (.ref fGamexinitx) = true)
    (iGamexinitx : PySem.W.isFn K (.ref fGamexinitx) = true)
    (aGamemoves : PySem.W.findIn K (.ref C_Game) "moves" = some (some (.ref fGamemoves)))
    (lGamemoves : K.lookup fGamemoves = some ⟨ocGamemoves, odGamemoves, .func (PySem.W.fnOf "moves" "Game.moves" (defArgs (inClass (top 12) 1)) (defBody (inClass (top 12) 1)) (defScope (inClass (top 12) 1)) .none kVGamemoves dcGamemoves pmGamemoves anGamemoves cdGamemoves ctGamemoves), slGamemoves⟩)
    (cGamemoves : PySem.W.codeIn K cdGamemoves "Game.moves" = true)
    (kGamemoves : PySem.W.keepIn K (.ref fGamemoves) = true)
    (iGamemoves : PySem.W.isFn K (.ref fGamemoves) = true)
    (aGamebehind : PySem.W.findIn K (.ref C_Game) "behind" = some (some (.ref fGamebehind)))
    (lGamebehind : K.lookup fGamebehind = some ⟨ocGamebehind, odGamebehind, .func (PySem.W.fnOf "behind" "Game.behind" (defArgs (inClass (top 12) 2)) (defBody (inClass (top 12) 2)) (defScope (inClass (top 12) 2)) .none kVGamebehind dcGamebehind pmGamebehind anGamebehind cdGamebehind ctGamebehind), slGamebehind⟩)
    (cGamebehind : PySem.W.codeIn K cdGamebehind "Game.behind" = true)
    (kGamebehind : PySem.W.keepIn K (.ref fGamebehind) = true)
    (iGamebehind : PySem.W.isFn K (.ref fGamebehind) = true)
    (aGamefirst_row : PySem.W.findIn K (.ref C_Game) "first_row" = some (some (.ref fGamefirst_row)))
    (lGamefirst_row : K.lookup fGamefirst_row = some ⟨ocGamefirst_row, odGamefirst_row, .func (PySem.W.fnOf "first_row" "Game.first_row" (defArgs (inClass (top 12) 3)) (defBody (inClass (top 12) 3)) (defScope (inClass (top 12) 3)) .none kVGamefirst_row dcGamefirst_row pmGamefirst_row anGamefirst_row cdGamefirst_row ctGamefirst_row), slGamefirst_row⟩)
    (cGamefirst_row : PySem.W.codeIn K cdGamefirst_row "Game.first_row" = true)
    (kGamefirst_row : PySem.W.keepIn K (.ref fGamefirst_row) = true)
    (iGamefirst_row : PySem.W.isFn K (.ref fGamefirst_row) = true)
    : ∃ fd : FuncData, (∀ (s : Shared) (v : Value), BindsTo s fd ⟨[v], []⟩ [("_law_script", v)]) ∧ ∀ base : Heap, K.In base → base.Ns mainGlobals mg → FnOk l.prog w K mg base CX0 4 fa fd ["_law_script"] (spLaw K) := by
  have e := hfa.symm.trans (PySem.W.mg_of X G a8)
  cases e
  have F1 := fun_mk (st := top 15) l1 c1 k1
  have b1 := F1.binds (ps := ["_law_script", "_law_k"]) fun _ _ _ _ _ _ us hl => match us, hl with | [_, _], _ => rfl
  have F2 := fun_mk (st := top 16) l2 c2 k2
  have b2 := F2.binds (ps := ["_law_d", "_law_most"]) fun _ _ _ _ _ _ us hl => match us, hl with | [_, _], _ => rfl
  have F3 := fun_mk (st := top 18) l3 c3 k3
  have b3 := F3.binds (ps := ["_law_d"]) fun _ _ _ _ _ _ us hl => match us, hl with | [_], _ => rfl
  have F4 := fun_mk (st := top 8) l4 c4 k4
  have b4 := F4.binds (ps := ["knob"]) fun _ _ _ _ _ _ us hl => match us, hl with | [_], _ => rfl
  have F5 := fun_mk (st := top 9) l5 c5 k5
  have b5 := F5.binds (ps := ["reader"]) fun _ _ _ _ _ _ us hl => match us, hl with | [_], _ => rfl
  have F6 := fun_mk (st := top 13) l6 c6 k6
  have b6 := F6.binds (ps := ["knob", "reader"]) fun _ _ _ _ _ _ us hl => match us, hl with | [_, _], _ => rfl
  have F7 := fun_mk (st := top 17) l7 c7 k7
  have b7 := F7.binds (ps := ["_law_found", "_law_due"]) fun _ _ _ _ _ _ us hl => match us, hl with | [_, _], _ => rfl
  have F8 := fun_mk (st := top 19) l8 c8 k8
  have b8 := F8.binds (ps := ["_law_script"]) fun _ _ _ _ _ _ us hl => match us, hl with | [_], _ => rfl
  have g_MISSED := PySem.W.mg_of X G zg_MISSED
  have g_MOST_APART := PySem.W.mg_of X G zg_MOST_APART
  have g_MOST_GAP := PySem.W.mg_of X G zg_MOST_GAP
  have g_MOST_SAME := PySem.W.mg_of X G zg_MOST_SAME
  have n_abs := PySem.W.mg_none_of X G zn_abs
  have n_all := PySem.W.mg_none_of X G zn_all
  have n_bool := PySem.W.mg_none_of X G zn_bool
  have n_int := PySem.W.mg_none_of X G zn_int
  have n_isinstance := PySem.W.mg_none_of X G zn_isinstance
  have n_len := PySem.W.mg_none_of X G zn_len
  have n_list := PySem.W.mg_none_of X G zn_list
  have n_min := PySem.W.mg_none_of X G zn_min
  have n_range := PySem.W.mg_none_of X G zn_range
  have n_str := PySem.W.mg_none_of X G zn_str
  have n_tuple := PySem.W.mg_none_of X G zn_tuple
  have cl_Game : Cls K C_Game := ⟨pgGame, hdGame, poGame, saGame⟩
  have gk : GameK K C_Game := ⟨cl_Game, na_Game_gap, na_Game_bounce, na_Game_apart, na_Game_same, na_Game_first⟩
  have FGamexinitx := fun_mk (st := inClass (top 12) 0) lGamexinitx cGamexinitx kGamexinitx
  have bGamexinitx := FGamexinitx.binds (ps := ["self", "knob", "reader"]) fun _ _ _ _ _ _ us hl => match us, hl with | [_, _, _], _ => rfl
  have FGamemoves := fun_mk (st := inClass (top 12) 1) lGamemoves cGamemoves kGamemoves
  have bGamemoves := FGamemoves.binds (ps := ["self", "state"]) fun _ _ _ _ _ _ us hl => match us, hl with | [_, _], _ => rfl
  have FGamebehind := fun_mk (st := inClass (top 12) 2) lGamebehind cGamebehind kGamebehind
  have bGamebehind := FGamebehind.binds (ps := ["self", "state", "move"]) fun _ _ _ _ _ _ us hl => match us, hl with | [_, _, _], _ => rfl
  have FGamefirst_row := fun_mk (st := inClass (top 12) 3) lGamefirst_row cGamefirst_row kGamefirst_row
  have bGamefirst_row := FGamefirst_row.binds (ps := ["self", "least", "noises"]) fun _ _ _ _ _ _ us hl => match us, hl with | [_, _, _], _ => rfl
  refine ⟨PySem.W.fnOf "law" "law" (defArgs (top 19)) (defBody (top 19)) (defScope (top 19)) .none kV8 dc8 pm8 an8 cd8 ct8, fun s v => .of_eq rfl, fun base _ _ => ?_⟩
  have c__law_alike : Cal l.prog w K mg base 1 "_law_alike" ["_law_found", "_law_due"] (spAlike K 0) := ⟨f7, _, ok_alike0 F7, PySem.W.mg_of X G a7, k7, b7⟩
  have c__law_alike : Cal l.prog w K mg base 2 "_law_alike" ["_law_found", "_law_due"] (spAlike K 1) := ⟨f7, _, ok_alikeS F7 c__law_alike n_isinstance n_bool n_int n_str n_tuple n_list n_len n_all n_range, PySem.W.mg_of X G a7, k7, b7⟩
  have c__law_dice : Cal l.prog w K mg base 1 "_law_dice" ["_law_script", "_law_k"] (spDice K) := ⟨f1, _, ok_dice F1 n_abs, PySem.W.mg_of X G a1, k1, b1⟩
  have c__law_off : Cal l.prog w K mg base 1 "_law_off" ["_law_d", "_law_most"] (spOff) := ⟨f2, _, ok_off F2 n_len, PySem.W.mg_of X G a2, k2, b2⟩
  have c__law_knob : Cal l.prog w K mg base 2 "_law_knob" ["_law_d"] (spKnob) := ⟨f3, _, ok_knob F3 c__law_off, PySem.W.mg_of X G a3, k3, b3⟩
  have c_need_knob : Cal l.prog w K mg base 1 "need_knob" ["knob"] (spNeedKnob K) := ⟨f4, _, ok_need_knob F4 g_MOST_GAP, PySem.W.mg_of X G a4, k4, b4⟩
  have c_need_reader : Cal l.prog w K mg base 1 "need_reader" ["reader"] (spNeedReader K) := ⟨f5, _, ok_need_reader F5 g_MOST_APART g_MOST_SAME, PySem.W.mg_of X G a5, k5, b5⟩
  have m_Game : Mkr l.prog w K mg base 1 C_Game "Game" ["self", "knob", "reader"] (spGInit K C_Game) := ⟨fGamexinitx, _, ok_ginit FGamexinitx gk, PySem.W.mg_of X G zCGame, ⟨mkGame, aGamexinitx, iGamexinitx, kcGame⟩, bGamexinitx⟩
  have m_moves : Mtd l.prog w K mg base 1 C_Game "moves" ["self", "state"] (spMoves K C_Game) := ⟨fGamemoves, _, ok_moves FGamemoves gk, ⟨aGamemoves, iGamemoves, kGamemoves⟩, bGamemoves⟩
  have m_behind : Mtd l.prog w K mg base 1 C_Game "behind" ["self", "state", "move"] (spBehind K C_Game) := ⟨fGamebehind, _, ok_behind FGamebehind gk n_min, ⟨aGamebehind, iGamebehind, kGamebehind⟩, bGamebehind⟩
  have m_first_row : Mtd l.prog w K mg base 2 C_Game "first_row" ["self", "least", "noises"] (spFirst K C_Game) := ⟨fGamefirst_row, _, ok_first FGamefirst_row gk n_abs m_moves m_behind, ⟨aGamefirst_row, iGamefirst_row, kGamefirst_row⟩, bGamefirst_row⟩
  have c_judged : Cal l.prog w K mg base 3 "judged" ["knob", "reader"] (spJudged K) := ⟨f6, _, ok_judged F6 gk g_MISSED c_need_knob c_need_reader m_Game m_first_row, PySem.W.mg_of X G a6, k6, b6⟩
  exact ok_law F8 n_range c__law_dice c__law_knob c__law_alike c_judged
theorem walk {l : PySem.W.OpenLaw} {q : Program} {loose : List Str} {XP : (Str → Option Value) → Heap → Prop} {YP : World → Heap → Prop} {d : DefRec} {K : Params → PySem.W.Frag} (hn : l.most = some 63) (hdf : d.params.defaults = []) (hY : ∀ (w : World) (h : Heap), YP w h → (K w.params).In h)
    (F : ∀ (w : World) (mg : Str → Option Value) (fa : Addr) (h : Heap), (K w.params).In h → h.Ns mainGlobals mg → mg d.name = some (.ref fa) → ∃ fd : FuncData, (∀ (s : Shared) (u : Value), BindsTo s fd ⟨[u], []⟩ [("_law_script", u)]) ∧
      ∀ base : Heap, (K w.params).In base → base.Ns mainGlobals mg → FnOk l.prog w (K w.params) mg base CX0 4 fa fd ["_law_script"] (spLaw (K w.params))) :
    PySem.W.WalkO q loose XP YP l.row.toRowW d [] (fun f vs => PySem.call f vs) :=
  L2.walk_of (n := 63) (k := 4) (x := "_law_script") (CX := fun _ => CX0) (sp := fun w => spLaw (K w.params)) hn (by decide) hdf ⟨rfl, by decide, by decide⟩ hY F (fun _ _ a ns hl _ hS => ⟨a, ns, rfl, hS, hl, fun _ => rfl⟩) fun _ _ _ _ _ z => z
end KT
open PySem PySem.W PyProof.Rows in
set_option maxRecDepth 100000 in
set_option maxHeartbeats 0 in
theorem PySem.Challenge.cw_knobturn_k08_whole_one_look_is_enough_holds : PySem.Challenge.rw_knobturn_k08_whole_one_look_is_enough.Holds := by
  w_on; o_law; k_head; (case hw => w_witness2)
  k_fill
  refine KT.walk (l := PySem.Challenge.rw_knobturn_k08_whole_one_look_is_enough) rfl rfl (fun w h Y => PySem.W.kIn_of Y) ?F
  case F =>
    intro w mg fa h KX G hmg
    refine' KT.all_mk KX G hmg ?a1 ?l1 ?c1 ?k1 ?a2 ?l2 ?c2 ?k2 ?a3 ?l3 ?c3 ?k3 ?a4 ?l4 ?c4 ?k4 ?a5 ?l5 ?c5 ?k5 ?a6 ?l6 ?c6 ?k6 ?a7 ?l7 ?c7 ?k7 ?a8 ?l8 ?c8 ?k8 ?zg_MISSED ?zg_MOST_APART ?zg_MOST_GAP ?zg_MOST_SAME ?zn_abs ?zn_all ?zn_bool ?zn_int ?zn_isinstance ?zn_len ?zn_list ?zn_min ?zn_range ?zn_str ?zn_tuple ?zCGame ?pgGame ?hdGame ?poGame ?saGame ?mkGame ?kcGame ?na_Game_gap ?na_Game_bounce ?na_Game_apart ?na_Game_same ?na_Game_first ?aGamexinitx ?lGamexinitx ?cGamexinitx ?kGamexinitx ?iGamexinitx ?aGamemoves ?lGamemoves ?cGamemoves ?kGamemoves ?iGamemoves ?aGamebehind ?lGamebehind ?cGamebehind ?kGamebehind ?iGamebehind ?aGamefirst_row ?lGamefirst_row ?cGamefirst_row ?kGamefirst_row ?iGamefirst_row
    (case a1 => k_is)
    (case l1 => k_is)
    (case c1 => k_is)
    (case k1 => k_is)
    (case a2 => k_is)
    (case l2 => k_is)
    (case c2 => k_is)
    (case k2 => k_is)
    (case a3 => k_is)
    (case l3 => k_is)
    (case c3 => k_is)
    (case k3 => k_is)
    (case a4 => k_is)
    (case l4 => k_is)
    (case c4 => k_is)
    (case k4 => k_is)
    (case a5 => k_is)
    (case l5 => k_is)
    (case c5 => k_is)
    (case k5 => k_is)
    (case a6 => k_is)
    (case l6 => k_is)
    (case c6 => k_is)
    (case k6 => k_is)
    (case a7 => k_is)
    (case l7 => k_is)
    (case c7 => k_is)
    (case k7 => k_is)
    (case a8 => k_is)
    (case l8 => k_is)
    (case c8 => k_is)
    (case k8 => k_is)
    (case zg_MISSED => k_is)
    (case zg_MOST_APART => k_is)
    (case zg_MOST_GAP => k_is)
    (case zg_MOST_SAME => k_is)
    (case zn_abs => k_is)
    (case zn_all => k_is)
    (case zn_bool => k_is)
    (case zn_int => k_is)
    (case zn_isinstance => k_is)
    (case zn_len => k_is)
    (case zn_list => k_is)
    (case zn_min => k_is)
    (case zn_range => k_is)
    (case zn_str => k_is)
    (case zn_tuple => k_is)
    (case zCGame => k_is)
    (case pgGame => k_is)
    (case hdGame => k_is)
    (case poGame => k_is)
    (case saGame => k_is)
    (case mkGame => k_is)
    (case kcGame => k_is)
    (case na_Game_gap => k_is)
    (case na_Game_bounce => k_is)
    (case na_Game_apart => k_is)
    (case na_Game_same => k_is)
    (case na_Game_first => k_is)
    (case aGamexinitx => k_is)
    (case lGamexinitx => k_is)
    (case cGamexinitx => k_is)
    (case kGamexinitx => k_is)
    (case iGamexinitx => k_is)
    (case aGamemoves => k_is)
    (case lGamemoves => k_is)
    (case cGamemoves => k_is)
    (case kGamemoves => k_is)
    (case iGamemoves => k_is)
    (case aGamebehind => k_is)
    (case lGamebehind => k_is)
    (case cGamebehind => k_is)
    (case kGamebehind => k_is)
    (case iGamebehind => k_is)
    (case aGamefirst_row => k_is)
    (case lGamefirst_row => k_is)
    (case cGamefirst_row => k_is)
    (case kGamefirst_row => k_is)
    (case iGamefirst_row => k_is)
