import PyProof.Rows.All
import Wide.All
import OpenK.AllK
import Wide.FinOn
import HandS.ForMost
import HandS.Exc
import HandS.ExcOwn
import HandS.WordsExc
import HandS.Walk
import HandS.Deep
import HandS.EndTab
import HandS.Lambda
import HandS.Nested
import KE.SortKeyHeap
import HandS.Wide
import HandS.WideBits
import HandS.TupLe
import HandS.SortInts
import HandS.SortRule
import HandS.SetFor
import HandS.Zip
import HandS.Conv
import HandS.IsInst
import HandS.Strs
import HandS.TupLen
import HandS.Defaults
import KE.GoesMore
import PyProof.Draws
import HandS.NoneIn
import HandS.Style
import PyProof.SumAny
import PySem.Challenge.RW_keptathand_k46_whole_lists_and_fronts
set_option Elab.async false
set_option maxRecDepth 100000
set_option maxHeartbeats 4000000
set_option linter.all false
/-! KPT: the tables of code objects that may be written (printed for each law). -/
namespace KP
open PySem
def tbT : List (Addr × Str) := [(170, "best_fixed.<locals>.<lambda>"), (292, "_law_case_right.<locals>.<lambda>")]
end KP
/-! KPa: pure data, how it stands in the abstract heap, growth of heap and view. -/
namespace KP
open PySem L2

abbrev LIM : Nat := 100000
theorem lim_line : LIM ≤ sizeLine := by rw [sizeLine_eq]; decide

/-- pure data -/
inductive D where
  | non | bl (b : Bool) | int (i : Int) | str (s : Str)
  | lst (xs : List D) | tup (xs : List D) | scr (ns : List Int)
  | dK (ks : List Key) (vs : List D) | dT (ks : List (List Key)) (vs : List D)
  | ty (n : String) | kt (xs : List D)
  deriving Inhabited

mutual
inductive Rep (K : PySem.W.Frag) (W : Hp) : V → D → Prop
  | non : Rep K W .non .non
  | bl (b : Bool) : Rep K W (.bl b) (.bl b)
  | int (i : Int) : Rep K W (.int i) (.int i)
  | str (s : Str) : s.length ≤ LIM → Rep K W (.str s) (.str s)
  | lst {a : Addr} {vs : List V} {ds : List D} : W a = some (.lst vs) → ds.length ≤ LIM → RepL K W vs ds → Rep K W (.ref a) (.lst ds)
  | tup {a : Addr} {vs : List V} {ds : List D} : W a = some (.tup vs) → RepL K W vs ds → Rep K W (.ref a) (.tup ds)
  | kt {a : Addr} {vs : List V} {ds : List D} : SqT K W a vs → RepL K W vs ds → Rep K W (.ref a) (.kt ds)
  | scr {a : Addr} {ns : List Int} : SqL K W a (ns.map V.int) → ns.length ≤ LIM → Rep K W (.ref a) (.scr ns)
  | dK {a : Addr} {ks : List Key} {xs : List V} {ds : List D} : Rd W a (.dK (ks.zip xs)) → ks.length = xs.length → ks.length ≤ LIM → RepL K W xs ds → Rep K W (.ref a) (.dK ks ds)
  | dT {a : Addr} {ks : List (List Key)} {xs : List V} {ds : List D} : Rd W a (.dT (ks.zip xs)) → ks.length = xs.length → ks.length ≤ LIM → RepL K W xs ds → Rep K W (.ref a) (.dT ks ds)
  | ty (n : String) : Rep K W (.ty n) (.ty n)
inductive RepL (K : PySem.W.Frag) (W : Hp) : List V → List D → Prop
  | nil : RepL K W [] []
  | cons {v : V} {vs : List V} {d : D} {ds : List D} : Rep K W v d → RepL K W vs ds → RepL K W (v :: vs) (d :: ds)
end

section
variable {K : PySem.W.Frag} {W W' H H' : Hp}
theorem same_rd {a : Addr} {u : HO} (s : Same W W') (h : Rd W a u) : Rd W' a u := by
  rcases h with h | ⟨o, h⟩
  · exact .inl (s _ _ h)
  · exact .inr ⟨o, s _ _ h⟩
theorem same_sqt {a : Addr} {xs : List V} (s : Same W W') (h : SqT K W a xs) : SqT K W' a xs := by
  rcases h with h | h
  · exact .inl (same_rd s h)
  · exact .inr h
mutual
theorem Rep.mono (s : Same W W') : ∀ {v : V} {d : D}, Rep K W v d → Rep K W' v d
  | _, _, .non => .non
  | _, _, .bl b => .bl b
  | _, _, .int i => .int i
  | _, _, .str x h => .str x h
  | _, _, .lst h l r => .lst (s _ _ h) l (RepL.mono s r)
  | _, _, .tup h r => .tup (s _ _ h) (RepL.mono s r)
  | _, _, .kt h r => .kt (same_sqt s h) (RepL.mono s r)
  | _, _, .scr h l => .scr (s.seq h) l
  | _, _, .dK h e l r => .dK (same_rd s h) e l (RepL.mono s r)
  | _, _, .dT h e l r => .dT (same_rd s h) e l (RepL.mono s r)
  | _, _, .ty n => .ty n
theorem RepL.mono (s : Same W W') : ∀ {vs : List V} {ds : List D}, RepL K W vs ds → RepL K W' vs ds
  | _, _, .nil => .nil
  | _, _, .cons h r => .cons (Rep.mono s h) (RepL.mono s r)
end
theorem RepL.length : ∀ {vs : List V} {ds : List D}, RepL K W vs ds → vs.length = ds.length
  | _, _, .nil => rfl
  | _, _, .cons _ r => by rw [List.length_cons, List.length_cons, RepL.length r]
theorem RepL.get : ∀ {vs : List V} {ds : List D} {i : Nat} {d : D}, RepL K W vs ds → ds[i]? = some d → ∃ v, vs[i]? = some v ∧ Rep K W v d
  | _, _, _, _, .nil, e => by simp at e
  | _, _, 0, _, .cons h _, e => by simp at e; subst e; exact ⟨_, rfl, h⟩
  | _, _, i + 1, _, .cons _ r, e => by
    obtain ⟨v, h1, h2⟩ := RepL.get (i := i) r (by simpa using e)
    exact ⟨v, by simpa using h1, h2⟩
theorem RepL.getV : ∀ {vs : List V} {ds : List D} {i : Nat} {v : V}, RepL K W vs ds → vs[i]? = some v → ∃ d, ds[i]? = some d ∧ Rep K W v d
  | _, _, _, _, .nil, e => by simp at e
  | _, _, 0, _, .cons h _, e => by simp at e; subst e; exact ⟨_, rfl, h⟩
  | _, _, i + 1, _, .cons _ r, e => by
    obtain ⟨v, h1, h2⟩ := RepL.getV (i := i) r (by simpa using e)
    exact ⟨v, by simpa using h1, h2⟩
theorem RepL.append : ∀ {vs us : List V} {ds es : List D}, RepL K W vs ds → RepL K W us es → RepL K W (vs ++ us) (ds ++ es)
  | _, _, _, _, .nil, s => s
  | _, _, _, _, .cons h r, s => .cons h (RepL.append r s)
theorem RepL.take : ∀ {vs : List V} {ds : List D} (n : Nat), RepL K W vs ds → RepL K W (vs.take n) (ds.take n)
  | _, _, 0, _ => .nil
  | _, _, _ + 1, .nil => .nil
  | _, _, n + 1, .cons h r => .cons h (RepL.take n r)
theorem RepL.drop : ∀ {vs : List V} {ds : List D} (n : Nat), RepL K W vs ds → RepL K W (vs.drop n) (ds.drop n)
  | _, _, 0, r => r
  | _, _, _ + 1, .nil => .nil
  | _, _, n + 1, .cons _ r => RepL.drop n r
theorem RepL.set : ∀ {vs : List V} {ds : List D} (i : Nat) {v : V} {d : D}, Rep K W v d → RepL K W vs ds → RepL K W (vs.set i v) (ds.set i d)
  | _, _, _, _, _, _, .nil => .nil
  | _, _, 0, _, _, h, .cons _ r => .cons h r
  | _, _, i + 1, _, _, h, .cons g r => .cons g (RepL.set i h r)
theorem RepL.erase : ∀ {vs : List V} {ds : List D} (i : Nat), RepL K W vs ds → RepL K W (vs.eraseIdx i) (ds.eraseIdx i)
  | _, _, _, .nil => .nil
  | _, _, 0, .cons _ r => r
  | _, _, i + 1, .cons h r => .cons h (RepL.erase i r)
theorem RepL.dropLast {vs : List V} {ds : List D} (r : RepL K W vs ds) : RepL K W vs.dropLast ds.dropLast := by
  rw [List.dropLast_eq_take, List.dropLast_eq_take, r.length]; exact r.take _
theorem RepL.reverse : ∀ {vs : List V} {ds : List D}, RepL K W vs ds → RepL K W vs.reverse ds.reverse
  | _, _, .nil => .nil
  | _, _, .cons h r => by
    rw [List.reverse_cons, List.reverse_cons]; exact (RepL.reverse r).append (.cons h .nil)
theorem RepL.rep {vs : List V} {ds : List D} (r : RepL K W vs ds) : ∀ k : Nat, RepL K W (List.replicate k vs).flatten (List.replicate k ds).flatten
  | 0 => .nil
  | k + 1 => by rw [List.replicate_succ, List.replicate_succ, List.flatten_cons, List.flatten_cons]; exact r.append (RepL.rep r k)
theorem RepL.ints : ∀ (ns : List Int), RepL K W (ns.map V.int) (ns.map D.int)
  | [] => .nil
  | n :: ns => .cons (.int n) (RepL.ints ns)
theorem RepL.of_ints : ∀ {vs : List V} {ns : List Int}, RepL K W vs (ns.map D.int) → vs = ns.map V.int
  | _, [], .nil => rfl
  | _, n :: ns, .cons h r => by cases h; rw [RepL.of_ints r, List.map_cons]
theorem RepL.snoc {vs : List V} {ds : List D} {v : V} {d : D} (r : RepL K W vs ds) (h : Rep K W v d) : RepL K W (vs ++ [v]) (ds ++ [d]) := r.append (.cons h .nil)

/-! ### plain data as the library's PyData -/
mutual
def D.py : D → PyData
  | .non => .none
  | .bl b => .bool b
  | .int i => .int i
  | .str s => .str s
  | .lst xs => .list (D.pyL xs)
  | .tup xs => .tuple (D.pyL xs)
  | .scr ns => .list (ns.map PyData.int)
  | _ => .none
def D.pyL : List D → List PyData
  | [] => []
  | x :: xs => D.py x :: D.pyL xs
end
/-! no dict within, texts that can be laid -/
mutual
def D.pl : D → Bool
  | .non => true
  | .bl _ => true
  | .int _ => true
  | .str s => PyData.canLay0 (.str s)
  | .lst xs => D.plL xs
  | .tup xs => D.plL xs
  | .scr _ => true
  | _ => false
def D.plL : List D → Bool
  | [] => true
  | x :: xs => D.pl x && D.plL xs
end
theorem D.pyL_eq : ∀ xs : List D, D.pyL xs = xs.map D.py
  | [] => by simp [D.pyL]
  | x :: xs => by simp [D.pyL, D.pyL_eq xs]
theorem D.plL_eq : ∀ xs : List D, D.plL xs = xs.all D.pl
  | [] => by simp [D.plL]
  | x :: xs => by simp [D.plL, D.plL_eq xs]
theorem dpAll_ints : ∀ ns : List Int, DpAll K H (ns.map V.int) (ns.map PyData.int)
  | [] => .nil
  | n :: ns => .cons (.int n) (dpAll_ints ns)
mutual
theorem Rep.dp (s : Same W H) : ∀ {v : V} {d : D}, Rep K W v d → d.pl = true → Dp K H v d.py
  | _, _, .non, _ => by unfold D.py; exact .non
  | _, _, .bl b, _ => by unfold D.py; exact .bl b
  | _, _, .int i, _ => by unfold D.py; exact .int i
  | _, _, .str x _, _ => by unfold D.py; exact .str x
  | _, _, .lst h l r, e => by
    unfold D.py
    exact .lst (.inl (.inl (s _ _ h))) (RepL.dp s r (by simpa [D.pl] using e))
  | _, _, .tup h r, e => by
    unfold D.py
    exact .tup (.of (s _ _ h)) (RepL.dp s r (by simpa [D.pl] using e))
  | _, _, .scr h l, _ => by
    unfold D.py
    exact .lst (s.seq h) (dpAll_ints _)
  | _, _, .dK .., e => by simp [D.pl] at e
  | _, _, .dT .., e => by simp [D.pl] at e
  | _, _, .ty .., e => by simp [D.pl] at e
  | _, _, .kt .., e => by simp [D.pl] at e
theorem RepL.dp (s : Same W H) : ∀ {vs : List V} {ds : List D}, RepL K W vs ds → D.plL ds = true → DpAll K H vs (D.pyL ds)
  | _, _, .nil, _ => by unfold D.pyL; exact .nil
  | _, _, .cons (d := d) (ds := ds) h r, e => by
    unfold D.pyL
    have e' : D.pl d = true ∧ D.plL ds = true := by simpa [D.plL] using e
    exact .cons (Rep.dp s h e'.1) (RepL.dp s r e'.2)
end
theorem canLay_ints : ∀ ns : List Int, PyData.canLayAll0 (ns.map PyData.int) = true
  | [] => by simp [PyData.canLayAll0]
  | n :: ns => by simpa [PyData.canLayAll0, PyData.canLay0] using canLay_ints ns
mutual
theorem D.canLay : ∀ d : D, d.pl = true → d.py.canLay0 = true
  | .non, _ => by simp [D.py, PyData.canLay0]
  | .bl _, _ => by simp [D.py, PyData.canLay0]
  | .int _, _ => by simp [D.py, PyData.canLay0]
  | .str s, h => by simpa [D.py, D.pl] using h
  | .lst xs, h => by
    have := D.canLayL xs (by simpa [D.pl] using h)
    simpa [D.py, PyData.canLay0] using this
  | .tup xs, h => by
    have := D.canLayL xs (by simpa [D.pl] using h)
    simpa [D.py, PyData.canLay0] using this
  | .scr ns, _ => by
    unfold D.py PyData.canLay0
    exact canLay_ints ns
  | .dK .., h => by simp [D.pl] at h
  | .dT .., h => by simp [D.pl] at h
  | .ty .., h => by simp [D.pl] at h
  | .kt .., h => by simp [D.pl] at h
theorem D.canLayL : ∀ ds : List D, D.plL ds = true → PyData.canLayAll0 (D.pyL ds) = true
  | [], _ => by simp [D.pyL, PyData.canLayAll0]
  | x :: xs, h => by
    have e : D.pl x = true ∧ D.plL xs = true := by simpa [D.plL] using h
    simp [D.pyL, PyData.canLayAll0, D.canLay x e.1, D.canLayL xs e.2]
end

/-! ### growth -/
/-- a place that may come into the view: a new one, or that of a tuple -/
def Fr (H : Hp) (a : Addr) : Prop := H a = none ∨ ∃ xs, H a = some (.tup xs)
theorem Fr.no {a : Addr} {u : HO} (x : Fr H a) (h : H a = some u) (m : ∀ xs, u ≠ .tup xs) : False := by
  rcases x with z | ⟨xs, z⟩
  · rw [h] at z; cases z
  · rw [h] at z; cases z; exact m xs rfl
/-- no table of code objects -/
def NTb (u : HO) : Prop := ∀ ps, u ≠ .tbl ps
/-- what an earlier heap tells of a later one: all but the tables stays -/
structure Ext (H H' : Hp) : Prop where
  k : ∀ a u, H a = some u → NTb u → H' a = some u
  tt : ∀ a ps, H a = some (.tbl ps) → ∃ ps', H' a = some (.tbl ps')
  t : LamX.Tabs tbT H → LamX.Tabs tbT H'
theorem Ext.fr (x : Ext H H') {a : Addr} (h : H' a = none) : H a = none := by
  cases e : H a with
  | none => rfl
  | some u =>
    by_cases q : ∃ ps, u = .tbl ps
    · obtain ⟨ps, rfl⟩ := q
      obtain ⟨ps', z⟩ := x.tt _ _ e
      rw [h] at z; cases z
    · have z := x.k _ _ e (fun ps z => q ⟨ps, z⟩)
      rw [h] at z; cases z
theorem Ext.of (s : Same H H') : Ext H H' := ⟨fun a u e _ => s a u e, fun a ps e => ⟨ps, s _ _ e⟩, fun t => t.ext s⟩
theorem Ext.refl (H : Hp) : Ext H H := .of (Same.refl _)
theorem Ext.trans {H1 H2 : Hp} (x : Ext H H1) (y : Ext H1 H2) : Ext H H2 := ⟨fun a u e n => y.k a u (x.k a u e n) n, fun a ps e =>
  let ⟨ps', e'⟩ := x.tt _ _ e; y.tt _ _ e', fun t => y.t (x.t t)⟩
theorem Ext.l (x : Ext H H') {a : Addr} {xs : List V} (h : H a = some (.lst xs)) : H' a = some (.lst xs) := x.k _ _ h (fun _ e => by cases e)
theorem Fr.back {a : Addr} (x : Fr H' a) (s : Ext H H') : Fr H a := by
  rcases x with z | ⟨xs, z⟩
  · exact .inl (s.fr z)
  · cases e : H a with
    | none => exact .inl e
    | some u =>
      by_cases q : ∃ ps, u = .tbl ps
      · obtain ⟨ps, rfl⟩ := q
        obtain ⟨ps', z'⟩ := s.tt _ _ e
        rw [z'] at z; cases z
      · rw [s.k _ _ e fun ps z => q ⟨ps, z⟩] at z; cases z; exact .inr ⟨xs, e⟩
/-- the view within the heap; the tables -/
structure Sub (W H : Hp) : Prop where
  s : Same W H
  n : ∀ a u, W a = some u → NTb u
  t : LamX.Tabs tbT H
instance : CoeFun (Sub W H) (fun _ => ∀ b o, W b = some o → H b = some o) := ⟨fun x => x.s⟩
instance : Coe (Sub W H) (Same W H) := ⟨Sub.s⟩
theorem Sub.free (x : Sub W H) {a : Addr} (h : H a = none) : W a = none := x.s.free h
theorem Sub.seq {K : PySem.W.Frag} {a : Addr} {xs : List V} (x : Sub W H) (h : SqL K W a xs) : SqL K H a xs := Same.seq x.s h
theorem Sub.trans (x : Sub W H) (e : Ext H H') : Sub W H' := ⟨fun a u z => e.k a u (x.s a u z) (x.n a u z), x.n, e.t x.t⟩
theorem Sub.same (x : Sub W H) (s : Same H H') : Sub W H' := x.trans (.of s)
theorem Sub.sub (x : Sub W H) (s : Same W' W) : Sub W' H := ⟨s.trans x.s, fun a u e => x.n a u (s a u e), x.t⟩
structure Grow (W H W' H' : Hp) : Prop where
  sW : Same W W'
  sH : Ext H H'
  wh : Sub W' H'
  nw : ∀ a o, W' a = some o → W a = some o ∨ Fr H a
theorem Grow.refl (s : Sub W H) : Grow W H W H := ⟨Same.refl _, Ext.refl _, s, fun _ _ h => .inl h⟩
theorem Grow.trans {W1 H1 W2 H2 : Hp} (a : Grow W H W1 H1) (b : Grow W1 H1 W2 H2) : Grow W H W2 H2 :=
  ⟨a.sW.trans b.sW, a.sH.trans b.sH, b.wh, fun c o h => by
    rcases b.nw c o h with h | h
    · exact a.nw c o h
    · exact .inr (h.back a.sH)⟩
theorem Same.new {p : Addr} {o : HO} (h : H p = none) : Same H (upd H p o) := fun a u e => by
  rw [upd_ne (ne_of_none e h)]; exact e
theorem Ext.new {p : Addr} {o : HO} (h : H p = none) : Ext H (upd H p o) := .of (Same.new h)
theorem same_upd2 {p : Addr} {o : HO} (s : Sub W H) (h : H p = none) : Sub W (upd H p o) := s.same (Same.new h)
theorem none_of_same (s : Sub W H) {p : Addr} (h : H p = none) : W p = none := s.free h
theorem Sub.new {p : Addr} {o : HO} (s : Sub W H) (h : H p = none) (n : NTb o) : Sub (upd W p o) (upd H p o) := ⟨fun a u e => by
    by_cases q : a = p
    · subst q; rw [upd_same] at e ⊢; exact e
    · rw [upd_ne q] at e ⊢; exact s _ _ e, fun a u e => by
    by_cases q : a = p
    · subst q; rw [upd_same] at e; cases e; exact n
    · rw [upd_ne q] at e; exact s.n _ _ e, s.t.ext (Same.new h)⟩
/-- a new object, in the view too -/
theorem Grow.new {p : Addr} {o : HO} (s : Sub W H) (h : H p = none) (n : NTb o := by first | assumption | (intro _ e; cases e; done)) : Grow W H (upd W p o) (upd H p o) :=
  ⟨Same.new (s.free h), Ext.new h, s.new h n, fun a u e => by
    by_cases q : a = p
    · subst q; exact .inr (.inl h)
    · rw [upd_ne q] at e; exact .inl e⟩
/-- a new object, not in the view -/
theorem Grow.new0 {p : Addr} {o : HO} (s : Sub W H) (h : H p = none) : Grow W H W (upd H p o) :=
  ⟨Same.refl _, Ext.new h, same_upd2 s h, fun _ _ e => .inl e⟩
/-- an own cell is written: the tables stay -/
theorem tabs_upd {T : List (Addr × Str)} {a : Addr} {u o : HO} (t : LamX.Tabs T H) (h : H a = some u) (n1 : NTb u) (n2 : ∀ φ, u ≠ .ext φ) : LamX.Tabs T (upd H a o) := fun p hp => by
  obtain ⟨ps, h1, h2, h3⟩ := t p hp
  refine ⟨ps, ?_, h2, fun pos cv e => ?_⟩
  · rw [upd_ne]; exact h1
    intro z; rw [z, h] at h1; cases h1; exact n1 ps rfl
  · obtain ⟨c, e1, e2⟩ := h3 pos cv e
    refine ⟨c, e1, ?_⟩
    rw [upd_ne]; exact e2
    intro z; rw [z, h] at e2
    exact n2 _ (Option.some.inj e2)

theorem Sub.wr (s : Sub W H) {a : Addr} {u o : HO} (w : W a = none) (h : H a = some u) (n1 : NTb u := by first | assumption | (intro _ e; cases e; done)) (n2 : ∀ φ, u ≠ .ext φ := by first | assumption | (intro _ e; cases e; done)) : Sub W (upd H a o) :=
  ⟨fun b v e => by rw [upd_ne fun z => by rw [z, w] at e; cases e]; exact s _ _ e, s.n, tabs_upd s.t h n1 n2⟩
theorem Ext.over (x : Ext H H') {a : Addr} {u o : HO} (n : H a = none) (h : H' a = some u) (n1 : NTb u := by first | assumption | (intro _ e; cases e; done)) (n2 : ∀ φ, u ≠ .ext φ := by first | assumption | (intro _ e; cases e; done)) : Ext H (upd H' a o) :=
  ⟨fun b v e q => by rw [upd_ne (ne_of_none e n)]; exact x.k _ _ e q, fun b ps e => by
    obtain ⟨ps', z⟩ := x.tt _ _ e
    exact ⟨ps', by rw [upd_ne (ne_of_none e n)]; exact z⟩, fun t => tabs_upd (x.t t) h n1 n2⟩

/-- a result: shared data, a new list, a new dict -/
inductive R where
  | sh (d : D) | fl (ds : List D) | fK (ks : List Key) (vs : List D) | fT (ks : List (List Key)) (vs : List D)
def R.d : R → D
  | .sh d => d
  | .fl ds => .lst ds
  | .fK ks vs => .dK ks vs
  | .fT ks vs => .dT ks vs
def RepR (K : PySem.W.Frag) (W H0 H' : Hp) (v : V) : R → Prop
  | .sh d => Rep K W v d
  | .fl ds => ∃ a vs, v = .ref a ∧ H0 a = none ∧ W a = none ∧ H' a = some (.lst vs) ∧ ds.length ≤ LIM ∧ RepL K W vs ds
  | .fK ks ds => ∃ a xs, v = .ref a ∧ H0 a = none ∧ W a = none ∧ H' a = some (.dK (ks.zip xs)) ∧ ks.length = xs.length ∧ ks.length ≤ LIM ∧ RepL K W xs ds
  | .fT ks ds => ∃ a xs, v = .ref a ∧ H0 a = none ∧ W a = none ∧ H' a = some (.dT (ks.zip xs)) ∧ ks.length = xs.length ∧ ks.length ≤ LIM ∧ RepL K W xs ds
/-- a result of a later stretch seen from an earlier heap -/
theorem RepR.back {H1 : Hp} {v : V} {r : R} (s : Ext H H1) (h : RepR K W H1 H' v r) : RepR K W H H' v r := by
  cases r with
  | sh d => exact h
  | fl ds => obtain ⟨a, vs, e, n, w⟩ := h; exact ⟨a, vs, e, s.fr n, w⟩
  | fK ks ds => obtain ⟨a, vs, e, n, w⟩ := h; exact ⟨a, vs, e, s.fr n, w⟩
  | fT ks ds => obtain ⟨a, vs, e, n, w⟩ := h; exact ⟨a, vs, e, s.fr n, w⟩
/-- the new object goes into the view -/
theorem grow_in {a : Addr} {o : HO} (g : Grow W H W' H') (n : H a = none) (w : W' a = none) (h : H' a = some o) (nn : NTb o := by first | assumption | (intro _ e; cases e; done)) : Grow W H (upd W' a o) H' ∧ Same W' (upd W' a o) :=
  ⟨⟨g.sW.trans (Same.new w), g.sH, ⟨fun b u e => by
    by_cases q : b = a
    · subst q; rw [upd_same] at e; cases e; exact h
    · rw [upd_ne q] at e; exact g.wh _ _ e, fun b u e => by
    by_cases q : b = a
    · subst q; rw [upd_same] at e; cases e; exact nn
    · rw [upd_ne q] at e; exact g.wh.n _ _ e, g.wh.t⟩, fun b u e => by
    by_cases q : b = a
    · subst q; exact .inr (.inl n)
    · rw [upd_ne q] at e; exact g.nw _ _ e⟩, Same.new w⟩
theorem RepR.freeze {v : V} {r : R} (g : Grow W H W' H') (h : RepR K W' H H' v r) : ∃ W2, Grow W H W2 H' ∧ Rep K W2 v r.d := by
  cases r with
  | sh d => exact ⟨W', g, h⟩
  | fl ds =>
    obtain ⟨a, vs, rfl, n, w, e, l, q⟩ := h
    obtain ⟨g2, s⟩ := grow_in g n w e
    exact ⟨_, g2, .lst upd_same l (q.mono s)⟩
  | fK ks ds =>
    obtain ⟨a, vs, rfl, n, w, e, l1, l, q⟩ := h
    obtain ⟨g2, s⟩ := grow_in g n w e
    exact ⟨_, g2, .dK (.inl upd_same) l1 l (q.mono s)⟩
  | fT ks ds =>
    obtain ⟨a, vs, rfl, n, w, e, l1, l, q⟩ := h
    obtain ⟨g2, s⟩ := grow_in g n w e
    exact ⟨_, g2, .dT (.inl upd_same) l1 l (q.mono s)⟩
end

/-! ### slots, wishes -/
abbrev Sg := List (Option D)
def EnvR (K : PySem.W.Frag) (W : Hp) (ρ : Sg) (σ : L2.St) : Prop := ρ.length = σ.length ∧ ∀ (i : Nat) (d : D), ρ[i]? = some (some d) → ∃ v, σ[i]? = some (some v) ∧ Rep K W v d
theorem EnvR.mono {K : PySem.W.Frag} {W W' : Hp} {ρ : Sg} {σ : L2.St} (s : Same W W') (h : EnvR K W ρ σ) : EnvR K W' ρ σ := ⟨h.1, fun i d e =>
  let ⟨v, q, r⟩ := h.2 i d e; ⟨v, q, r.mono s⟩⟩
/-- what is wanted of a result r -/
def Want (K : PySem.W.Frag) (W H : Hp) (r : R) (Q : VK) : Prop := ∀ v W' H', Grow W H W' H' → RepR K W' H H' v r → Q v H'
def WantD (K : PySem.W.Frag) (W H : Hp) (d : D) (Q : VK) : Prop := ∀ v W' H', Grow W H W' H' → Rep K W' v d → Q v H'
theorem WantD.r {K : PySem.W.Frag} {W H : Hp} {r : R} {Q : VK} (h : WantD K W H r.d Q) : Want K W H r Q := fun v W' H' g x =>
  let ⟨W2, g2, y⟩ := x.freeze g; h v W2 H' g2 y
theorem Want.at {K : PySem.W.Frag} {W H W1 H1 : Hp} {r : R} {Q : VK} (h : Want K W H r Q) (g : Grow W H W1 H1) : Want K W1 H1 r Q := fun v W' H' g' x =>
  h v W' H' (g.trans g') (x.back g.sH)
theorem WantD.at {K : PySem.W.Frag} {W H W1 H1 : Hp} {d : D} {Q : VK} (h : WantD K W H d Q) (g : Grow W H W1 H1) : WantD K W1 H1 d Q := fun v W' H' g' x =>
  h v W' H' (g.trans g') x
theorem Want.sh {K : PySem.W.Frag} {W H : Hp} {d : D} {Q : VK} {v : V} (s : Sub W H) (x : Rep K W v d) (h : Want K W H (.sh d) Q) : Q v H := h v W H (Grow.refl s) x
theorem WantD.sh {K : PySem.W.Frag} {W H : Hp} {d : D} {Q : VK} {v : V} (s : Sub W H) (x : Rep K W v d) (h : WantD K W H d Q) : Q v H := h v W H (Grow.refl s) x
/-- a new list -/
theorem Want.fl {K : PySem.W.Frag} {W H : Hp} {ds : List D} {Q : VK} {p : Addr} {vs : List V} (s : Sub W H) (n : H p = none) (l : ds.length ≤ LIM) (r : RepL K W vs ds) (h : Want K W H (.fl ds) Q) : Q (.ref p) (upd H p (.lst vs)) :=
  h _ W _ (Grow.new0 s n) ⟨p, vs, rfl, n, s.free n, upd_same, l, r⟩
/-- a new tuple -/
theorem Want.tup {K : PySem.W.Frag} {W H : Hp} {ds : List D} {Q : VK} {p : Addr} {vs : List V} (s : Sub W H) (n : H p = none) (r : RepL K W vs ds) (h : Want K W H (.sh (.tup ds)) Q) : Q (.ref p) (upd H p (.tup vs)) :=
  h _ _ _ (Grow.new (o := .tup vs) s n) (show Rep _ _ _ _ from .tup upd_same (r.mono (Same.new (s.free n))))

/-- an expression's reading does what f says; as data -/
def SP (K : PySem.W.Frag) (t : TE) (f : Sg → Option R) : Prop := ∀ ρ σ W H r Q, Sub W H → EnvR K W ρ σ → f ρ = some r → Want K W H r Q → t σ H Q
def SD (K : PySem.W.Frag) (t : TE) (f : Sg → Option D) : Prop := ∀ ρ σ W H d Q, Sub W H → EnvR K W ρ σ → f ρ = some d → WantD K W H d Q → t σ H Q
theorem SP.d {K : PySem.W.Frag} {t : TE} {f : Sg → Option R} (h : SP K t f) : SD K t (fun ρ => (f ρ).map R.d) := fun ρ σ W H d Q s e q w => by
  obtain ⟨r, h1, h2⟩ := Option.map_eq_some_iff.mp q
  subst h2
  exact h ρ σ W H r Q s e h1 w.r
def SA (K : PySem.W.Frag) (t : TA) (f : Sg → Option (List D)) : Prop := ∀ ρ σ W H ds Q, Sub W H → EnvR K W ρ σ → f ρ = some ds → (∀ vs W' H', Grow W H W' H' → RepL K W' vs ds → Q vs H') → t σ H Q
def ST (K : PySem.W.Frag) (t : TT) (f : Sg → Option Bool) : Prop := ∀ ρ σ W H b Q, Sub W H → EnvR K W ρ σ → f ρ = some b → (∀ W' H', Grow W H W' H' → Q b H') → t σ H Q
end KP
/-! KPla: a lambda with parameters and captured names: made, called (the library's road for lambdas without parameters and for nested defs, joined). -/
namespace KP
open PySem PySem.Spec PyProof.Rows L2 LamX NdefX
section
variable {X : Cx} {pins : List (Addr × Obj)} {σ : L2.St} {H : Hp} {s : Shared}
theorem lam_make3 {c P : Addr} {params : Arguments} {body : Expr} {scope : Scope} {pos : Pos} {E : Value → Shared → Prop} {Q : Value → Shared → Prop} (I : Inv X pins σ H s) (TB : TabB X.base X.mg c P) (hcode : X.env.code = .ref c)
    (hm : (P, X.env.qual ++ "<lambda>") ∈ tbT) (hu : ∀ p ∈ tbT, p.1 = P → p.2 = X.env.qual ++ "<lambda>") (hT : Tabs tbT H) (hdef : defaultsOf params X.env = ([], [])) (hfree : ∀ y ∈ scope.names, y.2 = .free → ∃ c, X.env.cells.lookup y.1 = some c)
    (h : ∀ (f c' : Addr) (pm ctv : Value) (H1 : Hp) (s' : Shared), Inv X pins σ H1 s' → Ext H H1 →
      s'.heap.get? f = some (PySem.W.kla_obj "<lambda>" (X.env.qual ++ "<lambda>") params body scope (cloFrom X.env.cells scope.names []) pm c' ctv) → H1 f = none → s.heap.objs.size ≤ f → H1 c' = some (CodeO c' (X.env.qual ++ "<lambda>")) → Q (.ref f) s') :
    wpAny (model X.prog X.w) X.A (eval (.Lambda params body scope pos) X.env) Q E s := by
  obtain ⟨ps, hP, ht, ha⟩ := hT _ hm
  refine PySem.W.kla_eval hdef ?_
  have bP : s.heap.BuiltinsAt X.mg P := TB.bm.keeps I.bk
  have hP' : s.heap.get? P = some { cls := .none, data := .fields ps } := I.hok P _ hP
  cases hc : codeAmong pos ps.toList with
  | none =>
    refine PySem.W.kla_makeFunction (mg := X.mg) (c := c) (P := P) (ps := ps) (closure_ok hfree) I.ok.glob (I.mod.glob.keeps I.bk) hcode (TB.code.keeps I.bk) hP' ht hc TB.gP bP fun c' ctv h' tk hx hge hlt hrec htb => ?_
    obtain ⟨c2, oc, vs, t, e2, hoc, hd, hv⟩ := hrec
    cases e2
    have hsz : s.heap.objs.size ≤ h'.objs.size := Nat.le_trans hge (Nat.le_of_lt hlt)
    have nC : H c' = none := I.hok.fresh hge
    have I1 := inv_table (t' := tk) (more := #[rawInt pos.line, rawInt pos.col, .ref c']) (h' := h'.push (PySem.W.kla_obj "<lambda>" (X.env.qual ++ "<lambda>") params body scope (cloFrom X.env.cells scope.names []) ((X.mg "__name__").getD .none) c' ctv)) I hP
      (fun b o hb e => Heap.get?_push_of_some _ (hx b o hb e)) (Heap.get?_push_of_some _ htb) hge ⟨oc, vs, t, Heap.get?_push_of_some _ hoc, hd, hv⟩
    have hE : ExtN H (upd (upd H P (.tbl (ps ++ #[rawInt pos.line, rawInt pos.col, .ref c']))) c' (CodeO c' (X.env.qual ++ "<lambda>"))) := fun b o e n => by
      rw [upd_ne (ne_of_none e nC), upd_ne (fun z => n ps (Option.some.inj (e.symm.trans (by rw [z]; exact hP))))]
      exact e
    have eL : (ps ++ #[rawInt pos.line, rawInt pos.col, .ref c']).toList = ps.toList ++ [rawInt pos.line, rawInt pos.col, .ref c'] := by simp
    refine h h'.objs.size c' ((X.mg "__name__").getD .none) ctv _ _ I1 ⟨hE, fun b qs e => ?_, fun _ p hp => ?_⟩ (Heap.get?_push_size _ rfl) ?_ hsz upd_same
    · by_cases hb : b = P
      · subst hb
        exact ⟨_, by rw [upd_ne (ne_of_none hP nC), upd_same]⟩
      · exact ⟨qs, by rw [upd_ne (ne_of_none e nC), upd_ne hb]; exact e⟩
    · by_cases hb : p.1 = P
      · rw [hu p hp hb, hb]
        refine ⟨_, by rw [upd_ne (ne_of_none hP nC), upd_same], by rw [eL]; exact PySem.TriplesOk_snoc _ _ _ _ ht, fun p' cv hcv => ?_⟩
        rw [eL] at hcv
        rcases among_app _ ht hcv with z | z
        · obtain ⟨c0, e1, e2⟩ := ha p' cv z
          exact ⟨c0, e1, hE _ _ e2 codeO_ne⟩
        · exact ⟨c', z, upd_same⟩
      · obtain ⟨ps', a1, a2, a3⟩ := hT p hp
        refine ⟨ps', by rw [upd_ne (ne_of_none a1 nC), upd_ne hb]; exact a1, a2, fun p' cv hcv => ?_⟩
        obtain ⟨c0, e1, e2⟩ := a3 p' cv hcv
        exact ⟨c0, e1, hE _ _ e2 codeO_ne⟩
    · have n1 : h'.objs.size ≠ c' := Nat.ne_of_gt hlt
      have n2 : h'.objs.size ≠ P := Nat.ne_of_gt (Nat.lt_of_lt_of_le (Heap.lt_size hP') hsz)
      rw [upd_ne n1, upd_ne n2]
      exact I.hok.fresh hsz
  | some cv =>
    obtain ⟨c', e, hco⟩ := ha pos cv hc
    subst e
    refine PySem.W.kla_makeFunctionHit (mg := X.mg) (c := c) (P := P) (ps := ps) (closure_ok hfree) I.ok.glob (I.mod.glob.keeps I.bk) hcode (TB.code.keeps I.bk) hP' ht hc bP fun ctv h' tk hx hsz => ?_
    have I1 : Inv X pins σ H { s with heap := h'.push (PySem.W.kla_obj "<lambda>" (X.env.qual ++ "<lambda>") params body scope (cloFrom X.env.cells scope.names []) ((X.mg "__name__").getD .none) c' ctv), toks := tk } := I.kept fun b o e => Heap.get?_push_of_some _ (hx b o e)
    exact h h'.objs.size c' ((X.mg "__name__").getD .none) ctv H _ I1 (Ext.refl H) (Heap.get?_push_size _ rfl) (I.hok.fresh hsz) hsz hco
end
section
variable {CX : CXT} {P : Program} {w : World} {K : PySem.W.Frag} {mg : Str → Option Value} {base : Heap} {N ps fr : List Str} {A : Around} {outer : List Env} {s : Shared} {H : Hp} {E : XK} {us : List Value} {vs : List V} {ws : List (Option V)}
/-- the lambda as a nested function's words -/
abbrev lamF (qual : Str) (params : Arguments) (scope : Scope) (cl : List (Str × Addr)) (c' : Addr) : NF := ⟨"<lambda>", qual, params, [], scope, cl, c'⟩
/-- the lambda is called -/
theorem lam_run {qual : Str} {params : Arguments} {body : Expr} {scope : Scope} {cl : List (Str × Addr)} {f c' : Addr} {pm ctv : Value} {tb : TE} {Q : VK} {k : Nat} (S : NScope N ps fr scope) (hr : Room (k + 1) A) (e0 : Env0 P w K mg base A outer s H)
    (hf : s.heap.get? f = some (PySem.W.kla_obj "<lambda>" qual params body scope cl pm c' ctv)) (hc : H c' = some (CodeO c' qual)) (C : CellsAt cl fr ws s.heap H)
    (hb : bindArgs (PySem.W.kla_fn "<lambda>" qual params body scope cl pm (.ref c') ctv) ⟨us, []⟩ = pure (ps.zip us)) (r : Vals vs us) (hl : vs.length = ps.length)
    (hbody : Room k (A.deeper (envF (lamF qual params scope cl c') f s.heap.objs.size)) → PE (ncx CX P w K mg base N (lamF qual params scope cl c') f A outer s H E) body tb) (ht : tb (startF N vs ws) H Q) :
    codeAny (model P w) A (.call (.ref f) ⟨us, []⟩) (CR CX outer P w H s Q E) s := by
  have lim : s.heap.NoLimit := e0.mod.nolimit.keeps fun b o e => (e0.bs b o e).1
  refine PySem.W.kla_callFunE hr.depth hf rfl S.co S.gen rfl (codeO_at e0.hok hc) ?_
  rw [hb]
  refine wpAny_pure (wpAny_newFunctionEnv S.nocell (fun ⟨n, _⟩ hy => S.par n (List.of_mem_zip hy).1) (fun h₁ hns hsb => ⟨lim.fresh _ hsb, ?_⟩) S.kind)
  show codeAny _ _ (.expr body (envF (lamF qual params scope cl c') f s.heap.objs.size)) _ _
  have kp : ∀ b o, s.heap.get? b = some o → h₁.get? b = some o := fun b o e => hsb.extBut b o (Nat.ne_of_lt (Heap.lt_size e)) (Heap.get?_push_of_some _ e)
  have I : Inv (ncx CX P w K mg base N (lamF qual params scope cl c') f A outer s H E) [] (startF N vs ws) H { s with heap := h₁, toks := s.toks + (ps.zip us).length } := inv_startN S hr.hd e0 hl r C hns kp
  refine PySem.W.kla_codeExpr (wpAny_mono ((hbody (hr.deeper _)).run [] _ (startF N vs ws) H Q I ht) (fun v s' hq => ?_) fun e s' hq => hq)
  obtain ⟨w', H', J', rv, q⟩ := hq
  exact ⟨w', H', J'.os, J'.bare, J'.base, J'.hok, rv, q⟩
end
end KP
/-! KPb: operators, comparisons, built-in functions over data. -/
namespace KP
open PySem L2

/-- data that can be compared: no dict, laid texts, at most n deep -/
def D.okn : Nat → D → Bool
  | _, .non => true
  | _, .bl _ => true
  | _, .int _ => true
  | _, .str s => PyData.canLay0 (.str s)
  | n + 1, .lst xs => xs.all (D.okn n)
  | n + 1, .tup xs => xs.all (D.okn n)
  | _ + 1, .scr _ => true
  | _, _ => false
abbrev D.ok (d : D) : Bool := D.okn 9 d
theorem okn_both : ∀ (n : Nat) (d : D), D.okn n d = true → d.pl = true ∧ d.py.depth ≤ n
  | n, .non, _ => by simp [D.pl, D.py, PyData.depth]
  | n, .bl _, _ => by simp [D.pl, D.py, PyData.depth]
  | n, .int _, _ => by simp [D.pl, D.py, PyData.depth]
  | n, .str s, h => by
    have : PyData.canLay0 (.str s) = true := by cases n <;> simpa [D.okn] using h
    simp [D.pl, D.py, PyData.depth, this]
  | 0, .lst _, h => by simp [D.okn] at h
  | 0, .tup _, h => by simp [D.okn] at h
  | 0, .scr _, h => by simp [D.okn] at h
  | n, .dK _ _, h => by cases n <;> simp [D.okn] at h
  | n, .dT _ _, h => by cases n <;> simp [D.okn] at h
  | n, .ty _, h => by cases n <;> simp [D.okn] at h
  | n, .kt _, h => by cases n <;> simp [D.okn] at h
  | n + 1, .scr ns, _ => by
    have : ∀ ns : List Int, PyData.depthAll (ns.map PyData.int) = 0 := fun ns => by
      induction ns with
      | nil => simp [PyData.depthAll]
      | cons a ns ih => simp [PyData.depthAll, PyData.depth, ih]
    simp [D.pl, D.py, PyData.depth, this]
  | n + 1, .lst xs, h => by
    have h' : ∀ x ∈ xs, D.okn n x = true := by simpa [D.okn] using h
    have a : D.plL xs = true ∧ PyData.depthAll (D.pyL xs) ≤ n := by
      clear h
      induction xs with
      | nil => simp [D.plL, D.pyL, PyData.depthAll]
      | cons x xs ih =>
        obtain ⟨p, q⟩ := okn_both n x (h' x List.mem_cons_self)
        obtain ⟨p', q'⟩ := ih fun y hy => h' y (List.mem_cons_of_mem _ hy)
        simp [D.plL, D.pyL, PyData.depthAll, p, p']
        omega
    simp [D.pl, D.py, PyData.depth, a.1]
    exact a.2
  | n + 1, .tup xs, h => by
    have h' : ∀ x ∈ xs, D.okn n x = true := by simpa [D.okn] using h
    have a : D.plL xs = true ∧ PyData.depthAll (D.pyL xs) ≤ n := by
      clear h
      induction xs with
      | nil => simp [D.plL, D.pyL, PyData.depthAll]
      | cons x xs ih =>
        obtain ⟨p, q⟩ := okn_both n x (h' x List.mem_cons_self)
        obtain ⟨p', q'⟩ := ih fun y hy => h' y (List.mem_cons_of_mem _ hy)
        simp [D.plL, D.pyL, PyData.depthAll, p, p']
        omega
    simp [D.pl, D.py, PyData.depth, a.1]
    exact a.2
theorem ok_shaped {d : D} (h : d.ok = true) : SeqAt.shaped d.py = true := by
  obtain ⟨a, b⟩ := okn_both 9 d h
  unfold SeqAt.shaped
  rw [D.canLay d a]
  simp; omega
/-- == -/
def D.eqv (x y : D) : Bool := PyData.eqv x.py y.py
def eqD (x y : D) : Option Bool := if x.ok && y.ok then some (D.eqv x y) else none

/-- a key of a dict -/
def D.key : D → Option Key
  | .int i => some (.inl i)
  | .str s => some (.inr s)
  | _ => none
def keyD : Key → D
  | .inl i => .int i
  | .inr s => .str s
def D.keyL : D → Option (List Key)
  | .tup xs => xs.mapM D.key
  | _ => none
theorem D.key_some {d : D} {k : Key} (h : d.key = some k) : d = keyD k := by
  cases d <;> simp [D.key] at h <;> subst h <;> rfl
section
variable {K : PySem.W.Frag} {W H : Hp}
theorem rep_key {v : V} {d : D} {k : Key} (r : Rep K W v d) (h : d.key = some k) : v = kV k := by
  have e := D.key_some h
  subst e
  cases k with
  | inl i => cases r; rfl
  | inr s => cases r; rfl
theorem repL_keys : ∀ {vs : List V} {ds : List D} {ks : List Key}, RepL K W vs ds → ds.mapM D.key = some ks → vs = ks.map kV
  | _, _, ks, .nil, h => by simp at h; subst h; rfl
  | _, _, ks, .cons (d := d) (ds := ds) r rr, h => by
    rw [List.mapM_cons] at h
    cases e : d.key with
    | none => simp [e] at h
    | some k =>
      cases e2 : ds.mapM D.key with
      | none => simp [e, e2] at h
      | some ks' =>
        simp [e, e2] at h
        subst h
        rw [List.map_cons, rep_key r e, repL_keys rr e2]
end
/-- the value at a key: by the lists -/
def lookK {κ : Type} [DecidableEq κ] : List κ → List D → κ → Option D
  | k :: ks, v :: vs, x => if k = x then some v else lookK ks vs x
  | _, _, _ => none
theorem lookK_val {κ : Type} [DecidableEq κ] {K : PySem.W.Frag} {W : Hp} : ∀ {ks : List κ} {xs : List V} {ds : List D} (k : κ), RepL K W xs ds → ks.length = xs.length →
    (∃ v d, valV (ks.zip xs) k = some v ∧ lookK ks ds k = some d ∧ Rep K W v d) ∨ (valV (ks.zip xs) k = none ∧ lookK ks ds k = none)
  | [], _, _, k, _, _ => by right; cases ‹List V› <;> simp [valV, lookK]
  | c :: ks, _, _, k, .nil, h => by simp at h
  | c :: ks, _, _, k, .cons (v := v) (vs := vs) (d := d) (ds := ds) r rr, h => by
    rw [List.zip_cons_cons]
    by_cases e : c = k
    · left; exact ⟨v, d, valV_pos e, by simp [lookK, e], r⟩
    · rw [valV_neg e]
      have := lookK_val (ks := ks) k rr (by simpa using h)
      simpa [lookK, e] using this
/-- in -/
def D.flat : D → Bool
  | .non => true
  | .bl _ => true
  | .int _ => true
  | .str _ => true
  | _ => false
def inD (x y : D) : Option Bool :=
  match y with
  | .lst ds => if x.ok && ds.all (D.okn 8) then some (ds.any fun z => D.eqv z x) else none
  | .tup ds => if x.flat && ds.all D.flat then some (ds.any fun z => D.eqv z x) else none
  | .kt ds => if x.flat && ds.all D.flat then some (ds.any fun z => D.eqv z x) else none
  | .dK ks vs => x.key.map fun k => (lookK ks vs k).isSome
  | .dT ks vs => x.keyL.map fun k => (lookK ks vs k).isSome
  | _ => none

section
variable {X : Cx} {K : PySem.W.Frag} {W H : Hp} {x y : V} {dx dy : D} {Q : VK} {r : R}
theorem rep_flat {v : V} {d : D} (r : Rep K W v d) (h : d.flat = true) : flatV v = true := by cases r <;> first | rfl | simp [D.flat] at h
theorem repL_flat : ∀ {vs : List V} {ds : List D}, RepL K W vs ds → ds.all D.flat = true → vs.all flatV = true
  | _, _, .nil, _ => rfl
  | _, _, .cons r rr, h => by
    simp at h ⊢
    exact ⟨rep_flat r h.1, by simpa using repL_flat rr (by simpa using h.2)⟩
theorem eqV_eqv {v u : V} {d e : D} (r : Rep K W v d) (q : Rep K W u e) (h : d.flat = true) (g : e.flat = true) : eqV v u = D.eqv d e := by
  cases r <;> cases q <;> first | rfl | (simp [D.flat] at h g) | (simp [eqV, D.eqv, D.py, PyData.eqv])
theorem inV_eqv {u : V} {e : D} (q : Rep K W u e) (g : e.flat = true) : ∀ {vs : List V} {ds : List D}, RepL K W vs ds → ds.all D.flat = true → inV u vs = ds.any fun z => D.eqv z e
  | _, _, .nil, _ => rfl
  | _, _, .cons r rr, h => by
    have h' := h
    simp only [List.all_cons, Bool.and_eq_true] at h'
    have ih := inV_eqv q g rr h'.2
    unfold inV at ih ⊢
    rw [List.any_cons, List.any_cons, eqV_eqv r q h'.1 g, ih]
theorem dget_of (s : Sub W H) {a : Addr} {ks : List Key} {xs : List V} {k : Key} (h : Rd W a (.dK (ks.zip xs))) : DGet H a (kV k) (valV (ks.zip xs) k) := .inl ⟨_, k, same_rd s h, rfl, rfl⟩
end

/-! ### operators -/
inductive O2 where
  | add | sub | mul | fdiv | mod | pow
  deriving DecidableEq
def O2.op : O2 → Operator
  | .add => .Add | .sub => .Sub | .mul => .Mult | .fdiv => .FloorDiv | .mod => .Mod | .pow => .Pow
def o2D (o : O2) (x y : D) : Option R :=
  match o, x, y with
  | .add, .int i, .int j => some (.sh (.int (i + j)))
  | .add, .lst a, .lst b => if a.length + b.length ≤ LIM then some (.fl (a ++ b)) else none
  | .add, .str a, .str b => if (a ++ b).length ≤ LIM ∧ a.length + b.length ≤ LIM then some (.sh (.str (a ++ b))) else none
  | .add, .tup a, .tup b => if a ≠ [] ∧ b ≠ [] ∧ a.length + b.length ≤ LIM then some (.sh (.tup (a ++ b))) else none
  | .sub, .int i, .int j => some (.sh (.int (i - j)))
  | .mul, .int i, .int j => if i.natAbs < 2 ^ 64 ∨ j.natAbs < 2 ^ 64 then some (.sh (.int (i * j))) else none
  | .mul, .lst a, .int k => if -1000000 ≤ k ∧ k ≤ 1000000 ∧ a.length * k.toNat ≤ LIM then some (.fl (List.replicate k.toNat a).flatten) else none
  | .fdiv, .int i, .int j => if 0 < j ∧ j < 1073741824 then some (.sh (.int (i / j))) else none
  | .mod, .int i, .int j => if 0 < j then some (.sh (.int (i % j))) else none
  | .pow, .int i, .int n => if 0 ≤ n ∧ n ≤ 1000 ∧ Builtin.Int.intBits i ≤ 10000 then some (.sh (.int (i ^ n.toNat))) else none
  | _, _, _ => none
instance : DecidablePred (fun a : List D => a ≠ []) := fun a => by cases a <;> simp <;> infer_instance

abbrev rAddS : R2 := fun x y H Q => ∃ i j, x = .str i ∧ y = .str j ∧ i.length + j.length ≤ sizeLine ∧ Q (.str (i ++ j)) H
def CPowW (i j : Int) : Prop := 0 ≤ j ∧ (Builtin.Int.intBits i : Int) * j ≤ 2 ^ 27
def rO2 (K : PySem.W.Frag) : O2 → R2
  | .add => fun x y H Q => rI0 (fun i j => .int (i + j)) x y H Q ∨ rCat x y H Q ∨ rAddS x y H Q ∨ rCatT K x y H Q
  | .sub => rI0 fun i j => .int (i - j)
  | .mul => fun x y H Q => rI CMul (fun i j => .int (i * j)) x y H Q ∨ rRep x y H Q
  | .fdiv => rI CDiv fun i j => .int (i / j)
  | .mod => rI (fun _ j => 0 < j) fun i j => .int (i % j)
  | .pow => rI CPowW fun i j => .int (i ^ j.toNat)
theorem op_powW {X : Cx} : OpR X (binaryOp .Pow) (rI CPowW fun i j => .int (i ^ j.toNat)) := opI fun _ _ _ _ _ _ _ hc q => PyProof.Rows.pow_int hc.1 hc.2 q
theorem o2_ok {X : Cx} : ∀ o : O2, OpR X (binaryOp o.op) (rO2 X.K o)
  | .add => op_add.or (op_cat.or (op_add_str.or op_catT))
  | .sub => op_sub
  | .mul => op_mul.or op_rep
  | .fdiv => op_fdiv
  | .mod => op_mod
  | .pow => op_powW
theorem abs64 {i : Int} (h : i.natAbs < 2 ^ 64) : -(2 ^ 64) < i ∧ i < 2 ^ 64 := by omega
theorem str_len (i j : Str) : (i ++ j).length = i.length + j.length := by
  first | exact Str.length_append i j | simp
section
variable {K : PySem.W.Frag} {W H : Hp} {x y : V} {dx dy : D} {Q : VK} {r : R}
theorem o2_sem (s : Sub W H) (hx : Rep K W x dx) (hy : Rep K W y dy) : ∀ {o : O2}, o2D o dx dy = some r → Want K W H r Q → rO2 K o x y H Q := by
  have ll := lim_line
  intro o e w
  cases o <;> cases hx <;> cases hy <;> simp only [o2D] at e <;> first | (cases e; done) | skip
  all_goals first
    | (cases e; first | exact .inl ⟨_, _, rfl, rfl, w.sh s (.int _)⟩ | exact ⟨_, _, rfl, rfl, w.sh s (.int _)⟩)
    | skip
  · -- str + str
    split at e <;> cases e
    rename_i h
    exact .inr (.inr (.inl ⟨_, _, rfl, rfl, Nat.le_trans h.2 ll, w.sh s (.str _ h.1)⟩))
  · -- list + list
    rename_i a1 va da ha la ra a2 vb db hb lb rb
    split at e <;> cases e
    rename_i h
    refine .inr (.inl ⟨_, _, _, _, rfl, rfl, s _ _ ha, s _ _ hb, ?_, fun p hp => w.fl s hp (by simpa using h) (ra.append rb)⟩)
    rw [ra.length, rb.length]; exact Nat.le_trans h ll
  · -- tuple + tuple
    rename_i a1 va da ha ra a2 vb db hb rb
    split at e <;> cases e
    rename_i h
    have la := ra.length
    have lb := rb.length
    refine .inr (.inr (.inr ⟨_, _, _, _, rfl, rfl, SqT.of (s _ _ ha), SqT.of (s _ _ hb), fun z => h.1 ?_, ?_, fun z => absurd ?_ h.2.1, fun _ p hp => w.tup s hp (ra.append rb)⟩))
    · subst z; simpa using la.symm
    · rw [la, lb]; exact Nat.le_trans h.2.2 ll
    · subst z; simpa using lb.symm
  · -- int * int
    split at e <;> cases e
    rename_i h
    refine .inl ⟨_, _, rfl, rfl, ?_, w.sh s (.int _)⟩
    rcases h with h | h
    · exact .inl (abs64 h)
    · exact .inr (abs64 h)
  · -- list * int
    rename_i a1 va da ha la ra k
    split at e <;> cases e
    rename_i h
    refine .inr ⟨_, _, _, rfl, rfl, s _ _ ha, by omega, by omega, ?_, fun p hp => w.fl s hp ?_ (ra.rep _)⟩
    · rw [ra.length]; exact Nat.le_trans h.2.2 ll
    · have : ∀ (k : Nat) (l : List D), (List.replicate k l).flatten.length = l.length * k := fun k l => by
        rw [List.length_flatten, List.map_replicate, List.sum_replicate_nat, Nat.mul_comm]
      rw [this]; exact h.2.2
  · split at e <;> cases e
    rename_i h
    exact ⟨_, _, rfl, rfl, ⟨h.1, h.2⟩, w.sh s (.int _)⟩
  · split at e <;> cases e
    rename_i h
    exact ⟨_, _, rfl, rfl, h, w.sh s (.int _)⟩
  · rename_i i n
    split at e <;> cases e
    rename_i h
    refine ⟨_, _, rfl, rfl, ⟨h.1, ?_⟩, w.sh s (.int _)⟩
    have h1 : (Builtin.Int.intBits i : Int) ≤ 10000 := by have := h.2.2; omega
    have h2 : (Builtin.Int.intBits i : Int) * n ≤ 10000 * 1000 := Int.mul_le_mul h1 h.2.1 h.1 (by decide)
    exact Int.le_trans h2 (by decide)
end
end KP
/-! KPc: comparisons, subscripts, slices, built-in functions, methods over data. -/
namespace KP
open PySem L2

/-! ### comparisons -/
inductive C2 where
  | eq | ne | lt | le | gt | ge | inn | nin | is | isn
  deriving DecidableEq
def C2.op : C2 → CmpOp
  | .eq => .Eq | .ne => .NotEq | .lt => .Lt | .le => .LtE | .gt => .Gt | .ge => .GtE | .inn => .In | .nin => .NotIn | .is => .Is | .isn => .IsNot
/-- x is a written None, True, False -/
def isD (x y : D) : Option Bool :=
  match y, x with
  | .non, .non => some true
  | .non, _ => some false
  | .bl b, .bl a => some (a == b)
  | .bl _, _ => some false
  | _, _ => none
def c2D (o : C2) (x y : D) : Option Bool :=
  match o with
  | .eq => eqD x y
  | .ne => (eqD x y).map not
  | .lt => match x, y with | .int i, .int j => some (decide (i < j)) | _, _ => none
  | .le => match x, y with | .int i, .int j => some (decide (i ≤ j)) | _, _ => none
  | .gt => match x, y with | .int i, .int j => some (decide (j < i)) | _, _ => none
  | .ge => match x, y with | .int i, .int j => some (decide (j ≤ i)) | _, _ => none
  | .inn => inD x y
  | .nin => (inD x y).map not
  | .is => isD x y
  | .isn => (isD x y).map not
abbrev rDIn : R2 := fun x y H Q => ∃ a o, y = .ref a ∧ DGet H a x o ∧ Q (.bl o.isSome) H
abbrev rDNin : R2 := fun x y H Q => ∃ a o, y = .ref a ∧ DGet H a x o ∧ Q (.bl (!o.isSome)) H
abbrev rIsB : R2 := fun x y H Q => ∃ b, y = .bl b ∧ Q (.bl (decide (x = .bl b))) H
abbrev rIsnB : R2 := fun x y H Q => ∃ b, y = .bl b ∧ Q (.bl (!decide (x = .bl b))) H
def rC2 (K : PySem.W.Frag) : C2 → R2
  | .eq => rEqD K
  | .ne => rNeD K
  | .lt => rI0 fun i j => .bl (decide (i < j))
  | .le => rI0 fun i j => .bl (decide (i ≤ j))
  | .gt => rI0 fun i j => .bl (decide (j < i))
  | .ge => rI0 fun i j => .bl (decide (j ≤ i))
  | .inn => fun x y H Q => rInD K x y H Q ∨ rIn K false x y H Q ∨ rDIn x y H Q
  | .nin => fun x y H Q => rNotInD K x y H Q ∨ rIn K true x y H Q ∨ rDNin x y H Q
  | .is => fun x y H Q => (y = .non ∧ Q (.bl (decide (x = .non))) H) ∨ rIsB x y H Q
  | .isn => fun x y H Q => (y = .non ∧ Q (.bl (!decide (x = .non))) H) ∨ rIsnB x y H Q
section
variable {X : Cx}
theorem is_bool_gen {M : Model} {A : Around} {E : Value → Shared → Prop} {s : Shared} {Q : Value → Shared → Prop} {x : V} {v : Value} {b : Bool} (r : RelV x v) (h : Q (.bool (v == .bool b)) s) : wpAny M A (compareOp .Is v (.bool b)) Q E s := by
  cases x <;> first | (obtain ⟨t, rfl⟩ := r; exact wpAny_pure h) | (cases r; exact wpAny_pure h)
theorem isnot_bool_gen {M : Model} {A : Around} {E : Value → Shared → Prop} {s : Shared} {Q : Value → Shared → Prop} {x : V} {v : Value} {b : Bool} (r : RelV x v) (h : Q (.bool (!(v == .bool b))) s) : wpAny M A (compareOp .IsNot v (.bool b)) Q E s := by
  cases x <;> first | (obtain ⟨t, rfl⟩ := r; exact wpAny_pure h) | (cases r; exact wpAny_pure h)
theorem RelV.bool_iff {x : V} {v : Value} {b : Bool} (r : RelV x v) : (v == Value.bool b) = decide (x = .bl b) := by
  cases x with
  | non => cases r; rfl
  | bl c => cases r; cases c <;> cases b <;> rfl
  | int _ => obtain ⟨t, rfl⟩ := r; rfl
  | str _ => obtain ⟨t, rfl⟩ := r; rfl
  | byt _ => obtain ⟨t, rfl⟩ := r; rfl
  | flt _ => obtain ⟨t, rfl⟩ := r; rfl
  | ref _ => cases r; rfl
  | ty _ => cases r; rfl
theorem op_isB : OpR X (compareOp .Is) rIsB := by
  intro pins s σ H x y v u Q I rx ry h
  obtain ⟨b, rfl, q⟩ := h
  cases (show u = Value.bool b from ry)
  exact is_bool_gen rx ⟨.bl _, H, I, by rw [RelV.bool_iff rx]; rfl, q⟩
theorem op_isnB : OpR X (compareOp .IsNot) rIsnB := by
  intro pins s σ H x y v u Q I rx ry h
  obtain ⟨b, rfl, q⟩ := h
  cases (show u = Value.bool b from ry)
  exact isnot_bool_gen rx ⟨.bl _, H, I, by rw [RelV.bool_iff rx]; rfl, q⟩
theorem op_dIn (hu : X.A.units + 1 < cLine) : OpR X (compareOp .In) rDIn := by
  intro pins s σ H x y v u Q I rx ry h
  obtain ⟨a, o, rfl, g, q⟩ := h
  cases (show u = Value.ref a from ry)
  exact d_in hu I g rx fun s3 I3 => ⟨.bl o.isSome, H, I3, rfl, q⟩
theorem op_dNin (hu : X.A.units + 1 < cLine) : OpR X (compareOp .NotIn) rDNin := by
  intro pins s σ H x y v u Q I rx ry h
  obtain ⟨a, o, rfl, g, q⟩ := h
  cases (show u = Value.ref a from ry)
  exact d_notIn hu I g rx fun s3 I3 => ⟨.bl (!o.isSome), H, I3, rfl, q⟩
theorem c2_ok (hu : X.A.units + 65 < cLine) : ∀ o : C2, OpR X (compareOp o.op) (rC2 X.K o)
  | .eq => op_eqD (by omega)
  | .ne => op_neD (by omega)
  | .lt => op_lt
  | .le => op_le
  | .gt => op_gt
  | .ge => op_ge
  | .inn => (op_inD hu).or (op_in_seq.or (op_dIn (by omega)))
  | .nin => (op_notInD hu).or (op_notIn_seq.or (op_dNin (by omega)))
  | .is => op_isN.or op_isB
  | .isn => op_notN.or op_isnB
end
section
variable {K : PySem.W.Frag} {W H : Hp} {x y : V} {dx dy : D} {Q : VK}
theorem key_get (s : Sub W H) {a : Addr} {ks : List Key} {xs : List V} {ds : List D} {k : Key} (h : Rd W a (.dK (ks.zip xs))) (e : ks.length = xs.length) (r : RepL K W xs ds) (rx : x = kV k) :
    ∃ o, DGet H a x o ∧ ((∃ v d, o = some v ∧ lookK ks ds k = some d ∧ Rep K W v d) ∨ (o = none ∧ lookK ks ds k = none)) := by
  refine ⟨_, .inl ⟨_, k, same_rd s h, rx, rfl⟩, lookK_val k r e⟩
theorem keyT_get (s : Sub W H) {a : Addr} {ks : List (List Key)} {xs : List V} {ds : List D} {d : D} {k : List Key} (h : Rd W a (.dT (ks.zip xs))) (e : ks.length = xs.length) (r : RepL K W xs ds) (rx : Rep K W x d) (hk : d.keyL = some k) :
    ∃ o, DGet H a x o ∧ ((∃ v d, o = some v ∧ lookK ks ds k = some d ∧ Rep K W v d) ∨ (o = none ∧ lookK ks ds k = none)) := by
  cases rx <;> simp only [D.keyL] at hk <;> try (cases hk; done)
  rename_i b vs es hb rr
  refine ⟨_, .inr ⟨_, k, b, same_rd s h, rfl, ?_, rfl⟩, lookK_val k r e⟩
  rw [← repL_keys rr hk]; exact s _ _ hb
theorem inD_sem (s : Sub W H) (hx : Rep K W x dx) (hy : Rep K W y dy) {b : Bool} (e : inD dx dy = some b) (q : Q (.bl b) H) : rC2 K .inn x y H Q := by
  cases hy <;> simp only [inD] at e <;> try (cases e; done)
  · rename_i a vs ds h l r
    split at e <;> cases e
    rename_i g
    rw [Bool.and_eq_true] at g
    have gl : D.ok (.lst ds) = true := by simpa [D.okn] using g.2
    refine .inl ⟨dx.py, D.pyL ds, hx.dp s.s (okn_both 9 dx g.1).1, ?_, ok_shaped g.1, ?_, ?_⟩
    · have := (Rep.lst h l r).dp s.s (okn_both 9 _ gl).1
      simpa [D.py] using this
    · have := ok_shaped gl
      simpa [D.py] using this
    · have : ((D.pyL ds).any fun z => PyData.eqv z dx.py) = ds.any fun z => D.eqv z dx := by
        rw [D.pyL_eq, List.any_map]; rfl
      rw [this]; exact q
  · rename_i a vs ds h r
    split at e <;> cases e
    rename_i g
    rw [Bool.and_eq_true] at g
    refine .inr (.inl ⟨a, vs, rfl, .inr (.of (s _ _ h)), rep_flat hx g.1, repL_flat r g.2, ?_⟩)
    rw [inV_eqv hx g.1 r g.2]; exact q
  · rename_i a vs ds h r
    split at e <;> cases e
    rename_i g
    rw [Bool.and_eq_true] at g
    refine .inr (.inl ⟨a, vs, rfl, .inr (same_sqt s h), rep_flat hx g.1, repL_flat r g.2, ?_⟩)
    rw [inV_eqv hx g.1 r g.2]; exact q
  · rename_i a ks xs ds h e1 l r
    obtain ⟨k, hk, rfl⟩ := Option.map_eq_some_iff.mp e
    obtain ⟨o, g, z⟩ := key_get s h e1 r (rep_key hx hk)
    refine .inr (.inr ⟨a, o, rfl, g, ?_⟩)
    rcases z with ⟨v, d, rfl, e2, _⟩ | ⟨rfl, e2⟩ <;> (rw [e2] at q; exact q)
  · rename_i a ks xs ds h e1 l r
    obtain ⟨k, hk, rfl⟩ := Option.map_eq_some_iff.mp e
    obtain ⟨o, g, z⟩ := keyT_get s h e1 r hx hk
    refine .inr (.inr ⟨a, o, rfl, g, ?_⟩)
    rcases z with ⟨v, d, rfl, e2, _⟩ | ⟨rfl, e2⟩ <;> (rw [e2] at q; exact q)
theorem ninD_sem (s : Sub W H) (hx : Rep K W x dx) (hy : Rep K W y dy) {b : Bool} (e : inD dx dy = some b) (q : Q (.bl (!b)) H) : rC2 K .nin x y H Q := by
  cases hy <;> simp only [inD] at e <;> try (cases e; done)
  · rename_i a vs ds h l r
    split at e <;> cases e
    rename_i g
    rw [Bool.and_eq_true] at g
    have gl : D.ok (.lst ds) = true := by simpa [D.okn] using g.2
    refine .inl ⟨dx.py, D.pyL ds, hx.dp s.s (okn_both 9 dx g.1).1, ?_, ok_shaped g.1, ?_, ?_⟩
    · have := (Rep.lst h l r).dp s.s (okn_both 9 _ gl).1
      simpa [D.py] using this
    · have := ok_shaped gl
      simpa [D.py] using this
    · have : ((D.pyL ds).any fun z => PyData.eqv z dx.py) = ds.any fun z => D.eqv z dx := by
        rw [D.pyL_eq, List.any_map]; rfl
      rw [this]; exact q
  · rename_i a vs ds h r
    split at e <;> cases e
    rename_i g
    rw [Bool.and_eq_true] at g
    refine .inr (.inl ⟨a, vs, rfl, .inr (.of (s _ _ h)), rep_flat hx g.1, repL_flat r g.2, ?_⟩)
    rw [inV_eqv hx g.1 r g.2]; exact q
  · rename_i a vs ds h r
    split at e <;> cases e
    rename_i g
    rw [Bool.and_eq_true] at g
    refine .inr (.inl ⟨a, vs, rfl, .inr (same_sqt s h), rep_flat hx g.1, repL_flat r g.2, ?_⟩)
    rw [inV_eqv hx g.1 r g.2]; exact q
  · rename_i a ks xs ds h e1 l r
    obtain ⟨k, hk, rfl⟩ := Option.map_eq_some_iff.mp e
    obtain ⟨o, g, z⟩ := key_get s h e1 r (rep_key hx hk)
    refine .inr (.inr ⟨a, o, rfl, g, ?_⟩)
    rcases z with ⟨v, d, rfl, e2, _⟩ | ⟨rfl, e2⟩ <;> (rw [e2] at q; exact q)
  · rename_i a ks xs ds h e1 l r
    obtain ⟨k, hk, rfl⟩ := Option.map_eq_some_iff.mp e
    obtain ⟨o, g, z⟩ := keyT_get s h e1 r hx hk
    refine .inr (.inr ⟨a, o, rfl, g, ?_⟩)
    rcases z with ⟨v, d, rfl, e2, _⟩ | ⟨rfl, e2⟩ <;> (rw [e2] at q; exact q)
theorem isD_val (hx : Rep K W x dx) (hy : Rep K W y dy) {b : Bool} (e : isD dx dy = some b) : (y = .non ∧ decide (x = .non) = b) ∨ ∃ c, y = .bl c ∧ decide (x = .bl c) = b := by
  cases hy <;> try (cases hx <;> simp [isD] at e; done)
  · left
    refine ⟨rfl, ?_⟩
    cases hx <;> simp [isD] at e <;> subst e <;> rfl
  · rename_i c
    right
    refine ⟨c, rfl, ?_⟩
    cases hx <;> simp [isD] at e <;> subst e <;> first | rfl | (rename_i a; cases a <;> cases c <;> rfl)
theorem c2_sem (s : Sub W H) (hx : Rep K W x dx) (hy : Rep K W y dy) : ∀ {o : C2} {b : Bool}, c2D o dx dy = some b → Q (.bl b) H → rC2 K o x y H Q := by
  intro o b e q
  cases o
  case inn => exact inD_sem s hx hy e q
  case nin =>
    obtain ⟨c, hc, rfl⟩ := Option.map_eq_some_iff.mp e
    exact ninD_sem s hx hy hc q
  case eq =>
    simp only [c2D, eqD] at e
    split at e <;> cases e
    rename_i g
    rw [Bool.and_eq_true] at g
    exact ⟨_, _, hx.dp s.s (okn_both 9 dx g.1).1, hy.dp s.s (okn_both 9 dy g.2).1, ok_shaped g.1, ok_shaped g.2, q⟩
  case ne =>
    obtain ⟨c, hc, rfl⟩ := Option.map_eq_some_iff.mp e
    simp only [eqD] at hc
    split at hc <;> cases hc
    rename_i g
    rw [Bool.and_eq_true] at g
    exact ⟨_, _, hx.dp s.s (okn_both 9 dx g.1).1, hy.dp s.s (okn_both 9 dy g.2).1, ok_shaped g.1, ok_shaped g.2, q⟩
  case is =>
    rcases isD_val hx hy e with ⟨e1, e2⟩ | ⟨c, e1, e2⟩
    · exact .inl ⟨e1, by rw [e2]; exact q⟩
    · exact .inr ⟨c, e1, by rw [e2]; exact q⟩
  case isn =>
    obtain ⟨c, hc, rfl⟩ := Option.map_eq_some_iff.mp e
    rcases isD_val hx hy hc with ⟨e1, e2⟩ | ⟨c, e1, e2⟩
    · exact .inl ⟨e1, by rw [e2]; exact q⟩
    · exact .inr ⟨c, e1, by rw [e2]; exact q⟩
  all_goals
    cases hx <;> cases hy <;> simp only [c2D] at e <;> first | (cases e; done) | skip
    cases e
    exact ⟨_, _, rfl, rfl, q⟩
end

/-! ### subscripts -/
def ixD (x y : D) : Option D :=
  match x, y with
  | .lst ds, .int i => atI ds i
  | .tup ds, .int i => atI ds i
  | .kt ds, .int i => atI ds i
  | .scr ns, .int i => (atI ns i).map D.int
  | .str z, .int i => (atI z.cps.toList i).map fun c => .str ⟨#[c]⟩
  | .dK ks vs, d => d.key.bind fun k => lookK ks vs k
  | .dT ks vs, d => d.keyL.bind fun k => lookK ks vs k
  | _, _ => none
abbrev rIxDi : R2 := fun x y H Q => ∃ a v, x = .ref a ∧ DGet H a y (some v) ∧ Q v H
def rIxA (K : PySem.W.Frag) : R2 := fun x y H Q => rIxL K x y H Q ∨ rIxT K x y H Q ∨ rIxS x y H Q ∨ rIxDi x y H Q
section
variable {X : Cx}
theorem ix_dict (hu : X.A.units + 1 < cLine) : IxR X rIxDi := by
  intro value slice pins s σ H x y v u Q I rx ry h hs
  obtain ⟨a, z, rfl, g, q⟩ := h
  cases (show v = Value.ref a from rx)
  exact PyProof.Rows.tail_any (dict_typeIs I g) PySem.F.slot_dict_getitem.lookup (d_getItem hu I g ry fun w' s3 I3 rw' => ⟨z, H, I3, rw', q⟩) hs
theorem ix_ok (hu : X.A.units + 1 < cLine) : IxR X (rIxA X.K) := ix_list.or (ix_tup.or (ix_str.or (ix_dict hu)))
end
section
variable {K : PySem.W.Frag} {W H : Hp} {x y : V} {dx dy : D} {Q : VK}
theorem atI_some {α : Type} {xs : List α} {i : Int} {d : α} (h : atI xs i = some d) : ∃ j, ixN xs.length i = some j ∧ xs[j]? = some d := by
  unfold atI at h
  cases e : ixN xs.length i with
  | none => simp [e] at h
  | some j => simp [e] at h; exact ⟨j, rfl, by simpa using h⟩
theorem RepL.atI {vs : List V} {ds : List D} {i : Int} {d : D} (r : RepL K W vs ds) (h : atI ds i = some d) : ∃ v, L2.atI vs i = some v ∧ Rep K W v d := by
  obtain ⟨j, h1, h2⟩ := atI_some h
  obtain ⟨v, h3, h4⟩ := r.get h2
  refine ⟨v, ?_, h4⟩
  unfold L2.atI
  rw [r.length, h1]; exact h3
theorem ix_sem (s : Sub W H) (hx : Rep K W x dx) (hy : Rep K W y dy) {d : D} (e : ixD dx dy = some d) (q : ∀ v, Rep K W v d → Q v H) : rIxA K x y H Q := by
  have ll := lim_line
  cases hx <;> try (simp only [ixD] at e; cases e; done)
  · rename_i z hz
    cases hy <;> simp only [ixD] at e <;> try (cases e; done)
    obtain ⟨c, hc, rfl⟩ := Option.map_eq_some_iff.mp e
    exact .inr (.inr (.inl ⟨_, _, c, rfl, rfl, Nat.le_trans hz ll, hc, q _ (.str _ (by show 1 ≤ LIM; decide))⟩))
  · rename_i a vs ds h l r
    cases hy <;> simp only [ixD] at e <;> try (cases e; done)
    obtain ⟨v, h1, h2⟩ := r.atI e
    exact .inl ⟨_, _, _, v, rfl, rfl, .of (s _ _ h), h1, q v h2⟩
  · rename_i a vs ds h r
    cases hy <;> simp only [ixD] at e <;> try (cases e; done)
    obtain ⟨v, h1, h2⟩ := r.atI e
    exact .inr (.inl ⟨_, _, _, v, rfl, rfl, .of (s _ _ h), h1, q v h2⟩)
  · rename_i a vs ds h r
    cases hy <;> simp only [ixD] at e <;> try (cases e; done)
    obtain ⟨v, h1, h2⟩ := r.atI e
    exact .inr (.inl ⟨_, _, _, v, rfl, rfl, same_sqt s h, h1, q v h2⟩)
  · rename_i a ns h l
    cases hy <;> simp only [ixD] at e <;> try (cases e; done)
    obtain ⟨n, h1, rfl⟩ := Option.map_eq_some_iff.mp e
    obtain ⟨j, h2, h3⟩ := atI_some h1
    refine .inl ⟨_, _, _, .int n, rfl, rfl, s.seq h, ?_, q _ (.int n)⟩
    unfold L2.atI
    rw [List.length_map, h2]
    simp [h3]
  · rename_i a ks xs ds h e1 l r
    have e' : dy.key.bind (fun k => lookK ks ds k) = some d := by cases hy <;> exact e
    obtain ⟨k, hk, h1⟩ := Option.bind_eq_some_iff.mp e'
    obtain ⟨o, g, z⟩ := key_get s h e1 r (rep_key hy hk)
    rcases z with ⟨v, d', rfl, e2, e3⟩ | ⟨rfl, e2⟩
    · rw [h1] at e2; cases e2
      exact .inr (.inr (.inr ⟨a, v, rfl, g, q v e3⟩))
    · rw [h1] at e2; cases e2
  · rename_i a ks xs ds h e1 l r
    have e' : dy.keyL.bind (fun k => lookK ks ds k) = some d := by cases hy <;> exact e
    obtain ⟨k, hk, h1⟩ := Option.bind_eq_some_iff.mp e'
    obtain ⟨o, g, z⟩ := keyT_get s h e1 r hy hk
    rcases z with ⟨v, d', rfl, e2, e3⟩ | ⟨rfl, e2⟩
    · rw [h1] at e2; cases e2
      exact .inr (.inr (.inr ⟨a, v, rfl, g, q v e3⟩))
    · rw [h1] at e2; cases e2
end

/-! ### slices -/
def cutL {α : Type} (xs : List α) (lo hi : Option Int) : List α := (xs.drop (HT.sIx xs.length 0 lo)).take (HT.sIx xs.length xs.length hi - HT.sIx xs.length 0 lo)
def slD (x : D) (lo hi : Option Int) : Option R :=
  match x with
  | .lst ds => some (.fl (cutL ds lo hi))
  | .scr ns => some (.fl ((cutL ns lo hi).map D.int))
  | .tup ds => if HT.sIx ds.length 0 lo = 0 ∧ HT.sIx ds.length ds.length hi = ds.length then none else some (.sh (.tup (cutL ds lo hi)))
  | .str z => if (cutS z lo hi).length ≤ LIM then some (.sh (.str (cutS z lo hi))) else none
  | _ => none
abbrev rSlA (K : PySem.W.Frag) : V → Option Int → Option Int → Hp → VK → Prop := fun x lo hi H Q => rSlL K x lo hi H Q ∨ rSlT K x lo hi H Q ∨ rSlS x lo hi H Q
theorem sl_ok {X : Cx} : SlR X (rSlA X.K) := sl_list.or (sl_tup.or sl_str)
theorem RepL.cut {K : PySem.W.Frag} {W : Hp} {vs : List V} {ds : List D} (r : RepL K W vs ds) (lo hi : Option Int) : RepL K W (cutV vs lo hi) (cutL ds lo hi) := by
  unfold cutV cutL
  rw [r.length]
  exact (r.drop _).take _
theorem cutL_length {α : Type} (xs : List α) (lo hi : Option Int) : (cutL xs lo hi).length ≤ xs.length := by
  unfold cutL
  rw [List.length_take, List.length_drop]; omega
theorem cutV_map (ns : List Int) (lo hi : Option Int) : cutV (ns.map V.int) lo hi = (cutL ns lo hi).map V.int := by
  unfold cutV cutL
  rw [List.length_map, List.map_take, List.map_drop]
theorem sl_sem {K : PySem.W.Frag} {W H : Hp} {x : V} {dx : D} {Q : VK} {r : R} (s : Sub W H) (hx : Rep K W x dx) {lo hi : Option Int} (e : slD dx lo hi = some r) (w : Want K W H r Q) : rSlA K x lo hi H Q := by
  have ll := lim_line
  cases hx <;> simp only [slD] at e <;> try (cases e; done)
  · rename_i z hz
    split at e <;> cases e
    rename_i g
    exact .inr (.inr ⟨z, rfl, Nat.le_trans hz ll, w.sh s (.str _ g)⟩)
  · rename_i a vs ds h l r
    cases e
    exact .inl ⟨a, vs, rfl, .of (s _ _ h), fun p hp => w.fl s hp (Nat.le_trans (cutL_length _ _ _) l) (r.cut lo hi)⟩
  · rename_i a vs ds h r
    split at e <;> cases e
    rename_i g
    exact .inr (.inl ⟨a, vs, rfl, .of (s _ _ h), by rw [r.length]; exact g, fun p hp => w.tup s hp (r.cut lo hi)⟩)
  · rename_i a ns h l
    cases e
    refine .inl ⟨a, _, rfl, s.seq h, fun p hp => ?_⟩
    rw [cutV_map]
    exact w.fl s hp (by rw [List.length_map]; exact Nat.le_trans (cutL_length _ _ _) l) (RepL.ints _)
end KP
/-! KPd: built-in functions and methods over data. -/
namespace KP
open PySem L2

/-- a list of data as ints -/
def D.int? : D → Option Int
  | .int i => some i
  | _ => none
def ints? : List D → Option (List Int)
  | [] => some []
  | .int i :: r => (ints? r).map (i :: ·)
  | _ :: _ => none
theorem ints?_ints : ∀ ns : List Int, ints? (ns.map D.int) = some ns
  | [] => rfl
  | n :: ns => by simp [ints?, ints?_ints ns]
theorem ints?_some : ∀ {ds : List D} {ns : List Int}, ints? ds = some ns → ds = ns.map D.int
  | [], _, h => by simp [ints?] at h; subst h; rfl
  | d :: ds, ns, h => by
    cases d <;> simp [ints?] at h
    obtain ⟨ms, h1, rfl⟩ := h
    rw [ints?_some h1, List.map_cons]
def bools? : List D → Option (List Bool)
  | [] => some []
  | .bl i :: r => (bools? r).map (i :: ·)
  | _ :: _ => none
theorem bools?_bools : ∀ ns : List Bool, bools? (ns.map D.bl) = some ns
  | [] => rfl
  | n :: ns => by simp [bools?, bools?_bools ns]
theorem bools?_some : ∀ {ds : List D} {ns : List Bool}, bools? ds = some ns → ds = ns.map D.bl
  | [], _, h => by simp [bools?] at h; subst h; rfl
  | d :: ds, ns, h => by
    cases d <;> simp [bools?] at h
    obtain ⟨ms, h1, rfl⟩ := h
    rw [bools?_some h1, List.map_cons]
def pairs? : List D → Option (List (Int × Int))
  | [] => some []
  | .tup [.int a, .int b] :: r => (pairs? r).map ((a, b) :: ·)
  | _ :: _ => none
def pairD (p : Int × Int) : D := .tup [.int p.1, .int p.2]
theorem pairs?_pairs : ∀ ns : List (Int × Int), pairs? (ns.map pairD) = some ns
  | [] => rfl
  | (a, b) :: ns => by simp [pairs?, pairD, pairs?_pairs ns]
theorem pairs?_some : ∀ {ds : List D} {ns : List (Int × Int)}, pairs? ds = some ns → ds = ns.map pairD
  | [], _, h => by simp [pairs?] at h; subst h; rfl
  | d :: ds, ns, h => by
    unfold pairs? at h
    split at h
    · rename_i e; cases e
    · rename_i a b r e
      cases e
      obtain ⟨ms, h1, rfl⟩ := Option.map_eq_some_iff.mp h
      rw [pairs?_some h1, List.map_cons]; rfl
    · cases h
/-- sorted ints, sorted pairs -/
def isort (ns : List Int) : List Int := ns.mergeSort fun a b => decide (a ≤ b)
def pLe (p q : Int × Int) : Bool := decide (p.1 < q.1) || (decide (p.1 = q.1) && decide (p.2 ≤ q.2))
def psort (ps : List (Int × Int)) : List (Int × Int) := ps.mergeSort pLe
theorem isort_perm (ns : List Int) : (isort ns).Perm ns := List.mergeSort_perm ..
theorem isort_pairwise (ns : List Int) : (isort ns).Pairwise (· ≤ ·) := by
  have h := List.pairwise_mergeSort (le := fun a b : Int => decide (a ≤ b)) (fun a b c h1 h2 => by simp at h1 h2 ⊢; omega) (fun a b => by simp; omega) ns
  exact h.imp fun h => by simpa using h
theorem isort_unique {ns ms : List Int} (h : ms.Perm ns) (p : ms.Pairwise (· ≤ ·)) : ms = isort ns :=
  List.Perm.eq_of_pairwise (fun a b _ _ h1 h2 => Int.le_antisymm h1 h2) p (isort_pairwise ns) (h.trans (isort_perm ns).symm)
theorem pLe_anti {p q : Int × Int} (h : pLe p q = true) (g : pLe q p = true) : p = q := by
  obtain ⟨a, b⟩ := p; obtain ⟨c, d⟩ := q
  simp [pLe] at h g
  have : a = c ∧ b = d := by omega
  rw [this.1, this.2]
theorem pLe_trans {p q r : Int × Int} (h : pLe p q = true) (g : pLe q r = true) : pLe p r = true := by
  simp [pLe] at *; omega
theorem psort_perm (ns : List (Int × Int)) : (psort ns).Perm ns := List.mergeSort_perm ..
theorem psort_pairwise (ns : List (Int × Int)) : (psort ns).Pairwise fun a b => pLe a b = true :=
  List.pairwise_mergeSort (le := pLe) (fun a b c h1 h2 => pLe_trans h1 h2) (fun a b => by obtain ⟨a1, a2⟩ := a; obtain ⟨b1, b2⟩ := b; simp [pLe]; omega) ns
theorem psort_unique {ns ms : List (Int × Int)} (h : ms.Perm ns) (p : ms.Pairwise fun a b => pLe a b = true) : ms = psort ns :=
  List.Perm.eq_of_pairwise (fun a b _ _ h1 h2 => pLe_anti h1 h2) p (psort_pairwise ns) (h.trans (psort_perm ns).symm)
/-- greatest, least -/
def maxI : List Int → Int
  | [] => 0
  | [a] => a
  | a :: b :: r => if maxI (b :: r) ≤ a then a else maxI (b :: r)
def minI : List Int → Int
  | [] => 0
  | [a] => a
  | a :: b :: r => if a ≤ minI (b :: r) then a else minI (b :: r)
theorem maxI_spec : ∀ {ns : List Int}, ns ≠ [] → maxI ns ∈ ns ∧ ∀ y ∈ ns, y ≤ maxI ns
  | [a], _ => by simp [maxI]
  | a :: b :: r, _ => by
    obtain ⟨h1, h2⟩ := maxI_spec (ns := b :: r) (by simp)
    unfold maxI
    split
    · rename_i h
      refine ⟨List.mem_cons_self, fun y hy => ?_⟩
      rcases List.mem_cons.mp hy with e | e
      · omega
      · have := h2 y e; omega
    · rename_i h
      refine ⟨List.mem_cons_of_mem _ h1, fun y hy => ?_⟩
      rcases List.mem_cons.mp hy with e | e
      · omega
      · exact h2 y e
theorem minI_spec : ∀ {ns : List Int}, ns ≠ [] → minI ns ∈ ns ∧ ∀ y ∈ ns, minI ns ≤ y
  | [a], _ => by simp [minI]
  | a :: b :: r, _ => by
    obtain ⟨h1, h2⟩ := minI_spec (ns := b :: r) (by simp)
    unfold minI
    split
    · rename_i h
      refine ⟨List.mem_cons_self, fun y hy => ?_⟩
      rcases List.mem_cons.mp hy with e | e
      · omega
      · have := h2 y e; omega
    · rename_i h
      refine ⟨List.mem_cons_of_mem _ h1, fun y hy => ?_⟩
      rcases List.mem_cons.mp hy with e | e
      · omega
      · exact h2 y e
theorem maxI_unique {ns : List Int} {m : Int} (h : m ∈ ns) (g : ∀ y ∈ ns, y ≤ m) : m = maxI ns := by
  have hne : ns ≠ [] := fun e => by subst e; cases h
  obtain ⟨h1, h2⟩ := maxI_spec hne
  have := g _ h1; have := h2 _ h; omega
theorem minI_unique {ns : List Int} {m : Int} (h : m ∈ ns) (g : ∀ y ∈ ns, m ≤ y) : m = minI ns := by
  have hne : ns ≠ [] := fun e => by subst e; cases h
  obtain ⟨h1, h2⟩ := minI_spec hne
  have := g _ h1; have := h2 _ h; omega

/-! ### built-in functions called by their names -/
inductive Bi where
  | len | int | max | min | sum | sorted | list | tuple | str | all
  deriving DecidableEq
def Bi.name : Bi → Str
  | .len => "len" | .int => "int" | .max => "max" | .min => "min" | .sum => "sum" | .sorted => "sorted" | .list => "list" | .tuple => "tuple" | .str => "str" | .all => "all"
def Bi.val : Bi → Value
  | .len => .builtin "len" | .int => .type "int" | .max => .builtin "max" | .min => .builtin "min" | .sum => .builtin "sum" | .sorted => .builtin "sorted" | .list => .type "list" | .tuple => .type "tuple" | .str => .type "str" | .all => .builtin "all"
def biD (b : Bi) (xs : List D) : Option R :=
  match b, xs with
  | .len, [.lst ds] => some (.sh (.int (ds.length : Int)))
  | .len, [.tup ds] => some (.sh (.int (ds.length : Int)))
  | .len, [.scr ds] => some (.sh (.int (ds.length : Int)))
  | .len, [.str s] => some (.sh (.int (s.length : Int)))
  | .len, [.dK ks _] => some (.sh (.int (ks.length : Int)))
  | .len, [.dT ks _] => some (.sh (.int (ks.length : Int)))
  | .int, [.int i] => some (.sh (.int i))
  | .int, [.bl b] => some (.sh (.int (if b then 1 else 0)))
  | .max, [.lst ds] => (ints? ds).bind fun ns => if ns = [] then none else some (.sh (.int (maxI ns)))
  | .max, [.int i, .int j] => some (.sh (.int (if j > i then j else i)))
  | .min, [.lst ds] => (ints? ds).bind fun ns => if ns = [] then none else some (.sh (.int (minI ns)))
  | .min, [.int i, .int j] => some (.sh (.int (if j < i then j else i)))
  | .sum, [.lst ds] => (ints? ds).map fun ns => .sh (.int ns.sum)
  | .sorted, [.lst ds] => match ints? ds with
    | some ns => some (.fl ((isort ns).map D.int))
    | none => (pairs? ds).map fun ps => .fl ((psort ps).map pairD)
  | .list, [.lst ds] => some (.fl ds)
  | .list, [.tup ds] => if ds.length ≤ LIM then some (.fl ds) else none
  | .list, [.scr ns] => some (.fl (ns.map D.int))
  | .tuple, [.lst ds] => some (.sh (.tup ds))
  | .tuple, [.tup ds] => some (.sh (.tup ds))
  | .str, [.int i] => if i.natAbs.log2 < 1920 ∧ (toString i : Str).length ≤ LIM then some (.sh (.str (toString i))) else none
  | .all, [.lst ds] => (bools? ds).map fun bs => .sh (.bl (bs.all id))
  | _, _ => none
abbrev rLenD : List V → Hp → VK → Prop := fun xs H Q => ∃ p n, xs = [.ref p] ∧ ((∃ kvs, Rd H p (.dK kvs) ∧ n = kvs.length) ∨ ∃ kvs, Rd H p (.dT kvs) ∧ n = kvs.length) ∧ Q (.int (n : Nat)) H
abbrev rListA (K : PySem.W.Frag) : List V → Hp → VK → Prop := fun xs H Q => (∃ p ys, xs = [.ref p] ∧ (SqL K H p ys ∨ SqT K H p ys) ∧ ∀ l, H l = none → Q (.ref l) (upd H l (.lst ys))) ∨ rListD xs H Q
abbrev rTupA (K : PySem.W.Frag) : List V → Hp → VK → Prop := fun xs H Q => ∃ p ys, xs = [.ref p] ∧ ((SqL K H p ys ∧ ∀ l, H l = none → Q (.ref l) (upd H l (.tup ys))) ∨ (SqT K H p ys ∧ Q (.ref p) H))
def rBi (K : PySem.W.Frag) : Bi → List V → Hp → VK → Prop
  | .len => fun xs H Q => (∃ x n, xs = [x] ∧ LenV K x H n ∧ Q (.int n) H) ∨ rLenD xs H Q
  | .int => fun xs H Q => (∃ i, xs = [.int i] ∧ Q (.int i) H) ∨ ∃ k, xs = [.bl k] ∧ Q (.int (if k then 1 else 0)) H
  | .max => fun xs H Q => (∃ i j, xs = [.int i, .int j] ∧ Q (.int (if j > i then j else i)) H) ∨ rMax K xs H Q
  | .min => fun xs H Q => (∃ i j, xs = [.int i, .int j] ∧ Q (.int (if j < i then j else i)) H) ∨ rMin K xs H Q
  | .sum => rSum K
  | .sorted => fun xs H Q => rSortedI K xs H Q ∨ rSortedPO K xs H Q
  | .list => rListA K
  | .tuple => rTupA K
  | .str => fun xs H Q => ∃ i, xs = [.int i] ∧ i.natAbs.log2 < 1920 ∧ Q (.str (toString i)) H
  | .all => rAll K
section
variable {X : Cx}
theorem call_lenAny : CallR X (.builtin "len") rLenD := by
  intro pins s σ H xs us Q I r h
  obtain ⟨p, n, rfl, hk, q⟩ := h
  obtain ⟨u, rfl, rx⟩ := vals1 r
  cases (show u = Value.ref p from rx)
  rcases hk with ⟨kvs, e, rfl⟩ | ⟨kvs, e, rfl⟩
  · exact d_len I e fun t s' I' => ⟨.int kvs.length, H, I', ⟨t, rfl⟩, q⟩
  · obtain ⟨z, hd, xs, rel, dd⟩ := dt_rd I.hok e
    have hn : kvs.length = xs.length := Paired.length rel
    refine call_len_dictH hd dd (by rw [← hn]; rw [sizeLine_eq] at z; omega) ?_
    rw [← hn]
    exact ⟨.int ((kvs.length : Nat) : Int), H, I.tok _, ⟨_, rfl⟩, q⟩
theorem bi_ok (hc : X.calm = true) : ∀ b : Bi, CallR X b.val (rBi X.K b)
  | .len => call_len.or call_lenAny
  | .int => call_int1
  | .max => (call_max2 hc).or (cr_max hc)
  | .min => (call_min2 hc).or (cr_min hc)
  | .sum => cr_sum hc
  | .sorted => cr_sortedI.or cr_sortedPO
  | .list => call_list_of.or (call_list_dK hc)
  | .tuple => call_tuple_of
  | .str => call_str_int
  | .all => cr_all hc
end
section
variable {K : PySem.W.Frag} {W H : Hp} {Q : VK}
theorem RepL.of_bools : ∀ {vs : List V} {ns : List Bool}, RepL K W vs (ns.map D.bl) → vs = ns.map V.bl
  | _, [], .nil => rfl
  | _, n :: ns, .cons h r => by cases h; rw [RepL.of_bools r, List.map_cons]
theorem RepL.keys : ∀ {ks : List Key}, (∀ k ∈ ks, ∀ s, k = Sum.inr s → s.length ≤ LIM) → RepL K W (ks.map kV) (ks.map keyD)
  | [], _ => .nil
  | .inl i :: ks, h => .cons (.int i) (RepL.keys fun k hk => h k (List.mem_cons_of_mem _ hk))
  | .inr s :: ks, h => .cons (.str s (h _ List.mem_cons_self s rfl)) (RepL.keys fun k hk => h k (List.mem_cons_of_mem _ hk))
/-- the pair that stands at a value -/
def pairAt (H : Hp) (v : V) : Int × Int :=
  match v with
  | .ref t => match H t with
    | some (.tup [.int a, .int b]) => (a, b)
    | _ => (0, 0)
  | _ => (0, 0)
theorem pair_at (s : Sub W H) : ∀ {vs : List V} {ps : List (Int × Int)}, RepL K W vs (ps.map pairD) → (∀ x ∈ vs, ∃ t, x = V.ref t ∧ W t = some (.tup [.int (pairAt H x).1, .int (pairAt H x).2])) ∧ vs.map (pairAt H) = ps
  | _, [], .nil => ⟨fun x h => (by cases h), rfl⟩
  | _, p :: ps, .cons (v := v) h r => by
    obtain ⟨h1, h2⟩ := pair_at s r
    have hp : ∃ t, v = .ref t ∧ W t = some (.tup [.int p.1, .int p.2]) := by
      cases h with
      | tup ht rt =>
        cases rt with
        | cons r1 rt =>
          cases rt with
          | cons r2 rt =>
            cases rt; cases r1; cases r2
            exact ⟨_, rfl, ht⟩
    obtain ⟨t, rfl, ht⟩ := hp
    have e : pairAt H (.ref t) = p := by
      simp [pairAt, s _ _ ht]
    refine ⟨fun x hx => ?_, by rw [List.map_cons, e, h2]⟩
    rcases List.mem_cons.mp hx with rfl | hx
    · exact ⟨t, rfl, by rw [e]; exact ht⟩
    · exact h1 x hx
theorem repL_pairs {f : V → Int × Int} : ∀ {vs : List V}, (∀ x ∈ vs, ∃ t, x = V.ref t ∧ W t = some (.tup [.int (f x).1, .int (f x).2])) → RepL K W vs ((vs.map f).map pairD)
  | [], _ => .nil
  | v :: vs, h => by
    obtain ⟨t, rfl, ht⟩ := h v List.mem_cons_self
    exact .cons (.tup ht (.cons (.int _) (.cons (.int _) .nil))) (repL_pairs fun x hx => h x (List.mem_cons_of_mem _ hx))
theorem repL_one {vs : List V} {d : D} (r : RepL K W vs [d]) : ∃ v, vs = [v] ∧ Rep K W v d := by
  cases r with
  | cons h rr => cases rr; exact ⟨_, rfl, h⟩
theorem repL_two {vs : List V} {d e : D} (r : RepL K W vs [d, e]) : ∃ v u, vs = [v, u] ∧ Rep K W v d ∧ Rep K W u e := by
  cases r with
  | cons h rr => cases rr with
    | cons h2 rr => cases rr; exact ⟨_, _, rfl, h, h2⟩
theorem zip_keys {κ : Type} {ks : List κ} {xs : List V} (e : ks.length = xs.length) : (ks.zip xs).map (·.1) = ks := by
  rw [List.map_fst_zip]; omega
theorem bi_sem (s : Sub W H) {b : Bi} {vs : List V} {ds : List D} {r : R} (hv : RepL K W vs ds) (e : biD b ds = some r) (w : Want K W H r Q) : rBi K b vs H Q := by
  have ll := lim_line
  unfold biD at e
  split at e
  · cases e
    obtain ⟨v, rfl, h⟩ := repL_one hv
    cases h with | lst ha l rr =>
    exact .inl ⟨_, _, rfl, .inl ⟨_, .of (s _ _ ha), rr.length.symm⟩, w.sh s (.int _)⟩
  · cases e
    obtain ⟨v, rfl, h⟩ := repL_one hv
    cases h with | tup ha rr =>
    exact .inl ⟨_, _, rfl, .inr ⟨_, .of (s _ _ ha), rr.length.symm⟩, w.sh s (.int _)⟩
  · cases e
    obtain ⟨v, rfl, h⟩ := repL_one hv
    cases h with | scr ha l =>
    refine .inl ⟨_, _, rfl, .inl ⟨_, s.seq ha, rfl⟩, ?_⟩
    rw [List.length_map]; exact w.sh s (.int _)
  · cases e
    obtain ⟨v, rfl, h⟩ := repL_one hv
    cases h with | str _ l =>
    exact .inl ⟨_, _, rfl, ⟨Nat.le_trans l ll, rfl⟩, w.sh s (.int _)⟩
  · cases e
    obtain ⟨v, rfl, h⟩ := repL_one hv
    cases h with | dK ha e1 l rr =>
    refine .inr ⟨_, _, rfl, .inl ⟨_, same_rd s ha, rfl⟩, ?_⟩
    rw [List.length_zip, ← e1, Nat.min_self]; exact w.sh s (.int _)
  · cases e
    obtain ⟨v, rfl, h⟩ := repL_one hv
    cases h with | dT ha e1 l rr =>
    refine .inr ⟨_, _, rfl, .inr ⟨_, same_rd s ha, rfl⟩, ?_⟩
    rw [List.length_zip, ← e1, Nat.min_self]; exact w.sh s (.int _)
  · cases e
    obtain ⟨v, rfl, h⟩ := repL_one hv
    cases h
    exact .inl ⟨_, rfl, w.sh s (.int _)⟩
  · cases e
    obtain ⟨v, rfl, h⟩ := repL_one hv
    cases h
    exact .inr ⟨_, rfl, w.sh s (.int _)⟩
  · obtain ⟨ns, h1, h2⟩ := Option.bind_eq_some_iff.mp e
    split at h2 <;> cases h2
    rename_i hne
    obtain ⟨v, rfl, h⟩ := repL_one hv
    have := ints?_some h1; subst this
    cases h with | lst ha l rr =>
    have := rr.of_ints; subst this
    refine .inr ⟨_, ns, rfl, .of (s _ _ ha), by cases ns <;> simp at hne ⊢, fun m hm g => ?_⟩
    rw [maxI_unique hm g]; exact w.sh s (.int _)
  · cases e
    obtain ⟨v, u, rfl, h, g⟩ := repL_two hv
    cases h; cases g
    exact .inl ⟨_, _, rfl, w.sh s (.int _)⟩
  · obtain ⟨ns, h1, h2⟩ := Option.bind_eq_some_iff.mp e
    split at h2 <;> cases h2
    rename_i hne
    obtain ⟨v, rfl, h⟩ := repL_one hv
    have := ints?_some h1; subst this
    cases h with | lst ha l rr =>
    have := rr.of_ints; subst this
    refine .inr ⟨_, ns, rfl, .of (s _ _ ha), by cases ns <;> simp at hne ⊢, fun m hm g => ?_⟩
    rw [minI_unique hm g]; exact w.sh s (.int _)
  · cases e
    obtain ⟨v, u, rfl, h, g⟩ := repL_two hv
    cases h; cases g
    exact .inl ⟨_, _, rfl, w.sh s (.int _)⟩
  · obtain ⟨ns, h1, rfl⟩ := Option.map_eq_some_iff.mp e
    obtain ⟨v, rfl, h⟩ := repL_one hv
    have := ints?_some h1; subst this
    cases h with | lst ha l rr =>
    have := rr.of_ints; subst this
    exact ⟨_, ns, rfl, .of (s _ _ ha), w.sh s (.int _)⟩
  · obtain ⟨v, rfl, h⟩ := repL_one hv
    split at e
    · rename_i ns h1
      cases e
      have := ints?_some h1; subst this
      cases h with | lst ha l rr =>
      have := rr.of_ints; subst this
      refine .inl ⟨_, ns, rfl, .of (s _ _ ha), fun ms p hp hs hn => ?_⟩
      rw [isort_unique hp hs]
      exact w.fl s hn (by rw [List.length_map, (isort_perm ns).length_eq]; simpa using l) (RepL.ints _)
    · obtain ⟨ps, h1, rfl⟩ := Option.map_eq_some_iff.mp e
      have := pairs?_some h1; subst this
      cases h with | lst ha l rr =>
      obtain ⟨h2, h3⟩ := pair_at s rr
      refine .inr ⟨_, _, pairAt H, rfl, .of (s _ _ ha), fun x hx => ?_, fun ys p hs hst hn => ?_⟩
      · obtain ⟨t, e1, e2⟩ := h2 x hx
        exact ⟨t, e1, s _ _ e2⟩
      · have hy : ∀ x ∈ ys, ∃ t, x = V.ref t ∧ W t = some (.tup [.int (pairAt H x).1, .int (pairAt H x).2]) := fun x hx => h2 x (hst.perm.mem_iff.mp hx)
        have hp : (ys.map (pairAt H)).Perm ps := by rw [← h3]; exact hst.perm.map _
        have hq : (ys.map (pairAt H)).Pairwise fun a b => pLe a b = true := by
          rw [List.pairwise_map]
          refine hs.imp fun {a b} q => ?_
          have q2 := SrtO.lexB_no.mp q
          simp only [pLe, Bool.or_eq_true, Bool.and_eq_true, decide_eq_true_eq]; omega
        have eq := psort_unique hp hq
        have rr2 := repL_pairs (K := K) hy
        rw [eq] at rr2
        exact w.fl s hn (by rw [List.length_map, (psort_perm ps).length_eq]; simpa using l) rr2
  · cases e
    obtain ⟨v, rfl, h⟩ := repL_one hv
    cases h with | lst ha l rr =>
    exact .inl ⟨_, _, rfl, .inl (.of (s _ _ ha)), fun p hp => w.fl s hp l rr⟩
  · split at e <;> cases e
    rename_i l
    obtain ⟨v, rfl, h⟩ := repL_one hv
    cases h with | tup ha rr =>
    exact .inl ⟨_, _, rfl, .inr (.of (s _ _ ha)), fun p hp => w.fl s hp l rr⟩
  · cases e
    obtain ⟨v, rfl, h⟩ := repL_one hv
    cases h with | scr ha l =>
    exact .inl ⟨_, _, rfl, .inl (s.seq ha), fun p hp => w.fl s hp (by rw [List.length_map]; exact l) (RepL.ints _)⟩
  · cases e
    obtain ⟨v, rfl, h⟩ := repL_one hv
    cases h with | lst ha l rr =>
    exact ⟨_, _, rfl, .inl ⟨.of (s _ _ ha), fun p hp => w.tup s hp rr⟩⟩
  · cases e
    obtain ⟨v, rfl, h⟩ := repL_one hv
    cases h with | tup ha rr =>
    exact ⟨_, _, rfl, .inr ⟨.of (s _ _ ha), w.sh s (.tup ha rr)⟩⟩
  · split at e <;> cases e
    rename_i g
    obtain ⟨v, rfl, h⟩ := repL_one hv
    cases h
    exact ⟨_, rfl, g.1, w.sh s (.str _ g.2)⟩
  · obtain ⟨ns, h1, rfl⟩ := Option.map_eq_some_iff.mp e
    obtain ⟨v, rfl, h⟩ := repL_one hv
    have := bools?_some h1; subst this
    cases h with | lst ha l rr =>
    have := rr.of_bools; subst this
    exact ⟨_, ns, rfl, .of (s _ _ ha), w.sh s (.bl _)⟩
  · cases e
end
end KP
/-! KPe: the form of expressions, its evaluator over data, its checker against the syntax. -/
namespace KP
open PySem L2

/-- written constants -/
inductive C where
  | non | bl (b : Bool) | int (i : Int) | str (s : Str)
def C.d : C → D
  | .non => .non | .bl b => .bl b | .int i => .int i | .str s => .str s
/-- each int once, at its first place -/
def dedupI (ns : List Int) : List Int := ns.foldl (fun acc v => if acc.any (· == v) then acc else acc ++ [v]) []
/-- methods of built-in types -/
inductive Me where
  | index | count | get1 | get2 | bitlen
  deriving DecidableEq
def Me.name : Me → Str
  | .index => "index" | .count => "count" | .get1 => "get" | .get2 => "get" | .bitlen => "bit_length"
/-- classes in isinstance -/
inductive Ty where
  | int | bool | str | list | tuple
  deriving DecidableEq
def Ty.name : Ty → String
  | .int => "int" | .bool => "bool" | .str => "str" | .list => "list" | .tuple => "tuple"
/-! targets: names, tuples of targets -/
mutual
inductive Tg where
  | nm (i : Nat) | tp (ts : Tgs)
inductive Tgs where
  | nil | cons (t : Tg) (ts : Tgs)
end
mutual
def Tg.ids : Tg → List Nat
  | .nm i => [i]
  | .tp ts => ts.ids
def Tgs.ids : Tgs → List Nat
  | .nil => []
  | .cons t ts => t.ids ++ ts.ids
end
mutual
inductive E where
  | k (c : C) | v (i : Nat) | g (j : Nat)
  | b2 (o : O2) (a b : E) | neg (a : E) | c2 (o : C2) (a b : E) | ch (o o' : C2) (a b c : E)
  | nt (a : E) | an (es : Es) | or (es : Es) | ife (c a b : E)
  | tup (es : Es) | lst (es : Es) | ix (a b : E) | sl (a : E) (lo hi : Eo)
  | bi (f : Bi) (es : Es) | isi (a : E) (t : Ty) | isT (a : E) (t u : Ty) | lenset (a : E) | ss (a : E) | sk (a : E) (j : Nat)
  | lr1 (a : E) | lr2 (a b : E)
  | me (m : Me) (a : E) (es : Es)
  | ca (j : Nat) (es : Es) | ck (j : Nat) (es : Es)
  | co (tg : Tg) (it : It) (c : Eo) (e : E)
  | rev (a : E) | cat (a : E)
inductive Es where
  | nil | cons (e : E) (es : Es)
inductive Eo where
  | no | so (e : E)
inductive It where
  | sq (e : E) | r1 (a : E) | r2 (a b : E) | rd (a b : E) | en (e : E)
end

/-! ### the evaluator -/
/-- the key (-row.count(thing), thing) -/
def cntKey (row : List Int) (n : Int) : Int × Int := (-(row.count n : Int), n)
def pairLe (key : Int → Int × Int) (m n : Int) : Bool := decide ((key m).1 < (key n).1) || (decide ((key m).1 = (key n).1) && decide ((key m).2 ≤ (key n).2))
abbrev PFn := List D → Option R
/-- what the evaluator knows: callees, constants -/
structure Cs where
  fs : List PFn
  ks : List (List Nat × PFn)
  cs : List D
def asB : R → Option Bool
  | .sh (.bl b) => some b
  | _ => none
mutual
/-- the target of a for -/
def bindT : Tg → D → Sg → Option Sg
  | .nm i, d, ρ => some (ρ.set i (some d))
  | .tp ts, .tup ds, ρ => bindTs ts ds ρ
  | .tp ts, .lst ds, ρ => bindTs ts ds ρ
  | .tp _, _, _ => none
def bindTs : Tgs → List D → Sg → Option Sg
  | .nil, [], ρ => some ρ
  | .cons t ts, d :: ds, ρ => (bindT t d ρ).bind fun ρ' => bindTs ts ds ρ'
  | _, _, _ => none
end
/-- a comprehension over items -/
def compL (c : D → Option Bool) (f : D → Option D) : List D → Option (List D)
  | [] => some []
  | x :: xs => (c x).bind fun b => if b then (f x).bind fun y => (compL c f xs).map (y :: ·) else compL c f xs
def tyD (d : D) : Option Ty :=
  match d with
  | .bl _ => some .bool | .int _ => some .int | .str _ => some .str | .lst _ => some .list | .tup _ => some .tuple | _ => none
/-- isinstance -/
def isiD (d : D) (t : Ty) : Option Bool :=
  match d with
  | .non => some false
  | d => (tyD d).map fun u => decide (u = t) || (decide (u = .bool) && decide (t = .int))
def meIndex : D → List D → Option R
  | .lst ds, [y] => if y.ok && ds.all (D.okn 8) then (ds.findIdx? fun z => D.eqv z y).map fun (j : Nat) => R.sh (.int ((j : Nat) : Int)) else none
  | _, _ => none
def meCount : D → List D → Option R
  | .lst ds, [.int k] => (ints? ds).map fun ns => .sh (.int (ns.count k : Int))
  | _, _ => none
def meGet1 : D → List D → Option R
  | .dK ks vs, [d] => d.key.map fun k => .sh ((lookK ks vs k).getD .non)
  | .dT ks vs, [d] => d.keyL.map fun k => .sh ((lookK ks vs k).getD .non)
  | _, _ => none
def meGet2 : D → List D → Option R
  | .dK ks vs, [d, z] => d.key.map fun k => .sh ((lookK ks vs k).getD z)
  | .dT ks vs, [d, z] => d.keyL.map fun k => .sh ((lookK ks vs k).getD z)
  | _, _ => none
def meBits : D → List D → Option R
  | .int i, [] => some (.sh (.int (Builtin.Int.intBits i : Nat)))
  | _, _ => none
def meD : Me → D → List D → Option R
  | .index => meIndex
  | .count => meCount
  | .get1 => meGet1
  | .get2 => meGet2
  | .bitlen => meBits
def lists? : List D → Option (List (List D))
  | [] => some []
  | .lst ds :: r => (lists? r).map (ds :: ·)
  | _ => none
def rangeD (a b : Int) : List D := (List.range (b - a).toNat).map fun i => .int (a + (i : Nat))
def downD (a b : Int) : List D := (List.range (a - b).toNat).map fun i => .int (a - (i : Nat))
def smallI (a : Int) : Bool := decide (-100000 ≤ a) && decide (a ≤ 100000)
def enumD (k : Nat) : List D → List D
  | [] => []
  | d :: ds => .tup [.int (k : Int), d] :: enumD (k + 1) ds
mutual
def evp (G : Cs) : E → Sg → Option R
  | .k c, _ => some (.sh c.d)
  | .v i, ρ => match ρ[i]? with
    | some (some d) => some (.sh d)
    | _ => none
  | .g j, _ => (G.cs[j]?).map R.sh
  | .b2 o a b, ρ => (evp G a ρ).bind fun x => (evp G b ρ).bind fun y => o2D o x.d y.d
  | .neg a, ρ => (evp G a ρ).bind fun x => match x.d with
    | .int i => some (.sh (.int (-i)))
    | _ => none
  | .c2 o a b, ρ => (evp G a ρ).bind fun x => (evp G b ρ).bind fun y => (c2D o x.d y.d).map fun r => .sh (.bl r)
  | .ch o o' a b c, ρ => (evp G a ρ).bind fun x => (evp G b ρ).bind fun y => (c2D o x.d y.d).bind fun r =>
      if r then (evp G c ρ).bind fun z => (c2D o' y.d z.d).map fun r => .sh (.bl r) else some (.sh (.bl false))
  | .nt a, ρ => ((evp G a ρ).bind asB).map fun b => .sh (.bl (!b))
  | .an es, ρ => (evAnd G es ρ).map fun b => .sh (.bl b)
  | .or es, ρ => (evOr G es ρ).map fun b => .sh (.bl b)
  | .ife c a b, ρ => ((evp G c ρ).bind asB).bind fun t => if t then evp G a ρ else evp G b ρ
  | .tup es, ρ => (evs G es ρ).bind fun ds => if ds.length ≤ LIM then some (.sh (.tup ds)) else none
  | .lst es, ρ => (evs G es ρ).bind fun ds => if ds.length ≤ LIM then some (.fl ds) else none
  | .ix a b, ρ => (evp G a ρ).bind fun x => (evp G b ρ).bind fun y => (ixD x.d y.d).map R.sh
  | .sl a lo hi, ρ => (evp G a ρ).bind fun x => (evo G lo ρ).bind fun l => (evo G hi ρ).bind fun h => slD x.d l h
  | .bi f es, ρ => (evs G es ρ).bind (biD f)
  | .isi a t, ρ => (evp G a ρ).bind fun x => (isiD x.d t).map fun b => .sh (.bl b)
  | .isT a t u, ρ => (evp G a ρ).bind fun x => (isiD x.d t).bind fun b => (isiD x.d u).map fun c => .sh (.bl (b || c))
  | .lenset a, ρ => (evp G a ρ).bind fun x => match x.d with
    | .lst ds => (ints? ds).bind fun ns => if ns.length ≤ 4000 then some (.sh (.int ((dedupI ns).length : Int))) else none
    | _ => none
  | .ss a, ρ => (evp G a ρ).bind fun x => match x.d with
    | .lst ds => (ints? ds).bind fun ns => if ns.length < 64 then some (.fl ((isort (dedupI ns)).map D.int)) else none
    | _ => none
  | .sk a j, ρ => (evp G a ρ).bind fun x => match x.d, ρ[j]? with
    | .lst ds, some (some (.lst es)) => (ints? ds).bind fun ns => (ints? es).bind fun row => if ns.length < 64 then some (.fl ((ns.mergeSort (pairLe (cntKey row))).map D.int)) else none
    | _, _ => none
  | .lr1 a, ρ => (evp G a ρ).bind fun x => match x.d with
    | .int i => if smallI i then some (.fl (rangeD 0 i)) else none
    | _ => none
  | .lr2 a b, ρ => (evp G a ρ).bind fun x => (evp G b ρ).bind fun y => match x.d, y.d with
    | .int i, .int j => if smallI i && smallI j && decide ((j - i).toNat ≤ LIM) then some (.fl (rangeD i j)) else none
    | _, _ => none
  | .me m a es, ρ => (evp G a ρ).bind fun x => (evs G es ρ).bind fun ys => meD m x.d ys
  | .ca j es, ρ => (evs G es ρ).bind fun ds => match G.fs[j]? with
    | some f => f ds
    | none => none
  | .ck j es, ρ => (evs G es ρ).bind fun ds => match G.ks[j]? with
    | some (pm, f) => f (pm.map fun i => ds.getD i .non)
    | none => none
  | .co tg it c e, ρ => (evi G it ρ).bind fun ds =>
      (compL (fun d => (bindT tg d ρ).bind fun ρ' => evc G c ρ') (fun d => (bindT tg d ρ).bind fun ρ' => (evp G e ρ').map R.d) ds).map R.fl
  | .rev a, ρ => (evp G a ρ).bind fun x => match x.d with
    | .lst ds => some (.fl ds.reverse)
    | _ => none
  | .cat a, ρ => (evp G a ρ).bind fun x => match x.d with
    | .lst ds => (lists? ds).bind fun dss => if (dss.map List.length).sum ≤ LIM then some (.fl dss.flatten) else none
    | _ => none
def evs (G : Cs) : Es → Sg → Option (List D)
  | .nil, _ => some []
  | .cons e es, ρ => (evp G e ρ).bind fun x => (evs G es ρ).map fun xs => x.d :: xs
def evAnd (G : Cs) : Es → Sg → Option Bool
  | .nil, _ => some true
  | .cons e es, ρ => ((evp G e ρ).bind asB).bind fun b => if b then evAnd G es ρ else some false
def evOr (G : Cs) : Es → Sg → Option Bool
  | .nil, _ => some false
  | .cons e es, ρ => ((evp G e ρ).bind asB).bind fun b => if b then some true else evOr G es ρ
def evo (G : Cs) : Eo → Sg → Option (Option Int)
  | .no, _ => some none
  | .so e, ρ => (evp G e ρ).bind fun x => match x.d with
    | .int i => some (some i)
    | _ => none
/-- a comprehension's test -/
def evc (G : Cs) : Eo → Sg → Option Bool
  | .no, _ => some true
  | .so e, ρ => (evp G e ρ).bind asB
def evi (G : Cs) : It → Sg → Option (List D)
  | .sq e, ρ => (evp G e ρ).bind fun x => match x.d with
    | .lst ds => some ds
    | .tup ds => if ds.length ≤ LIM then some ds else none
    | .scr ns => some (ns.map D.int)
    | _ => none
  | .r1 a, ρ => (evp G a ρ).bind fun x => match x.d with
    | .int i => if smallI i then some (rangeD 0 i) else none
    | _ => none
  | .r2 a b, ρ => (evp G a ρ).bind fun x => (evp G b ρ).bind fun y => match x.d, y.d with
    | .int i, .int j => if smallI i && smallI j && decide ((j - i).toNat ≤ LIM) then some (rangeD i j) else none
    | _, _ => none
  | .rd a b, ρ => (evp G a ρ).bind fun x => (evp G b ρ).bind fun y => match x.d, y.d with
    | .int i, .int j => if smallI i && smallI j && decide ((i - j).toNat ≤ LIM) then some (downD i j) else none
    | _, _ => none
  | .en e, ρ => (evp G e ρ).bind fun x => match x.d with
    | .lst ds => some (enumD 0 ds)
    | .tup ds => if ds.length ≤ LIM then some (enumD 0 ds) else none
    | _ => none
end

/-! ### the checker -/
/-- what the checker knows: slots, callees' names, constants' names, built-in names that the module leaves free -/
structure Nm where
  N : List Str
  fs : List (Str × Nat)
  ks : List (Str × List Str)
  cs : List Str
  bs : List Str
  lam : Option Str
def visB (sc : Scope) (x : Str) : Bool := match sc.names.lookup x with
  | some .local => true
  | some .cell => true
  | some .free => true
  | _ => false
def locB (sc : Scope) (x : Str) : Bool := match sc.names.lookup x with
  | some .local => true
  | _ => false
/-- a local, captured or not -/
def lcB (sc : Scope) (x : Str) : Bool := match sc.names.lookup x with
  | some .local => true
  | some .cell => true
  | _ => false
def glB (sc : Scope) (x : Str) : Bool := match sc.names.lookup x with
  | some .globalImplicit => true
  | _ => false
/-- a built-in name -/
def Nm.blt (M : Nm) (sc : Scope) (x : Str) : Bool := glB sc x && M.bs.contains x
/-- no star, no set display, no slice, no super() -/
def niceB : Expr → Bool
  | .Starred .. => false
  | .Set .. => false
  | .Slice .. => false
  | .Call (.Name _ _) [] [] _ => false
  | _ => true
def chkC : Const → C → Bool
  | .none, .non => true
  | .bool b, .bl c => b == c
  | .int i, .int j => i == j
  | .str s, .str u => s == u && decide (s.length ≤ LIM)
  | _, _ => false
mutual
def chkT (M : Nm) (ok : Str → Bool) : Tg → Expr → Bool
  | .nm i, e => match e with
    | .Name x _ => decide (M.N[i]? = some x) && ok x
    | _ => false
  | .tp ts, e => match e with
    | .Tuple es _ _ => chkTs M ok ts es
    | _ => false
def chkTs (M : Nm) (ok : Str → Bool) : Tgs → List Expr → Bool
  | .nil, [] => true
  | .cons t ts, e :: es => chkT M ok t e && chkTs M ok ts es
  | _, _ => false
end
def Tg.isTp : Tg → Bool
  | .tp _ => true
  | .nm _ => false
/-- enumerate wants a tuple as its target -/
def enumOk : It → Tg → Bool
  | .en _, t => t.isTp
  | _, _ => true
def negOne : Expr → Bool
  | .UnaryOp .USub (.Constant (.int 1) _ _) _ => true
  | _ => false
/-- what a comprehension's block may store to: its own names, captured within or not -/
def okB (scope sc : Scope) (x : Str) : Bool := locB (relS scope sc) x || (lcB (relS scope sc) x && (scope.names.lookup x == some .cell))
/-- the lambda thing: (-row.count(thing), thing) -/
def lamCnt (M : Nm) (sc : Scope) (j : Nat) (ps : Arguments) (b : Expr) (scope : Scope) : Bool := match ps, b with
  | ⟨[], [⟨v, none, _⟩], none, [], [], none, []⟩, .Tuple [.UnaryOp .USub (.Call (.Attribute (.Name r _) m ap) [.Name v1 _] [] cp) _, .Name v2 _] _ _ =>
    decide (m = "count") && decide (v1 = v) && decide (v2 = v) && (ap.endLine == cp.line) && NdefX.nscB [v, r] [v] [r] scope && NdefX.ndefB sc scope [r] && decide (M.N[j]? = some r) && !(v == ("__debug__" : Str)) && !(v == ("__classdict__" : Str)) && !(r == ("__debug__" : Str)) && !(r == ("__classdict__" : Str))
  | _, _ => false
mutual
def chkE (M : Nm) : E → Scope → Expr → Bool
  | .k c, _, e => match e with
    | .Constant c' _ _ => chkC c' c
    | _ => false
  | .v i, sc, e => match e with
    | .Name x _ => decide (M.N[i]? = some x) && visB sc x && !(x == ("__debug__" : Str)) && !(x == ("__classdict__" : Str))
    | _ => false
  | .g j, sc, e => match e with
    | .Name x _ => decide (M.cs[j]? = some x) && glB sc x && !(x == ("__debug__" : Str))
    | _ => false
  | .b2 o a b, sc, e => match e with
    | .BinOp l op r _ => decide (op = o.op) && chkE M a sc l && chkE M b sc r
    | _ => false
  | .neg a, sc, e => match e with
    | .UnaryOp op x _ => decide (op = .USub) && chkE M a sc x
    | _ => false
  | .c2 o a b, sc, e => match e with
    | .Compare l [op] [r] _ => decide (op = o.op) && chkE M a sc l && chkE M b sc r
    | _ => false
  | .ch o o' a b c, sc, e => match e with
    | .Compare l [op, op'] [m, r] _ => decide (op = o.op) && decide (op' = o'.op) && chkE M a sc l && chkE M b sc m && chkE M c sc r
    | _ => false
  | .nt a, sc, e => match e with
    | .UnaryOp op x _ => decide (op = .Not) && chkE M a sc x
    | _ => false
  | .an es, sc, e => match e with
    | .BoolOp op (x :: y :: xs) _ => decide (op = .And) && chkS M es sc (x :: y :: xs)
    | _ => false
  | .or es, sc, e => match e with
    | .BoolOp op (x :: y :: xs) _ => decide (op = .Or) && chkS M es sc (x :: y :: xs)
    | _ => false
  | .ife c a b, sc, e => match e with
    | .IfExp t x y _ => chkE M c sc t && chkE M a sc x && chkE M b sc y
    | _ => false
  | .tup es, sc, e => match e with
    | .Tuple xs _ _ => chkS M es sc xs
    | _ => false
  | .lst es, sc, e => match e with
    | .List xs _ => chkS M es sc xs
    | _ => false
  | .ix a b, sc, e => match e with
    | .Subscript x y _ => chkE M a sc x && chkE M b sc y
    | _ => false
  | .sl a lo hi, sc, e => match e with
    | .Subscript x (.Slice l h none _) _ => chkE M a sc x && chkO M lo sc l && chkO M hi sc h
    | _ => false
  | .bi f es, sc, e => match e with
    | .Call (.Name n _) (x :: xs) [] _ => decide (n = f.name) && M.blt sc n && chkS M es sc (x :: xs)
    | _ => false
  | .isi a t, sc, e => match e with
    | .Call (.Name n _) [x, .Name c _] [] _ => decide (n = "isinstance") && M.blt sc n && chkE M a sc x && decide (c = (t.name : Str)) && M.blt sc c
    | _ => false
  | .isT a t u, sc, e => match e with
    | .Call (.Name n _) [x, .Tuple [.Name c _, .Name d _] _ _] [] _ => decide (n = "isinstance") && M.blt sc n && chkE M a sc x && decide (c = (t.name : Str)) && M.blt sc c && decide (d = (u.name : Str)) && M.blt sc d
    | _ => false
  | .lenset a, sc, e => match e with
    | .Call (.Name n _) [.Call (.Name m _) [x] [] _] [] _ => decide (n = "len") && M.blt sc n && decide (m = "set") && M.blt sc m && chkE M a sc x
    | _ => false
  | .ss a, sc, e => match e with
    | .Call (.Name n _) [.Call (.Name m _) [x] [] _] [] _ => decide (n = "sorted") && M.blt sc n && decide (m = "set") && M.blt sc m && chkE M a sc x
    | _ => false
  | .sk a j, sc, e => match e with
    | .Call (.Name n _) [x] [⟨some kn, .Lambda ps b scope _, _⟩] _ => decide (n = "sorted") && M.blt sc n && decide (kn = "key") && M.lam.isSome && lamCnt M sc j ps b scope && chkE M a sc x
    | _ => false
  | .lr1 a, sc, e => match e with
    | .Call (.Name n _) [.Call (.Name m _) [x] [] _] [] _ => decide (n = "list") && M.blt sc n && decide (m = "range") && M.blt sc m && chkE M a sc x
    | _ => false
  | .lr2 a b, sc, e => match e with
    | .Call (.Name n _) [.Call (.Name m _) [x, y] [] _] [] _ => decide (n = "list") && M.blt sc n && decide (m = "range") && M.blt sc m && chkE M a sc x && chkE M b sc y
    | _ => false
  | .me m a es, sc, e => match e with
    | .Call (.Attribute x n ap) xs [] cp => decide (n = m.name) && (ap.endLine == cp.line) && chkE M a sc x && niceB x && chkS M es sc xs && decide (xs.length < 4)
    | _ => false
  | .ca j es, sc, e => match e with
    | .Call (.Name n _) (x :: xs) [] _ => decide (M.fs[j]? = some (n, (x :: xs).length)) && glB sc n && !(n == ("__debug__" : Str)) && chkS M es sc (x :: xs)
    | _ => false
  | .ck j es, sc, e => match e with
    | .Call (.Name n _) [] (k :: kws) _ => decide (M.ks[j]? = some (n, (k :: kws).filterMap (·.arg))) && glB sc n && !(n == ("__debug__" : Str)) && (k :: kws).all (·.arg.isSome) && chkS M es sc ((k :: kws).map (·.value))
    | _ => false
  | .co tg it c e', sc, e => match e with
    | .ListComp elt [⟨t, iter, ifs, 0⟩] scope _ => chkI M it sc iter && blkC M.N sc scope (tg.ids.map fun i => (M.N.getD i "", i)) && chkT M (okB scope sc) tg t
      && chkF M c (relS scope sc) ifs && chkE M e' (relS scope sc) elt && enumOk it tg
    | _ => false
  | .rev a, sc, e => match e with
    | .Subscript x (.Slice none none (some (.UnaryOp .USub (.Constant (.int 1) _ _) _)) _) _ => chkE M a sc x
    | _ => false
  | .cat a, sc, e => match e with
    | .Call (.Name n _) [x, .List [] _] [] _ => decide (n = "sum") && M.blt sc n && chkE M a sc x
    | _ => false
def chkS (M : Nm) : Es → Scope → List Expr → Bool
  | .nil, _, [] => true
  | .cons e es, sc, x :: xs => chkE M e sc x && chkS M es sc xs
  | _, _, _ => false
def chkO (M : Nm) : Eo → Scope → Option Expr → Bool
  | .no, _, none => true
  | .so e, sc, some x => chkE M e sc x
  | _, _, _ => false
def chkF (M : Nm) : Eo → Scope → List Expr → Bool
  | .no, _, [] => true
  | .so e, sc, [x] => chkE M e sc x
  | _, _, _ => false
def chkI (M : Nm) : It → Scope → Expr → Bool
  | .sq a, sc, e => chkE M a sc e
  | .r1 a, sc, e => match e with
    | .Call (.Name n _) [x] [] _ => decide (n = "range") && M.blt sc n && chkE M a sc x
    | _ => false
  | .r2 a b, sc, e => match e with
    | .Call (.Name n _) [x, y] [] _ => decide (n = "range") && M.blt sc n && chkE M a sc x && chkE M b sc y
    | _ => false
  | .rd a b, sc, e => match e with
    | .Call (.Name n _) [x, y, z] [] _ => decide (n = "range") && M.blt sc n && chkE M a sc x && chkE M b sc y && negOne z
    | _ => false
  | .en a, sc, e => match e with
    | .Call (.Name n _) [x] [] _ => decide (n = "enumerate") && M.blt sc n && chkE M a sc x
    | _ => false
end
end KP
/-! KPf: the checker's word is enough: expressions. -/
namespace KP
open PySem L2

/-- the whole: the program, the world, what stands written, the level of callees -/
structure GG where
  P : Program
  w : World
  K : PySem.W.Frag
  mg : Str → Option Value
  base : Heap
  k : Nat
structure Ctx (g : GG) (M : Nm) (sc : Scope) (X : Cx) : Prop where
  prog : X.prog = g.P
  w : X.w = g.w
  K : X.K = g.K
  mg : X.mg = g.mg
  base : X.base = g.base
  N : X.N = M.N
  nd : M.N.Nodup
  scope : X.env.scope = sc
  calm : X.calm = true
  room : Room g.k X.A
  lam : ∀ q, M.lam = some q → 2 ≤ g.k ∧ ∃ c P, X.env.code = .ref c ∧ X.env.qual ++ "<lambda>" = q ∧ LamX.TabB X.base X.mg c P ∧ (P, q) ∈ tbT ∧ ∀ p ∈ tbT, p.1 = P → p.2 = q
/-- a callee's promise: pure -/
def spOf (K : PySem.W.Frag) (n : Nat) (f : PFn) : Sp := fun vs H Q _ => vs.length = n ∧ ∃ W ds r, Sub W H ∧ RepL K W vs ds ∧ f ds = some r ∧ Want K W H r Q
structure CallOk (g : GG) (x : Str) (n : Nat) (f : PFn) : Prop where
  ex : ∃ (a : Addr) (fd : FuncData) (ps : List Str), g.mg x = some (.ref a) ∧ PySem.W.keepIn g.K (.ref a) = true ∧ Binds g.K fd ps [] ∧ FnOk g.P g.w g.K g.mg g.base (L2.CX g.P g.w) g.k a fd ps (spOf g.K n f)
/-- called by names alone: pm tells each parameter's place among the keywords -/
structure CallOkK (g : GG) (x : Str) (ks : List Str) (pm : List Nat) (f : PFn) : Prop where
  ex : ∃ (a : Addr) (fd : FuncData) (ps : List Str) (gg : List Value → List Value → List Value), g.mg x = some (.ref a) ∧ PySem.W.keepIn g.K (.ref a) = true ∧ KBn g.K fd ps 0 ks gg (fun _ zs => pm.map fun i => zs.getD i .non) ∧
    FnOk g.P g.w g.K g.mg g.base (L2.CX g.P g.w) g.k a fd ps (spOf g.K pm.length f)
structure Facts (g : GG) (M : Nm) (G : Cs) : Prop where
  blt : ∀ x, M.bs.contains x = true → g.mg x = none
  cst : ∀ (j : Nat) (x : Str) (d : D), M.cs[j]? = some x → G.cs[j]? = some d → ∃ u v, g.mg x = some u ∧ RelV v u ∧ ∀ W, Rep g.K W v d
  fn : ∀ (j : Nat) (x : Str) (n : Nat) (f : PFn), M.fs[j]? = some (x, n) → G.fs[j]? = some f → CallOk g x n f
  kfn : ∀ (j : Nat) (x : Str) (ks : List Str) (pm : List Nat) (f : PFn), M.ks[j]? = some (x, ks) → G.ks[j]? = some (pm, f) → CallOkK g x ks pm f

/-! ### the syntax' own side questions -/
theorem star_of {e : Expr} {es : List Expr} {env : Env} (h : niceB e = true) : starEach (e :: es) env = (false, eval e env) :: starEach es env := by
  cases e <;> first | rfl | simp [niceB] at h
theorem star_any {pos : Pos} {env : Env} : ∀ {es : List Expr}, (∀ e ∈ es, niceB e = true) → (backTo pos (starEach es env)).any (·.1) = false
  | [], _ => rfl
  | e :: es, h => by
    rw [star_of (h e List.mem_cons_self)]
    have ih := star_any (pos := pos) (env := env) (es := es) fun x hx => h x (List.mem_cons_of_mem _ hx)
    unfold backTo at ih ⊢
    rw [List.map_cons, List.any_cons, ih]; rfl
theorem base_of {e : Expr} {n : Str} {env : Env} (h : niceB e = true) (w : Sem Value) : attributeBase e n env w = w := by
  unfold attributeBase
  split
  · simp [niceB] at h
  · rfl
theorem plainIx_of {e : Expr} (h : niceB e = true) : PlainIx e := fun o i => by
  unfold subscripted
  cases e <;> first | rfl | simp [niceB] at h
theorem behind_of {e : Expr} {op : CmpOp} (h : niceB e = true) : behindInMarks op e = false := by
  unfold behindInMarks
  cases e <;> first | rfl | simp [niceB] at h
theorem folded_of {e : Expr} {env : Env} (h : niceB e = true) (x : Value) : foldedSetIterable e env x = pure x := by
  unfold foldedSetIterable
  cases e <;> first | rfl | simp [niceB] at h
/-- whose truth is asked plainly -/
def plainT : Expr → Bool
  | .UnaryOp .Not _ _ => false
  | .BoolOp .. => false
  | .IfExp .. => false
  | .Compare .. => false
  | _ => true
theorem isTrue_of {e : Expr} {env : Env} (h : plainT e = true) (whole : Sem Value) : isTrue e env whole = (do let v ← whole; standAt e.pos; holding [v] (truthy v)) := by
  cases e with
  | UnaryOp op a p => cases op <;> first | rfl | simp [plainT] at h
  | _ => first | rfl | simp [plainT] at h

section
variable {g : GG} {M : Nm} {G : Cs} {sc : Scope} {X : Cx}
theorem vis_of {x : Str} (h : visB sc x = true) : Vis sc x := by
  unfold visB at h
  unfold Vis
  split at h <;> first | (rename_i e; simp [e]) | cases h
theorem loc_of {x : Str} (h : locB sc x = true) : sc.names.lookup x = some .local := by
  unfold locB at h
  split at h <;> first | assumption | cases h
theorem lc_of {x : Str} (h : lcB sc x = true) : L2.Loc sc x := by
  unfold lcB at h
  unfold L2.Loc
  split at h <;> first | (rename_i e; simp [e]) | cases h
theorem gl_of {x : Str} (h : glB sc x = true) : sc.names.lookup x = some .globalImplicit := by
  unfold glB at h
  split at h <;> first | assumption | cases h
theorem Ctx.gl (c : Ctx g M sc X) {x : Str} (h : glB sc x = true) : Gl X x := by
  have := gl_of h
  rw [← c.scope] at this
  exact this
/-- where names of this sort may be stored to -/
def OkT (X : Cx) (ok : Str → Bool) : Prop := ∀ x, ok x = true → L2.Loc X.env.scope x ∧ (X.fn x = true ∨ X.env.scope.names.lookup x = some .local)
theorem Ctx.okl (c : Ctx g M sc X) : OkT X (locB sc) := fun x h => ⟨.inl (by rw [c.scope]; exact loc_of h), .inr (by rw [c.scope]; exact loc_of h)⟩
theorem Ctx.blt (c : Ctx g M sc X) (F : Facts g M G) {x : Str} (h : M.blt sc x = true) : Gl X x ∧ X.mg x = none := by
  unfold Nm.blt at h
  rw [Bool.and_eq_true] at h
  exact ⟨c.gl h.1, by rw [c.mg]; exact F.blt x h.2⟩
theorem Ctx.blk (c : Ctx g M sc X) (s : Shared) (H : Hp) (scope : Scope) (C : Addr) (cl : List (Str × Addr)) (fp : List Addr) : Ctx g M (relS scope sc) (X.blk s H scope (compEnvC scope cl C X.env) fp) :=
  ⟨c.prog, c.w, c.K, c.mg, c.base, c.N, c.nd, by rw [← c.scope]; rfl, c.calm, c.room, c.lam⟩
theorem Ctx.okb (c : Ctx g M sc X) (s : Shared) (H : Hp) (scope : Scope) (C : Addr) (cl : List (Str × Addr)) (fp : List Addr) : OkT (X.blk s H scope (compEnvC scope cl C X.env) fp) (okB scope sc) := fun x h => by
  have k := c.blk s H scope C cl fp
  unfold okB at h
  rw [Bool.or_eq_true, Bool.and_eq_true] at h
  rcases h with h | ⟨h1, h2⟩
  · exact k.okl x h
  · exact ⟨by rw [k.scope]; exact lc_of h1, .inl h2⟩
theorem Ctx.fnOk (c : Ctx g M sc X) {a : Addr} {fd : FuncData} {ps : List Str} {sp : Sp} (h : FnOk g.P g.w g.K g.mg g.base (L2.CX g.P g.w) g.k a fd ps sp) : FnOk X.prog X.w X.K X.mg X.base (L2.CX X.prog X.w) g.k a fd ps sp := by
  rw [c.prog, c.w, c.K, c.mg, c.base]; exact h

def evb (G : Cs) (e : E) (ρ : Sg) : Option Bool := (evp G e ρ).bind asB
/-- an expression does what its form says: as a value, as a test -/
def SndE (g : GG) (M : Nm) (G : Cs) (sc : Scope) (e : Expr) (ir : E) : Prop :=
  ∃ t tt, (∀ X, Ctx g M sc X → PE X e t ∧ PT X e tt) ∧ SP g.K t (evp G ir) ∧ ST g.K tt (evb G ir) ∧ niceB e = true
/-- from a value alone -/
theorem SndE.of {e : Expr} {ir : E} {t : TE} (h : ∀ X, Ctx g M sc X → PE X e t) (s : SP g.K t (evp G ir)) (n : niceB e = true) (p : plainT e = true) : SndE g M G sc e ir :=
  ⟨t, tB t, fun X c => ⟨h X c, pt_val (h X c) (isTrue_of p)⟩, s, fun ρ σ W H b Q sm en hb q => by
    unfold evb at hb
    obtain ⟨r, h1, h2⟩ := Option.bind_eq_some_iff.mp hb
    unfold asB at h2
    split at h2 <;> cases h2
    refine s ρ σ W H _ _ sm en h1 fun v W' H' gr rep => ?_
    cases (show Rep g.K W' v (.bl b) from rep)
    exact ⟨b, rfl, q W' H' gr⟩, n⟩
/-- a wish for data of the value's -/
theorem SndE.data {e : Expr} {ir : E} {t : TE} (s : SP g.K t (evp G ir)) {ρ : Sg} {σ : L2.St} {W H : Hp} {r : R} {Q : VK} (sm : Sub W H) (en : EnvR g.K W ρ σ) (h : evp G ir ρ = some r) (w : WantD g.K W H r.d Q) : t σ H Q :=
  s ρ σ W H r Q sm en h w.r
end
end KP
/-! KPlb: sorted(xs, key=f) where f is any function of ours: its calls keep the state (the library's road for pure keys, turned). -/
namespace KP
open PySem PySem.Spec PySem.Calls PySem.W PyProof.Rows L2
section
variable {prog : Program} {w : World} {A : Around} {E : Value → Shared → Prop} {s : Shared} {a kS : Addr} {b : Bool} {vs : List Value} {keys : Array Value} {e e1 : Nat} {P : PySem.Fin → Shared → Prop}
def Kp2 (a kS : Addr) (h h' : Heap) : Prop := ∀ b o, b ≠ a → b ≠ kS → h.get? b = some o → h'.get? b = some o
theorem keyI_tail {st : SortSt} {out : List Value} (nk : s.heap.get? kS = some (seqObj "list" keys e)) (na : s.heap.get? a = some (seqObj "list" #[] e1)) (hka : kS ≠ a)
    (hsz : keys.size ≤ sizeLine) (hz : out.length ≤ sizeLine) (hfl : failedOf st = none) (ho : (if b = true then ((arrOf st).map (·.2)).reverse else (arrOf st).map (·.2)) = out.toArray)
    (h : ∀ h' tk c, Kp2 a kS s.heap h' → (∃ o, h'.get? kS = some o) → h'.get? a = some (seqObj "list" out.toArray c) → P (.done (.ret .none)) { s with heap := h', toks := tk }) :
    wpAny (model prog w) A (ksk_tail a b e1 (.ref kS) st) P E s := by
  have s1 := Heap.SameBut.update s.heap kS (Obj.mapSeq fun _ => (#[] : Array Value))
  have na1 : (s.heap.update kS (Obj.mapSeq fun _ => (#[] : Array Value))).get? a = some (seqObj "list" #[] e1) := (s1.2 a hka.symm).trans na
  have s2 := Heap.SameBut.update (s.heap.update kS (Obj.mapSeq fun _ => (#[] : Array Value))) a (Obj.mapSeq fun _ => out.toArray)
  obtain ⟨c1, hc1⟩ : ∃ c1, (s.heap.update kS (Obj.mapSeq fun _ => (#[] : Array Value))).get? kS = some (seqObj "list" #[] c1) := ⟨_, get?_update_seq nk fun _ => #[]⟩
  obtain ⟨c2, hc2⟩ : ∃ c2, ((s.heap.update kS (Obj.mapSeq fun _ => (#[] : Array Value))).update a (Obj.mapSeq fun _ => out.toArray)).get? a = some (seqObj "list" out.toArray c2) :=
    ⟨_, get?_update_seq na1 fun _ => out.toArray⟩
  have hz2 : out.toArray.size ≤ sizeLine + 1 := by
    rw [List.size_toArray]
    exact Nat.le_succ_of_le hz
  unfold ksk_tail
  try dsimp only
  rw [ho]
  refine wpAny_bind (listUpdate_at nk rfl ?_ hsz (Nat.zero_le _))
  refine wpAny_bind (wpAny_letGo ?_)
  refine wpAny_bind (seqEpoch_at na1 rfl ?_)
  refine wpAny_bind (listUpdate_at na1 rfl ?_ (Nat.zero_le _) hz2)
  rw [hfl]
  simp only [bne_self_eq_false, Bool.false_eq_true, if_false]
  exact wpAny_pure (h _ _ c2 (fun b o h1 h2 q => (s2.2 b h1).trans ((s1.2 b h2).trans q)) ⟨_, (s2.2 kS hka).trans hc1⟩ hc2)
theorem keyI_end {κ : PyProof.Rows.KeyKind} (nk : s.heap.get? kS = some (seqObj "list" keys e)) (na : s.heap.get? a = some (seqObj "list" #[] e1)) (hka : kS ≠ a)
    (S : SortsAt prog w A s κ keys.toList) (hsz : keys.size = vs.length) (hZ : vs.length ≤ sizeLine)
    (h : ∀ h' tk c, Kp2 a kS s.heap h' → (∃ o, h'.get? kS = some o) → h'.get? a = some (seqObj "list" (sortVals κ b keys.toList vs).toArray c) → P (.done (.ret .none)) { s with heap := h', toks := tk }) :
    wpAny (model prog w) A (ksk_end a b vs.toArray e1 (.ref kS) keys) P E s := by
  obtain ⟨kd, h1, h2⟩ := S.kind
  have hkl : keys.toList.length = vs.length := by
    rw [Array.length_toList]
    exact hsz
  have hK : PyProof.Rows.KeysOf κ (keys.zip vs.toArray) := keysOf_zip S.keys
  have hol : (sortVals κ b keys.toList vs).length = vs.length := sortVals_length b hkl
  have hstart : (if b = true then (keys.zip vs.toArray).reverse else keys.zip vs.toArray).Perm (keys.zip vs.toArray) := by
    cases b with
    | false => exact Array.Perm.refl _
    | true => exact Array.perm_iff_toList_perm.mpr (by rw [if_pos rfl, Array.toList_reverse]; exact List.reverse_perm _)
  have hss : (if b = true then (keys.zip vs.toArray).reverse else keys.zip vs.toArray).size = vs.length := by rw [hstart.size_eq, Array.size_zip, hsz, List.size_toArray, Nat.min_self]
  have fin : ∀ st' : SortSt, (arrOf st').Perm (if b = true then (keys.zip vs.toArray).reverse else keys.zip vs.toArray) → SortedToK κ (arrOf st') (if b = true then (keys.zip vs.toArray).reverse else keys.zip vs.toArray).size →
      Stable κ (arrOf st') (if b = true then (keys.zip vs.toArray).reverse else keys.zip vs.toArray) → (if b = true then ((arrOf st').map (·.2)).reverse else (arrOf st').map (·.2)) = (sortVals κ b keys.toList vs).toArray := by
    intro st' hp hs ht
    have e := sort_out (rev := b) (keys := keys) (items := vs.toArray) (xs := arrOf st') (κ := κ) hK hp hs ht
    have e' := congrArg List.toArray e
    rw [Array.toArray_toList] at e'
    exact e'
  have step : ∀ t : Sem PySem.Fin, wpAny (model prog w) A t P E s → wpAny (model prog w) A (if b = true then (do let _ ← rule "list.sort.reverse"; t) else t) P E s := by
    intro t ht
    split
    · exact wpAny_bind (wpAny_rule ht)
    · exact ht
  unfold ksk_end
  try dsimp only
  refine step _ ?_
  by_cases hl2 : vs.toArray.size < 2
  · rw [if_pos hl2, if_pos hl2]
    refine wpAny_bind (wpAny_pure ?_)
    rw [StateT.run_pure]
    refine wpAny_bind (wpAny_pure ?_)
    try dsimp only
    refine keyI_tail (st := SortSt.mk' general' (if b = true then (keys.zip vs.toArray).reverse else keys.zip vs.toArray) #[] 7 none) nk na hka (by rw [hsz]; exact hZ) (by rw [hol]; exact hZ) rfl (fin _ (Array.Perm.refl _) ?_ (Stable.refl _)) h
    intro i j hij hj
    rw [hss] at hj
    rw [List.size_toArray] at hl2
    have : i = j := by omega
    subst this
    exact KeyOrd.kle_refl _
  · rw [if_neg hl2, if_neg hl2]
    rw [List.size_toArray] at hl2
    refine wpAny_bind (h2 (by omega) _ ?_)
    refine wpAny_bind (wpAny_mono (H.wpS_sortRunsSt (κ := κ) (kd := kd) (a₀ := if b = true then (keys.zip vs.toArray).reverse else keys.zip vs.toArray)
      (st := SortSt.mk' kd (if b = true then (keys.zip vs.toArray).reverse else keys.zip vs.toArray) #[] 7 none)
      (Q := fun _ st' => failedOf st' = none ∧ (if b = true then ((arrOf st').map (·.2)).reverse else (arrOf st').map (·.2)) = (sortVals κ b keys.toList vs).toArray)
      h1 (hK.perm hstart) ⟨Array.Perm.refl _, rfl, rfl⟩ rfl (Stable.refl _) (by rw [hss]; omega) fun st' a1 a2 a3 a4 => ⟨a2, fin st' a1 a3 a4⟩) ?_ fun _ _ e => e)
    rintro ⟨⟨⟩, st'⟩ s' ⟨rfl, hf, ho⟩
    try dsimp only at ho ⊢
    exact keyI_tail nk na hka (by rw [hsz]; exact hZ) (by rw [hol]; exact hZ) hf ho h
end
/-- a key: a pair of ints -/
def KeyP (H : Hp) (kv : V) (p : Int × Int) : Prop := ∃ t, kv = .ref t ∧ H t = some (.tup [.int p.1, .int p.2])
theorem KeyP.ext {H H' : Hp} {kv : V} {p : Int × Int} (x : Ext H H') (h : KeyP H kv p) : KeyP H' kv p := let ⟨t, e, z⟩ := h; ⟨t, e, x.k _ _ z fun _ e => by cases e⟩
def pkPy (p : Int × Int) : PyData := .tuple [.int p.1, .int p.2]
section
variable {X : Cx} {pins : List (Addr × Obj)} {σ : L2.St} {H : Hp} {s : Shared}
theorem KeyP.reads {kv : V} {u : Value} {p : Int × Int} (I : Inv X pins σ H s) (h : KeyP H kv p) (r : L2.RelV kv u) : Reads s.heap u (pkPy p) [] := by
  obtain ⟨t, rfl, h⟩ := h
  cases r
  obtain ⟨z, its, rv, o, e, c, n, hd⟩ := I.hok t _ h
  refine .tuple e c hd ?_
  rw [show its.toArray.toList = its by simp]
  cases rv with | cons r1 rv => cases rv with | cons r2 rv => cases rv with | nil =>
  obtain ⟨t1, rfl⟩ := r1
  obtain ⟨t2, rfl⟩ := r2
  exact .cons (as := []) (.int _ _) (.cons (as := []) (.int _ _) .nil)
/-- what a key function's call does -/
def TurnK (X : Cx) (σ : L2.St) (A : Around) (f : Addr) (fo : Obj) (H : Hp) (ns : List Int) (key : Int → Int × Int) : Prop :=
  ∀ (pins' : List (Addr × Obj)) (H' : Hp) (s' : Shared) (n : Int) (t : Tok), n ∈ ns → (f, fo) ∈ pins' → Inv X pins' σ H' s' → Ext H H' →
    wpAny (model X.prog X.w) A (call (.ref f) [.int n t]) (fun u s'' => ∃ kv H'', Inv X pins' σ H'' s'' ∧ Ext H' H'' ∧ L2.RelV kv u ∧ KeyP H'' kv (key n)) (fun _ _ => False) s'
theorem inv_repin {pins pins' : List (Addr × Obj)} (I : Inv X pins σ H s) (h : ∀ p ∈ pins', p ∈ pins ∨ (s.heap.get? p.1 = some p.2 ∧ H p.1 = none ∧ p.1 ≠ X.env.locals ∧ p.1 ∉ X.fs ∧ ∀ v, p.2.data ≠ .cell v)) : Inv X pins' σ H s :=
  I.pins_of fun p hp => (h p hp).elim (fun z => I.pin p (List.mem_append_right _ z)) id
theorem reads_each {h : Heap} : ∀ {us : List Value} {ks : List PyData}, EachIs (fun v k => Reads h v k []) us ks → EachIs (fun v k => ∃ as, Reads h v k as) us ks := fun e => e.mono fun _ _ r => ⟨[], r⟩
theorem alike_pk (p q : Int × Int) : alike (pkPy p) (pkPy q) = true := by simp [pkPy, alike, alikeAll]
theorem keyI_rest {A : Around} {f a kS : Addr} {fo : Obj} {ns : List Int} {vs : List Value} {key : Int → Int × Int} {e1 : Nat} {E : Value → Shared → Prop} {P : PySem.Fin → Shared → Prop}
    (I : Inv X (pins ++ [(f, fo), (a, seqObj "list" #[] e1)]) σ H s) (nk : s.heap.get? kS = some (seqObj "list" #[] 0)) (hkn : H kS = none) (hkL : kS ≠ X.env.locals) (hkf : kS ∉ X.fs) (hk0 : X.s_0.heap.objs.size ≤ kS) (hkp : ∀ p ∈ X.pn ++ (pins ++ [(f, fo), (a, seqObj "list" #[] e1)]), p.1 ≠ kS)
    (hv : L2.Vals (ns.map V.int) vs) (hZ : vs.length ≤ sizeLine) (hu : A.units + 2 < cLine)
    (turn : TurnK X σ A f fo H ns key)
    (h : ∀ (H' : Hp) (s0 : Shared) (h' : Heap) (tk : Nat) (out : List Value) (c : Nat), Inv X pins σ H' s0 → Ext H H' → H' kS = none → H' a = none → Kp2 a kS s0.heap h' → (∃ o, h'.get? kS = some o) → h'.get? a = some (seqObj "list" (List.toArray out) c) →
      KeyedOut false (ns.map fun n => pkPy (key n)) vs out → P (.done (.ret .none)) { s0 with heap := h', toks := tk }) :
    wpAny (model X.prog X.w) A (ksk_rest a (.ref f) false vs.toArray e1 (.ref kS)) P E s := by
  have hlen : vs.length = ns.length := by have := hv.length; simpa using this.symm
  have hka : kS ≠ a := fun z => hkp (a, seqObj "list" #[] e1) (by simp) z.symm
  unfold ksk_rest
  refine wpAny_bind (wpAny_rule ?_)
  first
    | rw [List.forIn_toArray]
    | (rw [← Array.forIn_toList]; simp only [List.toList_toArray])
    | rw [← Array.forIn_toList]
  refine wpAny_bind (ksk_fold (fun i s' => ∃ H' kA e, Inv X (pins ++ [(f, fo), (a, seqObj "list" #[] e1)]) σ H' s' ∧ Ext H H' ∧ H' kS = none ∧ s'.heap.get? kS = some (seqObj "list" kA e) ∧ EachIs (fun u n => ∃ kv, L2.RelV kv u ∧ KeyP H' kv (key n)) kA.toList (ns.take i)) vs 0 s
    ⟨H, #[], 0, I, Ext.refl _, hkn, nk, by rw [List.take_zero]; exact EachIs.nil⟩ ?step ?done)
  case step =>
    rintro j x s' hx ⟨H', kA, e, I', ex, kn, nk', hk⟩
    simp only [Nat.zero_add] at hk ⊢
    have hj : j < vs.length := (List.getElem?_eq_some_iff.mp hx).1
    obtain ⟨n, hnj⟩ : ∃ n, ns[j]? = some n := ⟨_, List.getElem?_eq_getElem (by omega)⟩
    obtain ⟨u, hu1, ru⟩ := hv.get (show (ns.map V.int)[j]? = some (.int n) by rw [List.getElem?_map, hnj]; rfl)
    rw [hx] at hu1
    cases hu1
    obtain ⟨t, rfl⟩ := ru
    have hz : kA.size ≤ vs.length := by
      have h1 := hk.length
      rw [Array.length_toList, List.length_take] at h1
      omega
    have Ip : Inv X (pins ++ [(f, fo), (a, seqObj "list" #[] e1)] ++ [(kS, seqObj "list" kA e)]) σ H' s' := inv_repin I' fun p hp => by
      rcases List.mem_append.mp hp with z | z
      · exact .inl z
      · obtain rfl : p = (kS, seqObj "list" kA e) := by simpa using z
        exact .inr ⟨nk', kn, hkL, hkf, fun v z => by cases z⟩
    refine wpAny_bind (wpAny_attempt (wpAny_mono (turn _ H' s' n t (List.mem_of_getElem? hnj) (by simp) Ip ex) (fun v s'' he => ?_) fun _ _ hF => hF.elim))
    obtain ⟨kv, H2, I2, ex2, rv, pk⟩ := he
    try dsimp only
    obtain ⟨nk2, kn2, -⟩ := I2.pin (kS, seqObj "list" kA e) (by simp)
    have s1 := Heap.SameBut.update s''.heap kS (Obj.mapSeq (·.push v))
    obtain ⟨c2, hc2⟩ : ∃ c2, (s''.heap.update kS (Obj.mapSeq (·.push v))).get? kS = some (seqObj "list" (kA.push v) c2) := ⟨_, get?_update_seq nk2 (·.push v)⟩
    have ek : ns.take (j + 1) = ns.take j ++ [n] := by rw [List.take_add_one, hnj]; simp
    have ea : (kA.push v).toList = kA.toList ++ [v] := by simp
    refine wpAny_bind (listUpdate_at nk2 rfl ?_ (Nat.le_trans hz hZ) (Nat.le_trans (Nat.le_of_eq (Array.size_push ..)) (Nat.succ_le_succ (Nat.le_trans hz hZ))))
    have I2' : Inv X (pins ++ [(f, fo), (a, seqObj "list" #[] e1)]) σ H2 s'' := inv_repin I2 fun p hp => .inl (List.mem_append_left _ hp)
    have I3 := I2'.turned (t' := s''.toks) (it := kS) (h' := s''.heap.update kS (Obj.mapSeq (·.push v))) (fun b o hb e => (s1.2 b hb).trans e) kn2 hkL (.inr hk0) (fun x c e z => by
      obtain ⟨v, o, ho, hd⟩ := I2.cell x c e
      rw [z, nk2] at ho
      cases ho
      cases hd) hkp
    refine wpAny_pure ⟨rfl, H2, kA.push v, c2, I3, ex.trans ex2, kn2, hc2, ?_⟩
    rw [ea, ek]
    exact each_snoc (R := fun (u : Value) (n : Int) => ∃ kv, L2.RelV kv u ∧ KeyP H2 kv (key n)) ⟨kv, rv, pk⟩ (hk.mono fun u d ⟨kv, r, q⟩ => ⟨kv, r, q.ext ex2⟩)
  case done =>
    rintro s' ⟨H', kA, e, I', ex, kn, nk', hk⟩
    have e3 : ns.take (0 + vs.length) = ns := List.take_of_length_le (by omega)
    rw [e3] at hk
    have hk' : EachIs (fun v k => ∃ as, Reads s'.heap v k as) kA.toList (ns.map fun n => pkPy (key n)) := by
      exact each_map (R := fun v k => ∃ as, Reads s'.heap v k as) (fun n => pkPy (key n)) (hk.mono fun u n ⟨kv, r, q⟩ => ⟨[], q.reads I' r⟩)
    have hsz : kA.size = vs.length := by
      have h1 := hk'.length
      rw [Array.length_toList, List.length_map] at h1
      omega
    obtain ⟨na, an, -⟩ := I'.pin (a, seqObj "list" #[] e1) (by simp)
    have hal : AllAlike (ns.map fun n => pkPy (key n)) := fun d hd d' hd' => by
      obtain ⟨n, _, rfl⟩ := List.mem_map.mp hd
      obtain ⟨n', _, rfl⟩ := List.mem_map.mp hd'
      exact alike_pk _ _
    have hsk : Sortable (ns.map fun n => pkPy (key n)) := .inl fun d hd => by
      obtain ⟨n, _, rfl⟩ := List.mem_map.mp hd
      exact ⟨_, _, rfl⟩
    have hud : ∀ d, d ∈ (ns.map fun n => pkPy (key n)) → A.units + d.depth < cLine := fun d hd => by
      obtain ⟨n, _, rfl⟩ := List.mem_map.mp hd
      have : (pkPy (key n)).depth ≤ 2 := by simp [pkPy, PyData.depth, PyData.depthAll]
      omega
    try dsimp only
    refine wpAny_bind (listItems_at nk' rfl ?_)
    exact keyI_end (κ := dataKind s'.heap (ns.map fun n => pkPy (key n))) (b := false) nk' na hka (SortsAt.data (s := s') hk' hal hsk hud) hsz hZ fun h' tk c k3 k4 n3 =>
      h H' s' h' tk _ c (inv_repin I' fun p hp => .inl (List.mem_append_left _ hp)) ex kn an k3 k4 n3 ⟨s'.heap, kA.toList, hal, rfl, hk'⟩
theorem ne_big {a b n : Nat} (h : a < n) (k : n ≤ b) : a ≠ b := by omega
/-- the order of the keys -/
def keyLe (key : Int → Int × Int) : Int → Int → Bool := dataLe false fun n => pkPy (key n)
theorem each_vals {h : Heap} : ∀ {vs : List Value} {ns : List Int}, L2.Vals (ns.map V.int) vs → EachIs (fun v n => ∃ t, v = Value.int n t) vs ns
  | [], [], _ => .nil
  | [], _ :: _, h => by cases h
  | _ :: _, [], h => by cases h
  | _ :: _, _ :: _, .cons r t => .cons r (each_vals (h := h) t)
theorem vals_each : ∀ {vs : List Value} {ns : List Int}, EachIs (fun v n => ∃ t, v = Value.int n t) vs ns → L2.Vals (ns.map V.int) vs
  | _, _, .nil => .nil
  | _, _, .cons r t => .cons r (vals_each t)
theorem sort_key {f l : Addr} {fo : Obj} {ns : List Int} {key : Int → Int × Int} {Q : VK} (I : Inv X pins σ H s) (hl : SqL X.K H l (ns.map V.int)) (hf : s.heap.get? f = some fo) (hfn : H f = none) (hfL : f ≠ X.env.locals) (hff : f ∉ X.fs) (hfc : ∀ v, fo.data ≠ .cell v)
    (hu : X.A.units + 4 < cLine) (turn : TurnK X σ X.A.in1.in1 f fo H ns key)
    (q : ∀ (H' : Hp) (p : Addr), Ext H H' → H' p = none → Q (.ref p) (upd H' p (.lst ((ns.mergeSort (keyLe key)).map V.int)))) :
    wpAny (model X.prog X.w) X.A (call (.builtin "sorted") [.ref l] [(Str.ofString "key", .ref f)]) (EP X pins σ Q) X.xe s := by
  obtain ⟨vs, hv, pl, hz⟩ := I.list hl
  have hlen : vs.length = ns.length := by have := hv.length; simpa using this.symm
  have hZ : vs.length ≤ sizeLine := by rw [hlen]; simpa using hz
  refine sorted_of_sort pl.isList hZ (ksk_s1 _ _) (fun x => ksk_l1 _ _) fun E' => ?_
  rw [ksk_t1]
  have ho := copyHeap_at s.heap vs
  have aS : s.heap.objs.size ≤ s.heap.objs.size + 1 := by omega
  obtain ⟨e1, ho1⟩ : ∃ e1, ((copyHeap s.heap vs).update (s.heap.objs.size + 1) (Obj.mapSeq fun _ => (#[] : Array Value))).get? (s.heap.objs.size + 1) = some (seqObj "list" #[] e1) := ⟨_, get?_update_seq ho fun _ => #[]⟩
  have hcs : s.heap.objs.size + 1 < (copyHeap s.heap vs).objs.size := Heap.lt_size ho
  have hkS : (((copyHeap s.heap vs).update (s.heap.objs.size + 1) (Obj.mapSeq fun _ => (#[] : Array Value))).push (seqObj "tuple" vs.toArray 0)).objs.size = (copyHeap s.heap vs).objs.size + 1 := by rw [size_push', Heap.size_update]
  unfold ksk_tree
  refine wpAny_bind (listItems_at ho rfl ?_)
  refine wpAny_bind (listUpdate_at ho rfl ?_ (by rw [List.size_toArray]; exact hZ) (Nat.zero_le _))
  refine wpAny_bind (seqEpoch_at ho1 rfl ?_)
  refine wpAny_bind (wpAny_newTuple ?_ (by show vs.length ≤ _; exact hZ))
  refine wpAny_bind (wpAny_newList ?_ (Nat.zero_le _))
  refine wpAny_holding ?_
  have old : ∀ b o, s.heap.get? b = some o → (((copyHeap s.heap vs).update (s.heap.objs.size + 1) (Obj.mapSeq fun _ => (#[] : Array Value))).push (seqObj "tuple" vs.toArray 0) |>.push (seqObj "list" #[] 0)).get? b = some o := fun b o e =>
    sortingHeap_old (Nat.ne_of_lt (Nat.lt_succ_of_lt (Heap.lt_size e))) (copyHeap_old e)
  have new : ∀ b, s.heap.objs.size ≤ b → H b = none ∧ b ≠ X.env.locals ∧ b ∉ X.fs ∧ X.s_0.heap.objs.size ≤ b := fun b hb => ⟨I.hok.fresh hb, (ne_big I.lt hb).symm, I.nofs hb, Nat.le_trans I.sz hb⟩
  have I1 := I.kept (t' := s.toks) old
  obtain ⟨a1, a2, a3, a4⟩ := new _ aS
  have kb : s.heap.objs.size ≤ (((copyHeap s.heap vs).update (s.heap.objs.size + 1) (Obj.mapSeq fun _ => (#[] : Array Value))).push (seqObj "tuple" vs.toArray 0)).objs.size := by rw [hkS]; omega
  obtain ⟨k1, k2, k3, k4⟩ := new _ kb
  have pinlt : ∀ p ∈ X.pn ++ pins, p.1 < s.heap.objs.size := fun p hp => Heap.lt_size (I.pin p hp).1
  refine keyI_rest (X := X) (pins := pins) (H := H) (A := X.A.in1.in1) (f := f) (fo := fo) (kS := (((copyHeap s.heap vs).update (s.heap.objs.size + 1) (Obj.mapSeq fun _ => (#[] : Array Value))).push (seqObj "tuple" vs.toArray 0)).objs.size) (key := key)
    (s := { s with heap := (((copyHeap s.heap vs).update (s.heap.objs.size + 1) (Obj.mapSeq fun _ => (#[] : Array Value))).push (seqObj "tuple" vs.toArray 0)).push (seqObj "list" #[] 0) })
    (inv_repin I1 fun p hp => ?_) (Heap.get?_push_size _ rfl) k1 k2 k3 k4 (fun p hp => ?_) hv hZ (by show X.A.units + 1 + 1 + 2 < _; omega) turn ?_
  · rcases List.mem_append.mp hp with z | z
    · exact .inl z
    · simp only [List.mem_cons, List.not_mem_nil, or_false] at z
      rcases z with rfl | rfl
      · exact .inr ⟨old _ _ hf, hfn, hfL, hff, hfc⟩
      · exact .inr ⟨Heap.get?_push_of_some _ (Heap.get?_push_of_some _ ho1), a1, a2, a3, fun v z => by cases z⟩
  · simp only [List.mem_append, List.mem_cons, List.not_mem_nil, or_false] at hp
    rcases hp with z | z | rfl | rfl
    · exact ne_big (pinlt p (List.mem_append_left _ z)) kb
    · exact ne_big (pinlt p (List.mem_append_right _ z)) kb
    · exact ne_big (Heap.lt_size hf) kb
    · rw [hkS]; show s.heap.objs.size + 1 ≠ _; omega
  · intro H' s0 h' tk out c I0 ex kn an kp ⟨ko, hko⟩ hD KO
    refine ⟨rfl, .ref (s.heap.objs.size + 1), upd H' (s.heap.objs.size + 1) (.lst ((ns.mergeSort (keyLe key)).map V.int)), ?_, rfl, q H' _ ex an⟩
    have hout := keyedOut_each (R := fun v n => ∃ t, v = Value.int n t) (fun n => pkPy (key n)) KO (each_vals (h := s.heap) hv)
    have hval := vals_each hout
    have neA : ∀ b u, H' b = some u → b ≠ s.heap.objs.size + 1 := fun b u e => ne_of_none e an
    have neK : ∀ b u, H' b = some u → b ≠ (((copyHeap s.heap vs).update (s.heap.objs.size + 1) (Obj.mapSeq fun _ => (#[] : Array Value))).push (seqObj "tuple" vs.toArray 0)).objs.size := fun b u e => ne_of_none e kn
    refine I0.call (h' := h') (g' := s0.gens) (d' := s0.drawn) (t' := tk) (ch := [s.heap.objs.size + 1, (((copyHeap s.heap vs).update (s.heap.objs.size + 1) (Obj.mapSeq fun _ => (#[] : Array Value))).push (seqObj "tuple" vs.toArray 0)).objs.size]) ?_ ?_ I0.bare ?_
    · refine ⟨fun b o e n _ hx => ?_, fun b o e n _ hx => ⟨o.slots, ?_⟩, fun b o e n hx => ?_, fun b o e hx => ⟨o, ?_⟩, fun b xs e => by rw [upd_ne (neA _ _ e)]; exact e, fun b o u e => by rw [upd_ne (neA _ _ e)]; exact e, fun b ps e => ⟨#[], by rw [upd_ne (neA _ _ e)]; simpa using e⟩⟩
      · simp only [List.mem_cons, List.not_mem_nil, or_false, not_or] at hx; exact kp b o hx.1 hx.2 e
      · simp only [List.mem_cons, List.not_mem_nil, or_false, not_or] at hx; exact kp b o hx.1 hx.2 e
      · simp only [List.mem_cons, List.not_mem_nil, or_false, not_or] at hx; rw [upd_ne hx.1]; exact n
      · simp only [List.mem_cons, List.not_mem_nil, or_false, not_or] at hx; exact kp b o hx.1 hx.2 e
    · intro b u e
      by_cases hb : b = s.heap.objs.size + 1
      · subst hb
        rw [upd_same] at e
        cases e
        refine ⟨by rw [List.length_map, List.length_mergeSort]; omega, out, c, hval, hD⟩
      · rw [upd_ne hb] at e
        refine (I0.hok b u e).stay (fun d v hc z => ?_) (fun d z => by rw [upd_ne (neA _ _ z)]; exact z) fun d xs z => by rw [upd_ne (neA _ _ z)]; exact z
        rcases hc with rfl | hc
        · exact kp d v hb (neK _ _ e) z
        · exact kp d v (neA _ _ hc) (neK _ _ hc) z
    · intro b hb
      have hge : s.heap.objs.size ≤ b := by
        simp only [List.mem_cons, List.not_mem_nil, or_false] at hb
        rcases hb with rfl | rfl
        · omega
        · exact kb
      obtain ⟨_, b2, _, b4⟩ := new b hge
      refine ⟨.inr b4, b2, fun x c e z => ?_, fun p hp z => ?_⟩
      · obtain ⟨v, o, ho, _⟩ := I.cell x c e
        exact ne_big (Heap.lt_size ho) hge z
      · exact ne_big (pinlt p hp) hge z
theorem keyLe_pair (key : Int → Int × Int) : keyLe key = pairLe key := by
  unfold keyLe pkPy
  rw [dataLe_ii (fun n => (key n).1) (fun n => (key n).2)]
  funext a b
  unfold pairLe
  simp [Bool.decide_or, Bool.decide_and]
theorem Ext.seq {K : PySem.W.Frag} {H H' : Hp} {l : Addr} {xs : List V} (x : Ext H H') (h : SqL K H l xs) : SqL K H' l xs := by
  rcases h with (h | ⟨o, h⟩) | h
  · exact .inl (.inl (x.k _ _ h fun _ e => by cases e))
  · exact .inl (.inr ⟨o, x.k _ _ h fun _ e => by cases e⟩)
  · exact .inr h
theorem cxF {P : Program} {w : World} {outer : List Env} {H : Hp} {s s' : Shared} {e : Value} (h : L2.CX P w outer H s (fun _ _ _ => False) e s') : False := by
  obtain ⟨_, _, _, _, _, _, _, _, _, _, _, _, z⟩ := h
  exact z.elim
theorem roomL {k : Nat} {A : Around} (r : Room (k + 2) A) : Room (k + 1) A.in1.in1 :=
  ⟨r.hd, by have := r.dp; show A.depth + 3 * (k + 1) + 5 < _; omega, by have := r.un; show A.units + 1 + 1 + 16 * (k + 1) + 200 < _; omega⟩
theorem bind_one {q : Str} {v : Str} {vp : Pos} {body : Expr} {scope : Scope} {cl : List (Str × Addr)} {pm cv ctv u : Value} : bindArgs (PySem.W.kla_fn "<lambda>" q ⟨[], [⟨v, none, vp⟩], none, [], [], none, []⟩ body scope cl pm cv ctv) ⟨[u], []⟩ = pure ([v].zip [u]) := by
  have e : List.lookup v [(v, u)] = some u := by simp [List.lookup]
  unfold bindArgs
  simp [PySem.W.kla_fn, e, show seqItems? Value.none = pure none from rfl]
/-- sorted(a, key=lambda x: body) -/
def tSortLam (K : PySem.W.Frag) (N : List Str) (js : List Nat) (ta tb : TE) : TE := fun σ H Q => ta σ H fun x H1 => LamX.Tabs tbT H1 ∧ ∃ (l : Addr) (ns : List Int) (key : Int → Int × Int), x = .ref l ∧ SqL K H1 l (ns.map V.int) ∧
  (∀ H2 n, Ext H1 H2 → n ∈ ns → tb (NdefX.startF N [.int n] (js.map (NdefX.slotAt σ))) H2 fun kv H3 => Ext H2 H3 ∧ KeyP H3 kv (key n)) ∧
  ∀ H2 p, Ext H1 H2 → H2 p = none → Q (.ref p) (upd H2 p (.lst ((ns.mergeSort (pairLe key)).map V.int)))
theorem pe_sortLam {X : Cx} {a : Expr} {ta tb : TE} {p lpos kpos pos : Pos} {v : Str} {vp : Pos} {body : Expr} {scope : Scope} {c P : Addr} {N fr : List Str} {js : List Nat} {k : Nat} (hg : Gl X "sorted") (hm : X.mg "sorted" = none) (ha : PE X a ta)
    (na : starEach [a] X.env = (false, eval a X.env) :: starEach [] X.env) (hr : Room (k + 2) X.A) (TB : LamX.TabB X.base X.mg c P) (hcode : X.env.code = .ref c) (hT : (P, X.env.qual ++ "<lambda>") ∈ tbT) (hu : ∀ p ∈ tbT, p.1 = P → p.2 = X.env.qual ++ "<lambda>")
    (S : NdefX.NScope N [v] fr scope) (hfree : ∀ y ∈ scope.names, y.2 = .free → X.env.scope.names.lookup y.1 = some .cell ∨ X.env.scope.names.lookup y.1 = some .free) (hfr : ∀ y ∈ fr, (y, NameKind.free) ∈ scope.names) (hjs : js.map (fun j => X.N[j]?) = fr.map some)
    (hbody : ∀ (A : Around) (s : Shared) (H : Hp) (f c' : Addr), Room k (A.deeper (NdefX.envF (lamF (X.env.qual ++ "<lambda>") ⟨[], [⟨v, none, vp⟩], none, [], [], none, []⟩ scope (cloFrom X.env.cells scope.names []) c') f s.heap.objs.size)) → PE (NdefX.ncx (L2.CX X.prog X.w) X.prog X.w X.K X.mg X.base N (lamF (X.env.qual ++ "<lambda>") ⟨[], [⟨v, none, vp⟩], none, [], [], none, []⟩ scope (cloFrom X.env.cells scope.names []) c') f A X.stack s H (fun _ _ _ => False)) body tb) :
    PE X (.Call (.Name "sorted" p) [a] [⟨some "key", .Lambda ⟨[], [⟨v, none, vp⟩], none, [], [], none, []⟩ body scope lpos, kpos⟩] pos) (tSortLam X.K N js ta tb) := by
  refine ⟨fun pins s σ H Q I h => ?_⟩
  refine wpAny_Call_Name_kw (ld_blt I hg hm (show bootBuiltins "sorted" = some (.builtin "sorted") by decide +kernel) ?_)
  refine PyProof.Rows.callWith_kw (PyProof.Rows.args_cons (thn (ha.run pins s σ H _ I h) fun u s1 ⟨x, H1, I1, r1, q1⟩ => PyProof.Rows.args_nil ?_) na) (by unfold backTo; rw [na]; rfl) (by unfold backTo; rw [na]; rfl)
  obtain ⟨hT1, l, ns, key, rfl, hl, hk, q⟩ := q1
  cases r1
  show wpAny _ _ (evalAll ((do let v ← eval (.Lambda _ body scope lpos) X.env; standAt pos; pure v) :: [])) _ _ s1
  have hf : ∀ y ∈ scope.names, y.2 = .free → ∃ c, X.env.cells.lookup y.1 = some c := fun y hy e => (hfree y hy e).elim (fun z => I1.ok.has _ (.inl z)) fun z => I1.ok.has _ (.inr z)
  refine wpAny_evalAll_cons (wpAny_bind (lam_make3 I1 TB hcode hT hu hT1 rfl hf fun f c' pm ctv H2 s2 I2 ex hof hfn hge hc => wpAny_bind (wpAny_standAt (wpAny_pure ?_))))
  refine wpAny_evalAll_nil ?_
  show wpAny _ _ (call (.builtin "sorted") [.ref l] [(Str.ofString "key", .ref f)]) _ _ s2
  have hlt := I1.lt
  have hfL : f ≠ X.env.locals := (ne_big hlt hge).symm
  refine sort_key (key := key) (fo := PySem.W.kla_obj "<lambda>" (X.env.qual ++ "<lambda>") ⟨[], [⟨v, none, vp⟩], none, [], [], none, []⟩ body scope (cloFrom X.env.cells scope.names []) pm c' ctv) I2 (ex.seq hl) hof hfn hfL (I1.nofs hge) (fun v z => by cases z) (by have := hr.un; omega) ?_ (fun H3 p e3 n3 => by rw [keyLe_pair]; exact q H3 p (ex.trans e3) n3)
  intro pins' H' s' n t hn hpin I' e'
  obtain ⟨ho', -⟩ := I'.pin _ (List.mem_append_right _ hpin)
  have hc' : H' c' = some (LamX.CodeO c' (X.env.qual ++ "<lambda>")) := e'.k _ _ hc LamX.codeO_ne
  have cp : NdefX.Caps X (cloFrom X.env.cells scope.names []) fr js := NdefX.Caps.made I'.ok hfree hfr hjs
  refine wpAny_call (codeAny_mono (lam_run (CX := L2.CX X.prog X.w) (E := fun _ _ _ => False) (ws := js.map (NdefX.slotAt σ)) (vs := [.int n]) (us := [.int n t]) (fr := fr) S (roomL hr) I'.env0.in1.in1 ho' hc' (NdefX.cells_of I' cp) bind_one (.cons ⟨t, rfl⟩ .nil) rfl (fun hr' => hbody _ s' H' f c' hr') (hk H' n (ex.trans e') hn)) fun r s'' hq => ?_)
  cases r with
  | error e => exact cxF hq
  | ok fl =>
    cases fl with
    | ret u =>
      obtain ⟨kv, H3, I3, rv, e3, pk⟩ := I'.after (Q := fun kv H3 => Ext H' H3 ∧ KeyP H3 kv (key n)) hq
      exact ⟨kv, H3, I3, e3, rv, pk⟩
    | next => exact False.elim hq
    | brk => exact False.elim hq
    | cont => exact False.elim hq
end
end KP
/-! KPg: each form of expression, by the layer's rule. -/
namespace KP
open PySem L2

section
variable {g : GG} {M : Nm} {G : Cs} {sc : Scope}

/-- data wanted, from a result -/
theorem sp_d {t : TE} {f : Sg → Option R} (s : SP g.K t f) {ρ : Sg} {σ : L2.St} {W H : Hp} {r : R} {Q : VK} (sm : Sub W H) (en : EnvR g.K W ρ σ) (h : f ρ = some r) (w : WantD g.K W H r.d Q) : t σ H Q :=
  s ρ σ W H r Q sm en h w.r
theorem asB_some {r : R} {b : Bool} (h : asB r = some b) : r = .sh (.bl b) := by
  unfold asB at h
  split at h <;> cases h; rfl
theorem rep_bl {K : PySem.W.Frag} {W : Hp} {v : V} {b : Bool} (h : Rep K W v (.bl b)) : v = .bl b := by cases h; rfl
theorem rep_int {K : PySem.W.Frag} {W : Hp} {v : V} {b : Int} (h : Rep K W v (.int b)) : v = .int b := by cases h; rfl

theorem snd_k {e : Expr} {c : C} (h : chkE M (.k c) sc e = true) : SndE g M G sc e (.k c) := by
  unfold chkE at h
  split at h <;> try (cases h; done)
  rename_i c' j p
  have key : ∀ {t : TE}, (∀ X, Ctx g M sc X → PE X (.Constant c' j p) t) → (∀ σ H Q, (∀ v, (∀ W, Rep g.K W v c.d) → Q v H) → t σ H Q) → SndE g M G sc (.Constant c' j p) (.k c) := fun {t} h1 h2 =>
    .of h1 (fun ρ σ W H r Q sm en e w => by
      simp only [evp] at e; cases e
      exact h2 σ H Q fun v hv => w.sh sm (hv W)) rfl rfl
  cases c' <;> cases c <;> simp only [chkC] at h <;> try (cases h; done)
  · exact key (fun X c => pe_non) fun σ H Q q => q .non fun W => .non
  · simp at h; subst h
    exact key (fun X c => pe_bl) fun σ H Q q => q (.bl _) fun W => .bl _
  · simp at h; subst h
    exact key (fun X c => pe_int) fun σ H Q q => q (.int _) fun W => .int _
  · rename_i s u
    simp at h
    obtain ⟨rfl, h⟩ := h
    exact key (fun X c => pe_str) fun σ H Q q => q (.str _) fun W => .str _ h
theorem snd_v {e : Expr} {i : Nat} (h : chkE M (.v i) sc e = true) : SndE g M G sc e (.v i) := by
  unfold chkE at h
  split at h <;> try (cases h; done)
  rename_i x p
  simp only [Bool.and_eq_true, decide_eq_true_eq, Bool.not_eq_true'] at h
  obtain ⟨⟨⟨h1, h2⟩, h3⟩, h4⟩ := h
  refine .of (t := tVar i) (fun X c => pe_var (by rw [c.N]; exact h1) (by rw [c.scope]; exact vis_of h2) h3 h4) (fun ρ σ W H r Q sm en e w => ?_) rfl rfl
  simp only [evp] at e
  split at e <;> cases e
  rename_i d hd
  obtain ⟨v, hv, rp⟩ := en.2 i d hd
  exact ⟨v, hv, w.sh sm rp⟩
theorem snd_b2 {o : O2} {a b : E} {l r : Expr} {p : Pos} (ha : SndE g M G sc l a) (hb : SndE g M G sc r b) : SndE g M G sc (.BinOp l o.op r p) (.b2 o a b) := by
  obtain ⟨ta, _, ha, sa, _, na⟩ := ha
  obtain ⟨tb, _, hb, sb, _, nb⟩ := hb
  refine .of (t := tOp (rO2 g.K o) ta tb) (fun X c => by rw [← c.K]; exact pe_op (o2_ok o) (ha X c).1 (hb X c).1) (fun ρ σ W H r Q sm en e w => ?_) rfl rfl
  simp only [evp] at e
  obtain ⟨x, ex, e⟩ := Option.bind_eq_some_iff.mp e
  obtain ⟨y, ey, e⟩ := Option.bind_eq_some_iff.mp e
  refine sp_d sa sm en ex fun v W1 H1 g1 r1 => ?_
  refine sp_d sb g1.wh (en.mono g1.sW) ey fun u W2 H2 g2 r2 => ?_
  exact o2_sem g2.wh (r1.mono g2.sW) r2 e (w.at (g1.trans g2))
theorem snd_neg {a : E} {x : Expr} {p : Pos} (ha : SndE g M G sc x a) : SndE g M G sc (.UnaryOp .USub x p) (.neg a) := by
  obtain ⟨ta, _, ha, sa, _, na⟩ := ha
  refine .of (t := tUn (rU fun i => .int (-i)) ta) (fun X c => pe_un un_neg (ha X c).1) (fun ρ σ W H r Q sm en e w => ?_) rfl rfl
  simp only [evp] at e
  obtain ⟨x, ex, e⟩ := Option.bind_eq_some_iff.mp e
  split at e <;> cases e
  rename_i i hi
  refine sp_d sa sm en ex fun v W1 H1 g1 r1 => ?_
  rw [hi] at r1
  exact ⟨i, rep_int r1, (w.at g1).sh g1.wh (.int _)⟩
theorem room65 {k : Nat} {A : Around} (r : Room k A) : A.units + 65 < cLine := by have := r.un; omega
theorem snd_c2 {o : C2} {a b : E} {l r : Expr} {p : Pos} (ha : SndE g M G sc l a) (hb : SndE g M G sc r b) : SndE g M G sc (.Compare l [o.op] [r] p) (.c2 o a b) := by
  obtain ⟨ta, _, ha, sa, _, na⟩ := ha
  obtain ⟨tb, _, hb, sb, _, nb⟩ := hb
  have sem : ∀ {ρ : Sg} {σ : L2.St} {W H : Hp} {r : Bool} {Q : VK}, Sub W H → EnvR g.K W ρ σ → evp G (.c2 o a b) ρ = some (.sh (.bl r)) → (∀ W' H', Grow W H W' H' → Q (.bl r) H') → tOp (rC2 g.K o) ta tb σ H Q := fun {ρ σ W H r Q} sm en e w => by
    simp only [evp] at e
    obtain ⟨x, ex, e⟩ := Option.bind_eq_some_iff.mp e
    obtain ⟨y, ey, e⟩ := Option.bind_eq_some_iff.mp e
    obtain ⟨z, ez, e⟩ := Option.map_eq_some_iff.mp e
    cases e
    refine sp_d sa sm en ex fun v W1 H1 g1 r1 => ?_
    refine sp_d sb g1.wh (en.mono g1.sW) ey fun u W2 H2 g2 r2 => ?_
    exact c2_sem g2.wh (r1.mono g2.sW) r2 ez (w W2 H2 (g1.trans g2))
  refine ⟨tOp (rC2 g.K o) ta tb, tTest (tOp (rC2 g.K o) ta tb), fun X c => ?_, fun ρ σ W H r Q sm en e w => ?_, fun ρ σ W H b' Q sm en e w => ?_, rfl⟩
  · rw [← c.K]
    exact ⟨pe_cmpR (c2_ok (room65 c.room) o) (ha X c).1 (hb X c).1 (behind_of nb), pt_cmpR (c2_ok (room65 c.room) o) (ha X c).1 (hb X c).1 (behind_of nb)⟩
  · have e0 := e
    simp only [evp] at e
    obtain ⟨x, ex, e⟩ := Option.bind_eq_some_iff.mp e
    obtain ⟨y, ey, e⟩ := Option.bind_eq_some_iff.mp e
    obtain ⟨z, ez, e⟩ := Option.map_eq_some_iff.mp e
    subst e
    exact sem sm en e0 fun W' H' gr => w (.bl z) W' H' gr (show Rep _ _ _ _ from .bl z)
  · unfold evb at e
    obtain ⟨r, h1, h2⟩ := Option.bind_eq_some_iff.mp e
    rw [asB_some h2] at h1
    exact sem sm en h1 fun W' H' gr => ⟨b', rfl, w W' H' gr⟩
theorem snd_ch {o o' : C2} {a b c : E} {l m r : Expr} {p : Pos} (ha : SndE g M G sc l a) (hb : SndE g M G sc m b) (hc : SndE g M G sc r c) : SndE g M G sc (.Compare l [o.op, o'.op] [m, r] p) (.ch o o' a b c) := by
  obtain ⟨ta, _, ha, sa, _, na⟩ := ha
  obtain ⟨tb, _, hb, sb, _, nb⟩ := hb
  obtain ⟨tc, _, hc, s_c, _, nc⟩ := hc
  have sem : ∀ {ρ : Sg} {σ : L2.St} {W H : Hp} {r : Bool} {Q : VK}, Sub W H → EnvR g.K W ρ σ → evp G (.ch o o' a b c) ρ = some (.sh (.bl r)) → (∀ W' H', Grow W H W' H' → Q (.bl r) H') → tChain (rC2 g.K o) (rC2 g.K o') ta tb tc σ H Q := fun {ρ σ W H r Q} sm en e w => by
    simp only [evp] at e
    obtain ⟨x, ex, e⟩ := Option.bind_eq_some_iff.mp e
    obtain ⟨y, ey, e⟩ := Option.bind_eq_some_iff.mp e
    obtain ⟨k, ek, e⟩ := Option.bind_eq_some_iff.mp e
    refine sp_d sa sm en ex fun v W1 H1 g1 r1 => ?_
    refine sp_d sb g1.wh (en.mono g1.sW) ey fun u W2 H2 g2 r2 => ?_
    refine c2_sem g2.wh (r1.mono g2.sW) r2 ek ⟨k, rfl, ?_⟩
    cases k with
    | false =>
      simp at e
      subst e
      exact iteF (w W2 H2 (g1.trans g2))
    | true =>
      rw [if_pos rfl] at e
      refine iteT ?_
      obtain ⟨z, ez, e⟩ := Option.bind_eq_some_iff.mp e
      obtain ⟨q, eq, e⟩ := Option.map_eq_some_iff.mp e
      cases e
      refine sp_d s_c g2.wh ((en.mono g1.sW).mono g2.sW) ez fun z' W3 H3 g3 r3 => ?_
      exact c2_sem g3.wh (r2.mono g3.sW) r3 eq (w W3 H3 ((g1.trans g2).trans g3))
  refine ⟨tChain (rC2 g.K o) (rC2 g.K o') ta tb tc, tTest (tChain (rC2 g.K o) (rC2 g.K o') ta tb tc), fun X k => ?_, fun ρ σ W H r Q sm en e w => ?_, fun ρ σ W H b' Q sm en e w => ?_, rfl⟩
  · rw [← k.K]
    have hm : lastMarks [o.op, o'.op] [m, r] = false := behind_of nc
    exact ⟨pe_chain (c2_ok (room65 k.room) o) (c2_ok (room65 k.room) o') (ha X k).1 (hb X k).1 (hc X k).1 hm, pt_chain (c2_ok (room65 k.room) o) (c2_ok (room65 k.room) o') (ha X k).1 (hb X k).1 (hc X k).1 hm⟩
  · have e0 := e
    have e1 : ∃ q, r = .sh (.bl q) := by
      simp only [evp] at e
      obtain ⟨x, ex, e⟩ := Option.bind_eq_some_iff.mp e
      obtain ⟨y, ey, e⟩ := Option.bind_eq_some_iff.mp e
      obtain ⟨k, ek, e⟩ := Option.bind_eq_some_iff.mp e
      cases k with
      | false => simp at e; exact ⟨_, e.symm⟩
      | true =>
        rw [if_pos rfl] at e
        obtain ⟨z, ez, e⟩ := Option.bind_eq_some_iff.mp e
        obtain ⟨q, eq, e⟩ := Option.map_eq_some_iff.mp e
        exact ⟨q, e.symm⟩
    obtain ⟨q, rfl⟩ := e1
    exact sem sm en e0 fun W' H' gr => w (.bl q) W' H' gr (show Rep _ _ _ _ from .bl q)
  · unfold evb at e
    obtain ⟨r, h1, h2⟩ := Option.bind_eq_some_iff.mp e
    rw [asB_some h2] at h1
    exact sem sm en h1 fun W' H' gr => ⟨b', rfl, w W' H' gr⟩

theorem st_b {tt : TT} {a : E} (s : ST g.K tt (evb G a)) {ρ : Sg} {σ : L2.St} {W H : Hp} {b : Bool} {Q : Bool → Hp → Prop} (sm : Sub W H) (en : EnvR g.K W ρ σ) (h : (evp G a ρ).bind asB = some b) (w : ∀ W' H', Grow W H W' H' → Q b H') : tt σ H Q :=
  s ρ σ W H b Q sm en h w
theorem snd_nt {a : E} {x : Expr} {p : Pos} (ha : SndE g M G sc x a) : SndE g M G sc (.UnaryOp .Not x p) (.nt a) := by
  obtain ⟨ta, tt, ha, sa, st, na⟩ := ha
  refine ⟨tNotV ta, tNot tt, fun X c => ⟨pe_not (ha X c).1, pt_not (ha X c).2⟩, fun ρ σ W H r Q sm en e w => ?_, fun ρ σ W H b Q sm en e w => ?_, rfl⟩
  · simp only [evp] at e
    obtain ⟨b, eb, e⟩ := Option.map_eq_some_iff.mp e
    subst e
    obtain ⟨r, h1, h2⟩ := Option.bind_eq_some_iff.mp eb
    rw [asB_some h2] at h1
    refine sp_d sa sm en h1 fun v W1 H1 g1 r1 => ?_
    exact ⟨b, rep_bl r1, (w.at g1).sh g1.wh (.bl _)⟩
  · unfold evb at e
    obtain ⟨r, h1, h2⟩ := Option.bind_eq_some_iff.mp e
    simp only [evp] at h1
    obtain ⟨c, ec, h1⟩ := Option.map_eq_some_iff.mp h1
    subst h1
    cases h2
    exact st_b st sm en ec fun W' H' gr => w W' H' gr

/-- a list of expressions: as arguments, as a chain of and, of or -/
structure SndS (g : GG) (M : Nm) (G : Cs) (sc : Scope) (es : List Expr) (irs : Es) : Prop where
  pa : ∃ ta, (∀ X, Ctx g M sc X → PA X es ta) ∧ SA g.K ta (evs G irs)
  nice : ∀ e ∈ es, niceB e = true
  nil : es = [] → irs = .nil
  el : ∀ a y r rs, irs = .cons a r → es = y :: rs → SndE g M G sc y a
  el2 : ∀ a b y z r rs, irs = .cons a (.cons b r) → es = y :: z :: rs → SndE g M G sc z b
  len : ∀ ρ ds, evs G irs ρ = some ds → ds.length = es.length
  an : es ≠ [] → ∀ p, ∃ t tt, (∀ X, Ctx g M sc X → PE X (.BoolOp .And es p) t ∧ PW X (.BoolOp .And es p) tt) ∧ SP g.K t (fun ρ => (evAnd G irs ρ).map fun b => .sh (.bl b)) ∧ ST g.K tt (evAnd G irs)
  pk : ∀ kws : List Keyword, kws.map (·.value) = es → ∃ ta, (∀ X, Ctx g M sc X → PK X kws ta) ∧ SA g.K ta (evs G irs)
  or : es ≠ [] → ∀ p, ∃ t tt, (∀ X, Ctx g M sc X → PE X (.BoolOp .Or es p) t ∧ PW X (.BoolOp .Or es p) tt) ∧ SP g.K t (fun ρ => (evOr G irs ρ).map fun b => .sh (.bl b)) ∧ ST g.K tt (evOr G irs)
theorem snds_nil : SndS g M G sc [] .nil := by
  have sn : SA g.K tNil (evs G .nil) := fun ρ σ W H ds Q sm en e w => by
    simp only [evs] at e; cases e
    exact w [] W H (Grow.refl sm) .nil
  refine ⟨⟨tNil, fun X c => pa_nil, sn⟩, fun e h => (by cases h), fun _ => rfl, fun _ _ _ _ h => (by cases h), fun _ _ _ _ _ _ h => (by cases h), fun ρ ds e => (by simp only [evs] at e; cases e; rfl), fun h => absurd rfl h, fun kws hk => ?_, fun h => absurd rfl h⟩
  obtain rfl : kws = [] := by simpa using hk
  exact ⟨tNil, fun X c => pk_nil, sn⟩
theorem snds_cons {e : Expr} {es : List Expr} {a : E} {irs : Es} (h : SndE g M G sc e a) (hs : SndS g M G sc es irs) : SndS g M G sc (e :: es) (.cons a irs) := by
  have h0 := h
  obtain ⟨ta, tt, ha, sa, st, na⟩ := h
  have ev1 : ∀ {ρ : Sg} {b : Bool}, (evp G a ρ).bind asB = some b → evp G a ρ = some (.sh (.bl b)) := fun {ρ b} h => by
    obtain ⟨r, h1, h2⟩ := Option.bind_eq_some_iff.mp h
    rw [asB_some h2] at h1; exact h1
  have sc1 : ∀ {tr : TA}, SA g.K tr (evs G irs) → SA g.K (tCons ta tr) (evs G (.cons a irs)) := fun {tr} sr ρ σ W H ds Q sm en e w => by
    simp only [evs] at e
    obtain ⟨x, ex, e⟩ := Option.bind_eq_some_iff.mp e
    obtain ⟨xs, exs, e⟩ := Option.map_eq_some_iff.mp e
    subst e
    refine sp_d sa sm en ex fun v W1 H1 g1 r1 => ?_
    refine sr ρ σ W1 H1 xs _ g1.wh (en.mono g1.sW) exs fun vs W2 H2 g2 r2 => ?_
    exact w _ W2 H2 (g1.trans g2) (.cons (r1.mono g2.sW) r2)
  refine ⟨?_, fun x hx => ?_, fun z => (by cases z), fun a' y r rs h1 h2 => (by cases h1; cases h2; exact h0), fun a' b' y z r rs h1 h2 => (by cases h1; cases h2; exact hs.el _ _ _ _ rfl rfl), fun ρ ds e => (by
    simp only [evs] at e
    obtain ⟨x, ex, e⟩ := Option.bind_eq_some_iff.mp e
    obtain ⟨xs, exs, e⟩ := Option.map_eq_some_iff.mp e
    subst e
    simp [hs.len ρ xs exs]), fun _ p => ?_, fun kws hk => ?_, fun _ p => ?_⟩
  · obtain ⟨tr, hr, sr⟩ := hs.pa
    refine ⟨tCons ta tr, fun X c => pa_cons (ha X c).1 (hr X c) (star_of na), sc1 sr⟩
  · rcases List.mem_cons.mp hx with rfl | hx
    · exact na
    · exact hs.nice x hx
  · cases es with
    | nil =>
      have := hs.nil rfl; subst this
      have e1 : ∀ {ρ : Sg} {b : Bool}, evAnd G (.cons a .nil) ρ = some b → (evp G a ρ).bind asB = some b := fun {ρ b} h => by
        simp only [evAnd] at h
        obtain ⟨c, h1, h2⟩ := Option.bind_eq_some_iff.mp h
        cases c <;> simp at h2 <;> subst h2 <;> exact h1
      refine ⟨ta, tt, fun X c => ⟨pe_one (ha X c).1, pw_and1 (ha X c).2⟩, fun ρ σ W H r Q sm en e w => ?_, fun ρ σ W H b Q sm en e w => st_b st sm en (e1 e) w⟩
      obtain ⟨b, eb, e⟩ := Option.map_eq_some_iff.mp e
      subst e
      exact sa ρ σ W H _ Q sm en (ev1 (e1 eb)) w
    | cons y ys =>
      obtain ⟨tr, tw, hr, sr, swr⟩ := hs.an (by simp) p
      refine ⟨tAndV ta tr, tAnd tt tw, fun X c => ⟨pe_and (ha X c).1 (hr X c).1, pw_and (ha X c).2 (hr X c).2⟩, fun ρ σ W H r Q sm en e w => ?_, fun ρ σ W H b Q sm en e w => ?_⟩
      · obtain ⟨b, eb, e⟩ := Option.map_eq_some_iff.mp e
        subst e
        simp only [evAnd] at eb
        obtain ⟨c, h1, h2⟩ := Option.bind_eq_some_iff.mp eb
        refine sp_d sa sm en (ev1 h1) fun v W1 H1 g1 r1 => ⟨c, rep_bl r1, ?_⟩
        cases c with
        | false =>
          simp at h2; subst h2
          exact iteF ((w.at g1).sh g1.wh (.bl _))
        | true =>
          rw [if_pos rfl] at h2
          exact iteT (sr ρ σ W1 H1 _ Q g1.wh (en.mono g1.sW) (by show Option.map _ (evAnd G irs ρ) = _; rw [h2]; rfl) (w.at g1))
      · simp only [evAnd] at e
        obtain ⟨c, h1, h2⟩ := Option.bind_eq_some_iff.mp e
        refine st_b st sm en h1 fun W1 H1 g1 => ?_
        cases c with
        | false =>
          simp at h2; subst h2
          exact iteF (w W1 H1 g1)
        | true =>
          rw [if_pos rfl] at h2
          exact iteT (swr ρ σ W1 H1 _ Q g1.wh (en.mono g1.sW) h2 fun W2 H2 g2 => w W2 H2 (g1.trans g2))
  · cases kws with
    | nil => cases hk
    | cons k kws =>
      obtain ⟨nm, val, kp⟩ := k
      have hk : val = e ∧ kws.map (·.value) = es := by simpa using hk
      obtain ⟨tr, hr, sr⟩ := hs.pk kws hk.2
      rw [hk.1]
      exact ⟨tCons ta tr, fun X c => pk_cons (ha X c).1 (hr X c), sc1 sr⟩
  · cases es with
    | nil =>
      have := hs.nil rfl; subst this
      have e1 : ∀ {ρ : Sg} {b : Bool}, evOr G (.cons a .nil) ρ = some b → (evp G a ρ).bind asB = some b := fun {ρ b} h => by
        simp only [evOr] at h
        obtain ⟨c, h1, h2⟩ := Option.bind_eq_some_iff.mp h
        cases c <;> simp at h2 <;> subst h2 <;> exact h1
      refine ⟨ta, tt, fun X c => ⟨pe_one (ha X c).1, pw_or1 (ha X c).2⟩, fun ρ σ W H r Q sm en e w => ?_, fun ρ σ W H b Q sm en e w => st_b st sm en (e1 e) w⟩
      obtain ⟨b, eb, e⟩ := Option.map_eq_some_iff.mp e
      subst e
      exact sa ρ σ W H _ Q sm en (ev1 (e1 eb)) w
    | cons y ys =>
      obtain ⟨tr, tw, hr, sr, swr⟩ := hs.or (by simp) p
      refine ⟨tOrV ta tr, tOr tt tw, fun X c => ⟨pe_or (ha X c).1 (hr X c).1, pw_or (ha X c).2 (hr X c).2⟩, fun ρ σ W H r Q sm en e w => ?_, fun ρ σ W H b Q sm en e w => ?_⟩
      · obtain ⟨b, eb, e⟩ := Option.map_eq_some_iff.mp e
        subst e
        simp only [evOr] at eb
        obtain ⟨c, h1, h2⟩ := Option.bind_eq_some_iff.mp eb
        refine sp_d sa sm en (ev1 h1) fun v W1 H1 g1 r1 => ⟨c, rep_bl r1, ?_⟩
        cases c with
        | true =>
          simp at h2; subst h2
          exact iteT ((w.at g1).sh g1.wh (.bl _))
        | false =>
          rw [if_neg (by simp)] at h2
          exact iteF (sr ρ σ W1 H1 _ Q g1.wh (en.mono g1.sW) (by show Option.map _ (evOr G irs ρ) = _; rw [h2]; rfl) (w.at g1))
      · simp only [evOr] at e
        obtain ⟨c, h1, h2⟩ := Option.bind_eq_some_iff.mp e
        refine st_b st sm en h1 fun W1 H1 g1 => ?_
        cases c with
        | true =>
          simp at h2; subst h2
          exact iteT (w W1 H1 g1)
        | false =>
          rw [if_neg (by simp)] at h2
          exact iteF (swr ρ σ W1 H1 _ Q g1.wh (en.mono g1.sW) h2 fun W2 H2 g2 => w W2 H2 (g1.trans g2))
end
end KP
/-! KPh: displays, subscripts, slices, calls of built-in functions and methods, isinstance, calls of defs. -/
namespace KP
open PySem L2

section
variable {g : GG} {M : Nm} {G : Cs} {sc : Scope}
theorem snd_ife {c a b : E} {t x y : Expr} {p : Pos} (hc : SndE g M G sc t c) (ha : SndE g M G sc x a) (hb : SndE g M G sc y b) : SndE g M G sc (.IfExp t x y p) (.ife c a b) := by
  obtain ⟨tc, tt, hc, s_c, stc, nc⟩ := hc
  obtain ⟨ta, tta, ha, sa, sta, na⟩ := ha
  obtain ⟨tb, ttb, hb, sb, stb, nb⟩ := hb
  refine ⟨tIf tt ta tb, fun σ H Q => tt σ H fun c H1 => if c = true then tta σ H1 Q else ttb σ H1 Q, fun X k => ⟨pe_ifExp (hc X k).2 (ha X k).1 (hb X k).1, ⟨fun pins s σ H Q I h => ?_⟩⟩, fun ρ σ W H r Q sm en e w => ?_, fun ρ σ W H r Q sm en e w => ?_, rfl⟩
  · refine PyProof.Rows.isTrue_IfExp (thn ((hc X k).2.run pins s σ H _ I h) fun d s1 ⟨H1, I1, q1⟩ => ?_)
    cases d with
    | true => exact (ha X k).2.run pins s1 σ H1 Q I1 (by simpa using q1)
    | false => exact (hb X k).2.run pins s1 σ H1 Q I1 (by simpa using q1)
  · simp only [evp] at e
    obtain ⟨d, ed, e⟩ := Option.bind_eq_some_iff.mp e
    refine st_b stc sm en ed fun W1 H1 g1 => ?_
    cases d with
    | true => exact iteT (sa ρ σ W1 H1 r Q g1.wh (en.mono g1.sW) (by simpa using e) (w.at g1))
    | false => exact iteF (sb ρ σ W1 H1 r Q g1.wh (en.mono g1.sW) (by simpa using e) (w.at g1))
  · unfold evb at e
    obtain ⟨z, ez, e2⟩ := Option.bind_eq_some_iff.mp e
    simp only [evp] at ez
    obtain ⟨d, ed, ez⟩ := Option.bind_eq_some_iff.mp ez
    refine st_b stc sm en ed fun W1 H1 g1 => ?_
    cases d with
    | true => exact iteT (st_b sta g1.wh (en.mono g1.sW) (by simp at ez; rw [ez]; exact e2) fun W2 H2 g2 => w W2 H2 (g1.trans g2))
    | false => exact iteF (st_b stb g1.wh (en.mono g1.sW) (by simp at ez; rw [ez]; exact e2) fun W2 H2 g2 => w W2 H2 (g1.trans g2))
theorem snd_tup {es : Es} {xs : List Expr} {k : Nat} {p : Pos} (h : SndS g M G sc xs es) : SndE g M G sc (.Tuple xs k p) (.tup es) := by
  obtain ⟨ta, ha, sa⟩ := h.pa
  refine .of (t := tTup ta) (fun X c => pe_tup (ha X c)) (fun ρ σ W H r Q sm en e w => ?_) rfl rfl
  simp only [evp] at e
  obtain ⟨ds, ed, e⟩ := Option.bind_eq_some_iff.mp e
  split at e <;> cases e
  rename_i l
  refine sa ρ σ W H ds _ sm en ed fun vs W1 H1 g1 r1 => ⟨by rw [r1.length]; exact Nat.le_trans l lim_line, fun q hq => ?_⟩
  exact (w.at g1).tup g1.wh hq r1
theorem snd_lst {es : Es} {xs : List Expr} {p : Pos} (h : SndS g M G sc xs es) : SndE g M G sc (.List xs p) (.lst es) := by
  obtain ⟨ta, ha, sa⟩ := h.pa
  refine .of (t := tLst ta) (fun X c => pe_lst (ha X c)) (fun ρ σ W H r Q sm en e w => ?_) rfl rfl
  simp only [evp] at e
  obtain ⟨ds, ed, e⟩ := Option.bind_eq_some_iff.mp e
  split at e <;> cases e
  rename_i l
  refine sa ρ σ W H ds _ sm en ed fun vs W1 H1 g1 r1 => ⟨by rw [r1.length]; exact Nat.le_trans l lim_line, fun q hq => ?_⟩
  exact (w.at g1).fl g1.wh hq l r1
theorem room1 {k : Nat} {A : Around} (r : Room k A) : A.units + 1 < cLine := by have := r.un; omega
theorem snd_ix {a b : E} {x y : Expr} {p : Pos} (ha : SndE g M G sc x a) (hb : SndE g M G sc y b) : SndE g M G sc (.Subscript x y p) (.ix a b) := by
  obtain ⟨ta, _, ha, sa, _, na⟩ := ha
  obtain ⟨tb, _, hb, sb, _, nb⟩ := hb
  refine .of (t := tOp (rIxA g.K) ta tb) (fun X c => by rw [← c.K]; exact pe_ix (ix_ok (room1 c.room)) (ha X c).1 (hb X c).1 (plainIx_of nb)) (fun ρ σ W H r Q sm en e w => ?_) rfl rfl
  simp only [evp] at e
  obtain ⟨x, ex, e⟩ := Option.bind_eq_some_iff.mp e
  obtain ⟨y, ey, e⟩ := Option.bind_eq_some_iff.mp e
  obtain ⟨d, ed, e⟩ := Option.map_eq_some_iff.mp e
  subst e
  refine sp_d sa sm en ex fun v W1 H1 g1 r1 => ?_
  refine sp_d sb g1.wh (en.mono g1.sW) ey fun u W2 H2 g2 r2 => ?_
  exact ix_sem g2.wh (r1.mono g2.sW) r2 ed fun z hz => (w.at (g1.trans g2)).sh g2.wh hz
/-- an optional part of a slice -/
def SndO (g : GG) (M : Nm) (G : Cs) (sc : Scope) (e : Option Expr) (ir : Eo) : Prop :=
  ∃ t : TO, (∀ X, Ctx g M sc X → PO X e t) ∧ ∀ ρ σ W H o (Q : Option Int → Hp → Prop), Sub W H → EnvR g.K W ρ σ → evo G ir ρ = some o → (∀ W' H', Grow W H W' H' → Q o H') → t σ H Q
theorem sndo_no : SndO g M G sc none .no :=
  ⟨tNoPart, fun X c => po_none, fun ρ σ W H o Q sm en e w => by simp only [evo] at e; cases e; exact w W H (Grow.refl sm)⟩
theorem sndo_so {e : Expr} {a : E} (ha : SndE g M G sc e a) : SndO g M G sc (some e) (.so a) := by
  obtain ⟨ta, _, ha, sa, _, na⟩ := ha
  refine ⟨tPart ta, fun X c => po_some (ha X c).1, fun ρ σ W H o Q sm en e w => ?_⟩
  simp only [evo] at e
  obtain ⟨x, ex, e⟩ := Option.bind_eq_some_iff.mp e
  split at e <;> cases e
  rename_i i hi
  refine sp_d sa sm en ex fun v W1 H1 g1 r1 => ?_
  rw [hi] at r1
  exact ⟨i, rep_int r1, w W1 H1 g1⟩
theorem snd_sl {a : E} {lo hi : Eo} {x : Expr} {l h : Option Expr} {p p2 : Pos} (ha : SndE g M G sc x a) (hl : SndO g M G sc l lo) (hh : SndO g M G sc h hi) : SndE g M G sc (.Subscript x (.Slice l h none p2) p) (.sl a lo hi) := by
  obtain ⟨ta, _, ha, sa, _, na⟩ := ha
  obtain ⟨tl, hl, s_l⟩ := hl
  obtain ⟨th, hh, s_h⟩ := hh
  refine .of (t := tSl (rSlA g.K) ta tl th) (fun X c => by rw [← c.K]; exact pe_slice sl_ok (ha X c).1 (hl X c) (hh X c)) (fun ρ σ W H r Q sm en e w => ?_) rfl rfl
  simp only [evp] at e
  obtain ⟨x, ex, e⟩ := Option.bind_eq_some_iff.mp e
  obtain ⟨i, ei, e⟩ := Option.bind_eq_some_iff.mp e
  obtain ⟨j, ej, e⟩ := Option.bind_eq_some_iff.mp e
  refine sp_d sa sm en ex fun v W1 H1 g1 r1 => ?_
  refine s_l ρ σ W1 H1 i _ g1.wh (en.mono g1.sW) ei fun W2 H2 g2 => ?_
  refine s_h ρ σ W2 H2 j _ g2.wh ((en.mono g1.sW).mono g2.sW) ej fun W3 H3 g3 => ?_
  exact sl_sem g3.wh ((r1.mono g2.sW).mono g3.sW) e (w.at ((g1.trans g2).trans g3))

/-! ### calls of built-in functions -/
theorem bi_boot : ∀ b : Bi, bootBuiltins b.name = some b.val
  | .len => by decide +kernel
  | .int => by decide +kernel
  | .max => by decide +kernel
  | .min => by decide +kernel
  | .sum => by decide +kernel
  | .sorted => by decide +kernel
  | .list => by decide +kernel
  | .tuple => by decide +kernel
  | .str => by decide +kernel
  | .all => by decide +kernel
theorem bi_name : ∀ b : Bi, b.name ≠ "__name__" ∧ (b.name == ("__debug__" : Str)) = false
  | .len => by decide +kernel
  | .int => by decide +kernel
  | .max => by decide +kernel
  | .min => by decide +kernel
  | .sum => by decide +kernel
  | .sorted => by decide +kernel
  | .list => by decide +kernel
  | .tuple => by decide +kernel
  | .str => by decide +kernel
  | .all => by decide +kernel
theorem pe_bi {X : Cx} (b : Bi) {r : List V → Hp → VK → Prop} {e : Expr} {es : List Expr} {t : TA} {p pos : Pos} (hc : CallR X b.val r) (hg : Gl X b.name) (hm : X.mg b.name = none) (ha : PA X (e :: es) t)
    (he : starEach (e :: es) X.env = (false, eval e X.env) :: starEach es X.env) (hpl : (backTo pos (starEach es X.env)).any (·.1) = false) : PE X (.Call (.Name b.name p) (e :: es) [] pos) (tCB r t) := by
  have hb := bi_boot b
  have hn := bi_name b
  cases b <;> first | exact pe_callB hc hg hm hb ha hn.1 hn.2 he hpl | exact pe_callTy hc hg hm hb ha hn.1 hn.2 he hpl
theorem snd_bi {f : Bi} {es : Es} {x : Expr} {xs : List Expr} {p pos : Pos} (F : Facts g M G) (h : SndS g M G sc (x :: xs) es) (hb : M.blt sc f.name = true) : SndE g M G sc (.Call (.Name f.name p) (x :: xs) [] pos) (.bi f es) := by
  obtain ⟨ta, ha, sa⟩ := h.pa
  have hx := h.nice x List.mem_cons_self
  have hxs : ∀ e ∈ xs, niceB e = true := fun e he => h.nice e (List.mem_cons_of_mem _ he)
  refine .of (t := tCB (rBi g.K f) ta) (fun X c => ?_) (fun ρ σ W H r Q sm en e w => ?_) rfl rfl
  · obtain ⟨h1, h2⟩ := c.blt F hb
    rw [← c.K]
    exact pe_bi f (bi_ok c.calm f) h1 h2 (ha X c) (star_of hx) (star_any hxs)
  · simp only [evp] at e
    obtain ⟨ds, ed, e⟩ := Option.bind_eq_some_iff.mp e
    refine sa ρ σ W H ds _ sm en ed fun vs W1 H1 g1 r1 => ?_
    exact bi_sem g1.wh r1 e (w.at g1)

/-! ### isinstance -/
theorem kit_one {K : PySem.W.Frag} : ∀ (u t : Ty), PySem.W.kitOne K (.type u.name) (.type t.name) = some (decide (u = t) || (decide (u = .bool) && decide (t = .int)))
  | .int, .int => kit_ty (by decide +kernel)
  | .int, .bool => kit_ty (by decide +kernel)
  | .int, .str => kit_ty (by decide +kernel)
  | .int, .list => kit_ty (by decide +kernel)
  | .int, .tuple => kit_ty (by decide +kernel)
  | .bool, .int => kit_ty (by decide +kernel)
  | .bool, .bool => kit_ty (by decide +kernel)
  | .bool, .str => kit_ty (by decide +kernel)
  | .bool, .list => kit_ty (by decide +kernel)
  | .bool, .tuple => kit_ty (by decide +kernel)
  | .str, .int => kit_ty (by decide +kernel)
  | .str, .bool => kit_ty (by decide +kernel)
  | .str, .str => kit_ty (by decide +kernel)
  | .str, .list => kit_ty (by decide +kernel)
  | .str, .tuple => kit_ty (by decide +kernel)
  | .list, .int => kit_ty (by decide +kernel)
  | .list, .bool => kit_ty (by decide +kernel)
  | .list, .str => kit_ty (by decide +kernel)
  | .list, .list => kit_ty (by decide +kernel)
  | .list, .tuple => kit_ty (by decide +kernel)
  | .tuple, .int => kit_ty (by decide +kernel)
  | .tuple, .bool => kit_ty (by decide +kernel)
  | .tuple, .str => kit_ty (by decide +kernel)
  | .tuple, .list => kit_ty (by decide +kernel)
  | .tuple, .tuple => kit_ty (by decide +kernel)
theorem kit_none {K : PySem.W.Frag} : ∀ (t : Ty), PySem.W.kitOne K (.type "NoneType") (.type t.name) = some false
  | .int => kit_ty (by decide +kernel)
  | .bool => kit_ty (by decide +kernel)
  | .str => kit_ty (by decide +kernel)
  | .list => kit_ty (by decide +kernel)
  | .tuple => kit_ty (by decide +kernel)
/-- the type of a value that bears data -/
theorem ty_of {K : PySem.W.Frag} {W H : Hp} {v : V} {d : D} (sm : Sub W H) (h : Rep K W v d) {t : Ty} {b : Bool} (e : isiD d t = some b) : ∃ u, TyX K H v (.type u) ∧ ∀ t b, isiD d t = some b → PySem.W.kitOne K (.type u) (.type t.name) = some b := by
  cases h <;> simp only [isiD, tyD] at e ⊢ <;> first | (simp at e; done) | skip
  · exact ⟨"NoneType", .base .non, fun t b e => by cases e; exact kit_none t⟩
  · exact ⟨"bool", .base (.bl _), fun t b e => by cases e; exact kit_one .bool t⟩
  · exact ⟨"int", .base (.int _), fun t b e => by cases e; exact kit_one .int t⟩
  · exact ⟨"str", .base (.str _), fun t b e => by cases e; exact kit_one .str t⟩
  · rename_i a vs ds h l r
    exact ⟨"list", .base (.lst (sm _ _ h)), fun t b e => by cases e; exact kit_one .list t⟩
  · rename_i a vs ds h r
    exact ⟨"tuple", .base (.tup (sm _ _ h)), fun t b e => by cases e; exact kit_one .tuple t⟩
theorem ty_boot : ∀ t : Ty, bootBuiltins (t.name : Str) = some (.type t.name)
  | .int => by decide +kernel
  | .bool => by decide +kernel
  | .str => by decide +kernel
  | .list => by decide +kernel
  | .tuple => by decide +kernel
theorem ty_name : ∀ t : Ty, (t.name : Str) ≠ "__name__" ∧ ((t.name : Str) == ("__debug__" : Str)) = false
  | .int => by decide +kernel
  | .bool => by decide +kernel
  | .str => by decide +kernel
  | .list => by decide +kernel
  | .tuple => by decide +kernel
theorem pe_ty {X : Cx} (t : Ty) {p : Pos} (hg : Gl X t.name) (hm : X.mg t.name = none) : PE X (.Name t.name p) (tC (.ty t.name)) :=
  pe_bltn hg hm (ty_boot t) rfl (ty_name t).1 (ty_name t).2
theorem snd_isi {a : E} {t : Ty} {x : Expr} {p p2 pos : Pos} (F : Facts g M G) (ha : SndE g M G sc x a) (hb : M.blt sc "isinstance" = true) (ht : M.blt sc t.name = true) :
    SndE g M G sc (.Call (.Name "isinstance" p) [x, .Name t.name p2] [] pos) (.isi a t) := by
  obtain ⟨ta, _, ha, sa, _, na⟩ := ha
  refine .of (t := tCB (rIsi g.K) (tCons ta (tCons (tC (.ty t.name)) tNil))) (fun X c => ?_) (fun ρ σ W H r Q sm en e w => ?_) rfl rfl
  · obtain ⟨h1, h2⟩ := c.blt F hb
    obtain ⟨h3, h4⟩ := c.blt F ht
    rw [← c.K]
    exact pe_callB call_isi h1 h2 (by decide +kernel) (pa_cons (ha X c).1 (pa_cons (pe_ty t h3 h4) pa_nil) (star_of na)) (he := star_of na)
  · simp only [evp] at e
    obtain ⟨d, ed, e⟩ := Option.bind_eq_some_iff.mp e
    obtain ⟨b, eb, e⟩ := Option.map_eq_some_iff.mp e
    subst e
    refine sp_d sa sm en ed fun v W1 H1 g1 r1 => ?_
    obtain ⟨u, h1, h2⟩ := ty_of g1.wh r1 eb
    exact ⟨v, .ty t.name, _, _, b, rfl, .ty _, h1, h2 t b eb, (w.at g1).sh g1.wh (.bl b)⟩
theorem snd_isT {a : E} {t u : Ty} {x : Expr} {p p2 p3 p4 pos : Pos} {k : Nat} (F : Facts g M G) (ha : SndE g M G sc x a) (hb : M.blt sc "isinstance" = true) (ht : M.blt sc t.name = true) (hu : M.blt sc u.name = true) :
    SndE g M G sc (.Call (.Name "isinstance" p) [x, .Tuple [.Name t.name p2, .Name u.name p3] k p4] [] pos) (.isT a t u) := by
  obtain ⟨ta, _, ha, sa, _, na⟩ := ha
  refine .of (t := tCB (rIsiT g.K) (tCons ta (tCons (tTup (tCons (tC (.ty t.name)) (tCons (tC (.ty u.name)) tNil))) tNil))) (fun X c => ?_) (fun ρ σ W H r Q sm en e w => ?_) rfl rfl
  · obtain ⟨h1, h2⟩ := c.blt F hb
    obtain ⟨h3, h4⟩ := c.blt F ht
    obtain ⟨h5, h6⟩ := c.blt F hu
    rw [← c.K]
    exact pe_callB call_isiT h1 h2 (by decide +kernel) (pa_cons (ha X c).1 (pa_cons (pe_tup (pa_cons (pe_ty t h3 h4) (pa_cons (pe_ty u h5 h6) pa_nil))) pa_nil) (star_of na)) (he := star_of na)
  · simp only [evp] at e
    obtain ⟨d, ed, e⟩ := Option.bind_eq_some_iff.mp e
    obtain ⟨b, eb, e⟩ := Option.bind_eq_some_iff.mp e
    obtain ⟨c, ec, e⟩ := Option.map_eq_some_iff.mp e
    subst e
    refine sp_d sa sm en ed fun v W1 H1 g1 r1 => ?_
    refine ⟨by show 2 ≤ sizeLine; rw [sizeLine_eq]; decide, fun q hq => ?_⟩
    obtain ⟨z, h1, h2⟩ := ty_of (same_upd2 (o := .tup [.ty t.name, .ty u.name]) g1.wh hq) r1 eb
    refine ⟨v, q, _, _, [.type t.name, .type u.name], b || c, rfl, upd_same, .cons (.ty _) (.cons (.ty _) .nil), h1, ?_, ?_⟩
    · refine kitAny_cons (h2 t b eb) (fun hb => ?_) fun hb => by rw [hb]; rfl
      refine kitAny_cons (h2 u c ec) (fun hc => ?_) fun hc => by rw [hc]; cases b <;> rfl
      rw [hb, hc]; rfl
    · exact (w.at g1) (.bl (b || c)) W1 _ (Grow.new0 g1.wh hq) (show Rep _ _ _ _ from .bl _)
end
end KP
/-! KPhx: sorted(set(xs)) of a list of ints (the library's road for tuples, turned to lists). -/
namespace KP
open PySem L2

section
variable {P : Program} {w : World} {A : Around} {E : Value → Shared → Prop} {s : Shared}
abbrev emptySet (w : World) : Obj := { cls := .type "set", dict := none, data := .set #[] 0 (.fresh 0 0 (!w.params.followText "set-order")) }
theorem call_set_ints {l : Addr} {items : Array Value} (ns : List Int) {Q : Value → Shared → Prop} (hh : A.handled = none) (hl : s.heap.IsList l items) (hit : PyProof.Rows.IntsAre items.toList ns) (hb : ns.length + 1 < scanBound)
    (h : ∀ (h' : Heap) (tk c : Nat), SetR w h' s.heap.objs.size (fun j => decide (j ∈ ns)) c → c ≤ ns.length → (∀ b o, s.heap.get? b = some o → h'.get? b = some o) → Q (.ref s.heap.objs.size) { s with heap := h', toks := tk }) :
    wpAny (model P w) A (call (.type "set") [.ref l]) Q E s := by
  have hisz : items.size = ns.length := by
    have q := PyProof.Rows.IntsAre.length hit
    rwa [Array.length_toList] at q
  obtain ⟨c, tl, hmro⟩ := F.called_set.mro
  have hmade := F.called_set.made
  have hsub := F.called_set.sub
  refine wpAny_call (codeAny_of_tree (wpAny_pure ⟨Code.quiet_builtin _ (by decide +kernel), codeAny_builtin F.entry_type_call ?_⟩))
  rw [Around.under_plain (weight_type_call_type "set" [.ref l] []) rfl]
  have h1 := F.called_set.notType
  have h2 := F.called_set.canCreate
  have hct := F.typeCall_set_1 (.ref l)
  repeat (any_goals (first | assumption | wp_step))
  refine codeAny_mono (code_set_led1 (.ref l) (E := E) (Q₁ := fun obj s₁ => obj = .ref s.heap.objs.size ∧ s₁ = { s with heap := s.heap.push (emptySet w) }) ⟨rfl, rfl⟩) fun r s₁ hr => ?_
  cases r with
  | error e => exact hr
  | ok fl =>
    cases fl with
    | ret obj =>
      obtain ⟨rfl, rfl⟩ := hr
      have hS : (s.heap.push (emptySet w)).get? s.heap.objs.size = some (emptySet w) := Heap.get?_push_size _ rfl
      have hT : Shared.TypeIs { s with heap := s.heap.push (emptySet w) } (.ref s.heap.objs.size) "set" := ⟨_, hS, rfl⟩
      have hli := F.called_set.init.lookup
      have hbi := F.called_set.init.bind (.ref s.heap.objs.size)
      repeat (any_goals (first | assumption | wp_step))
      refine codeAny_mono (codeAny_call_builtin (R := wants (fun r s₂ => r = .none ∧ ∃ h' tk c, s₂ = { s with heap := h', toks := tk } ∧ SetR w h' s.heap.objs.size (fun j => decide (j ∈ ns)) c ∧ c ≤ ns.length ∧
          (∀ b o, s.heap.get? b = some o → h'.get? b = some o)) E) F.called_set.init.plain F.entry_set_init (check_set_init_1 hT ?_)) fun r₂ s₂ hr₂ => ?_
      · obtain ⟨ol, hol, hcl, nl, hdl⟩ := hl
        obtain ⟨ocls, odict, odata, oslots⟩ := ol
        simp only at hcl hdl
        subst hcl; subst hdl
        have hol' : (s.heap.push (emptySet w)).get? l = some { cls := .type "list", dict := odict, data := .seq items nl, slots := oslots } := Heap.get?_push_of_some _ hol
        have hsls := F.sub_list_set
        have hslf := F.sub_list_frozenset
        have hne : (Value.type "list" == Value.type "dict") = false := by decide
        have hl1 : (s.heap.push (emptySet w)).IsList l items := ⟨_, hol', rfl, nl, rfl⟩
        have hlS : l < s.heap.objs.size := Heap.lt_size hol
        have hz : (s.heap.push (emptySet w)).objs.size = s.heap.objs.size + 1 := Heap.size_push ..
        unfold Builtin.«set.__init__» noKeywords Builtin.Frozenset.updateFrom
        generalize hPI : pyIter = PI
        wp_walk
        subst hPI
        refine wpAny_pyIter_list hl1 ?_
        refine wpAny_bind (wpAny_runValue ?_)
        have hval : ∀ (i : Nat) (v : Value), items[i]? = some v → ∃ k t, ns[i]? = some k ∧ v = .int k t := fun i v hv => by
          have hi : i < ns.length := by rw [← hisz]; exact (Array.getElem?_eq_some_iff.mp hv).1
          obtain ⟨t, e⟩ := PyProof.Rows.IntsAre.int_at hit i v (by rw [Array.getElem?_toList]; exact hv)
          exact ⟨ns[i], t, List.getElem?_eq_getElem hi, by rw [e, List.getD_eq_getElem?_getD, List.getElem?_eq_getElem hi] <;> rfl⟩
        refine set_update_ints ((Walks.list (by simp [hh]) _ l (by rw [hz]; exact Nat.ne_of_lt (Nat.lt_succ_of_lt hlS)) items).toS) s.heap.objs.size (by rw [hz]; simp only [List.mem_cons, List.not_mem_nil, or_false, not_or]; exact ⟨Nat.ne_of_lt (Nat.lt_succ_self _), Nat.ne_of_gt hlS⟩) ns hisz hb hval (items.size - 0) 0 _ (by omega) (Nat.zero_le _)
          ⟨⟨_, Heap.get?_push_size _ rfl, rfl, rfl⟩, (hl1.push _)⟩ ⟨0, Nat.le_refl 0, setR_new_at (Heap.get?_push_of_some _ hS)⟩ fun s' c' hm hc' hS' => ?_
        obtain ⟨h', g2, d', tk', os'⟩ := s'
        have eg : g2 = s.gens := hm.gens
        have ed : d' = s.drawn := hm.drawn
        have eo : os' = s.os := hm.os
        subst eg; subst ed; subst eo
        show wpAny _ _ _ _ _ _
        refine wpAny_pure ?_
        show wpAny _ _ (ret Value.none) _ _ _
        rw [hisz] at hc'
        refine wpAny_pure ⟨rfl, h', tk', c', rfl, hS', hc', fun b o e => ?_⟩
        have hb0 : b < s.heap.objs.size := Heap.lt_size e
        exact hm.heap b o (by rw [hz]; simp only [List.mem_cons, List.not_mem_nil, or_false, not_or]; exact ⟨Nat.ne_of_lt hb0, Nat.ne_of_lt (Nat.lt_succ_of_lt hb0)⟩) (Heap.get?_push_of_some _ (Heap.get?_push_of_some _ e))
      · cases r₂ with
        | error e => exact hr₂
        | ok fl₂ =>
          cases fl₂ with
          | ret r =>
            obtain ⟨rfl, h', tk, c', rfl, hS', hc', hk'⟩ := hr₂
            repeat (any_goals (first | assumption | wp_step))
            exact h _ _ _ hS' hc' hk'
          | _ => exact hr₂.elim
    | _ => exact hr.elim
def tSortSet (K : PySem.W.Frag) (ta : TE) : TE := fun σ H Q => ta σ H fun x H1 => ∃ (l : Addr) (ns : List Int), x = .ref l ∧ SqL K H1 l (ns.map V.int) ∧ ns.length < 64 ∧
  ∀ (ms : List Int) (p : Addr), ms.Pairwise (· < ·) → (∀ k, k ∈ ms ↔ k ∈ ns) → H1 p = none → Q (.ref p) (upd H1 p (.lst (ms.map V.int)))
theorem pe_sortSet {X : Cx} {a : Expr} {ta : TE} {p p2 q pos : Pos} (hg : Gl X "sorted") (hm : X.mg "sorted" = none) (hg2 : Gl X "set") (hm2 : X.mg "set" = none) (ha : PE X a ta) (hc : X.calm = true)
    (na : starEach [a] X.env = (false, eval a X.env) :: starEach [] X.env) : PE X (.Call (.Name "sorted" p) [.Call (.Name "set" p2) [a] [] q] [] pos) (tSortSet X.K ta) := by
  constructor
  intro pins s σ H Q I h
  refine PyProof.Rows.Call_ (ld_blt I hg hm (show bootBuiltins "sorted" = some (.builtin "sorted") by decide +kernel) ?_)
  refine PyProof.Rows.callWith_builtin1 (PyProof.Rows.args_cons ?_ rfl) rfl rfl
  refine PyProof.Rows.Call_ (ld_blt I hg2 hm2 (show bootBuiltins "set" = some (.type "set") by decide +kernel) ?_)
  refine PyProof.Rows.callWith_type1 (PyProof.Rows.args_cons (thn (ha.run pins s σ H _ I h) fun v s1 ⟨x, H1, I1, r1, q1⟩ => PyProof.Rows.args_nil ?_) na) na rfl
  obtain ⟨l, ns, rfl, hq, hl, q1⟩ := q1
  cases r1
  obtain ⟨its, r, pl, hz⟩ := I1.list hq
  refine call_set_ints ns (I1.ok.hd hc) pl.isList (by simpa using r.ints) (by unfold scanBound; omega) fun h' tk c hS hcn hk => PyProof.Rows.args_nil ?_
  have I2 : Inv X pins σ H1 { s1 with heap := h', toks := tk } := I1.kept fun b o e => hk b o e
  refine sorted_set hS (I2.ok.hd hc) (by omega) fun s' p out c2 ms k g o hp hg hi hs hm hl => ?_
  have hlen : (ms.map V.int).length ≤ sizeLine := by rw [List.length_map, hl, sizeLine_eq]; omega
  have hn : H1 p = none := I2.hok.fresh hp
  have J : Inv X pins σ (upd H1 p (.lst (ms.map V.int))) { { s1 with heap := h', toks := tk } with heap := s'.heap, gens := s'.gens, drawn := s'.drawn, toks := s'.toks } :=
    I2.call (ch := []) (Un.laid k hp hn) (I2.hok.laid k hp ⟨hlen, out.toList, c2, vals_of_ints hi, hg⟩) (by rw [g]; exact I2.bare) (fun _ z => nomatch z)
  have e : s' = { { s1 with heap := h', toks := tk } with heap := s'.heap, gens := s'.gens, drawn := s'.drawn, toks := s'.toks } := by
    cases s'; cases s1; cases o; rfl
  rw [e]
  exact ⟨.ref p, _, J, rfl, q1 ms p hs (fun k => by rw [hm k]; simp) hn⟩
end
end KP
/-! KPi: len(set(..)), list(range(..)), methods, calls of defs. -/
namespace KP
open PySem L2

section
variable {g : GG} {M : Nm} {G : Cs} {sc : Scope}
theorem firstMet_dedup (ns : List Int) : PyProof.Rows.firstMet (fun i => ns.getD i 0) ns.length = dedupI ns := by
  unfold PyProof.Rows.firstMet dedupI
  have e : (List.range ns.length).map (fun i => ns.getD i 0) = ns := by
    apply List.ext_getElem
    · simp
    · intro i h1 h2
      simp at h1
      simp [List.getD_eq_getElem?_getD, h1]
  rw [e]
  rfl
def tLenSetA (K : PySem.W.Frag) (ta : TE) : TE := fun σ H Q => ta σ H fun x H1 => ∃ (l : Addr) (ns : List Int), x = .ref l ∧ SqL K H1 l (ns.map V.int) ∧ ns.length ≤ 4000 ∧ Q (.int ((dedupI ns).length : Nat)) H1
theorem dedupI_length (ns : List Int) : (dedupI ns).length ≤ ns.length := by
  rw [← firstMet_dedup]; exact PyProof.Rows.firstMet_length_le _ _
theorem pe_lenSetA {X : Cx} {a : Expr} {ta : TE} {p p2 q pos : Pos} (hg : Gl X "len") (hm : X.mg "len" = none) (hg2 : Gl X "set") (hm2 : X.mg "set" = none) (ha : PE X a ta) (hc : X.calm = true)
    (na : starEach [a] X.env = (false, eval a X.env) :: starEach [] X.env) : PE X (.Call (.Name "len" p) [.Call (.Name "set" p2) [a] [] q] [] pos) (tLenSetA X.K ta) := by
  constructor
  intro pins s σ H Q I h
  refine PyProof.Rows.Call_ (ld_blt I hg hm PySem.boot_len ?_)
  refine PyProof.Rows.callWith_builtin1 (PyProof.Rows.args_cons ?_ rfl) rfl rfl
  refine PyProof.Rows.Call_ (ld_blt I hg2 hm2 (show bootBuiltins "set" = some (.type "set") by decide +kernel) ?_)
  refine PyProof.Rows.callWith_type1 (PyProof.Rows.args_cons (thn (ha.run pins s σ H _ I h) fun v s1 ⟨x, H1, I1, r1, q1⟩ => PyProof.Rows.args_nil ?_) na) na rfl
  obtain ⟨l, ns, rfl, hq, hl, q1⟩ := q1
  cases r1
  obtain ⟨its, r, pl, hz⟩ := I1.list hq
  have hn : its.toArray.size = ns.length := by rw [List.size_toArray, ← r.length, List.length_map]
  refine call_set_list (I1.ok.hd hc) pl.isList (by simpa using r.ints) (by rw [hn]; unfold scanBound; omega) fun h' tk hS hk => PyProof.Rows.args_nil ?_
  rw [hn, firstMet_dedup] at hS
  obtain ⟨o, es, ep, t, ho, hex, hd, _, _, _, hf, hsz⟩ := hS
  have I2 : Inv X pins σ H1 { s1 with heap := h', toks := tk } := I1.kept fun b o e => hk b o (Heap.lt_size e) e
  have hle := dedupI_length ns
  exact call_len_set ho hex hd hf (by rw [hsz]; omega) ⟨.int (dedupI ns).length, H1, I2.tok _, ⟨_, by rw [hsz]⟩, q1⟩
theorem snd_lenset {a : E} {x : Expr} {p p2 p3 pos : Pos} (F : Facts g M G) (ha : SndE g M G sc x a) (h1 : M.blt sc "len" = true) (h2 : M.blt sc "set" = true) :
    SndE g M G sc (.Call (.Name "len" p) [.Call (.Name "set" p2) [x] [] p3] [] pos) (.lenset a) := by
  obtain ⟨ta, _, ha, sa, _, na⟩ := ha
  refine .of (t := tLenSetA g.K ta) (fun X c => ?_) (fun ρ σ W H r Q sm en e w => ?_) rfl rfl
  · obtain ⟨a1, a2⟩ := c.blt F h1
    obtain ⟨a3, a4⟩ := c.blt F h2
    rw [← c.K]
    exact pe_lenSetA a1 a2 a3 a4 (ha X c).1 c.calm (star_of na)
  · simp only [evp] at e
    obtain ⟨d, ed, e⟩ := Option.bind_eq_some_iff.mp e
    split at e <;> try (cases e; done)
    rename_i ds hd
    obtain ⟨ns, en2, e⟩ := Option.bind_eq_some_iff.mp e
    split at e <;> try (cases e; done)
    rename_i hl
    cases e
    refine sp_d sa sm en ed fun v W1 H1 g1 r1 => ?_
    rw [hd, ints?_some en2] at r1
    cases r1 with | lst ha l rr =>
    have := rr.of_ints; subst this
    exact ⟨_, ns, rfl, .of (g1.wh _ _ ha), hl, (w.at g1).sh g1.wh (.int _)⟩
theorem dedup_mem : ∀ (ns acc : List Int) (k : Int), k ∈ ns.foldl (fun acc v => if acc.any (· == v) then acc else acc ++ [v]) acc ↔ k ∈ acc ∨ k ∈ ns
  | [], acc, k => by simp
  | n :: ns, acc, k => by
    rw [List.foldl_cons, dedup_mem ns]
    by_cases h : acc.any (· == n) = true
    · rw [if_pos h]
      have hn : n ∈ acc := by simpa using h
      constructor
      · rintro (z | z)
        · exact .inl z
        · exact .inr (List.mem_cons_of_mem _ z)
      · rintro (z | z)
        · exact .inl z
        · rcases List.mem_cons.mp z with rfl | z
          · exact .inl hn
          · exact .inr z
    · rw [if_neg h, List.mem_append, List.mem_singleton, List.mem_cons, or_assoc]
theorem dedup_nd : ∀ (ns acc : List Int), acc.Nodup → (ns.foldl (fun acc v => if acc.any (· == v) then acc else acc ++ [v]) acc).Nodup
  | [], acc, h => h
  | n :: ns, acc, h => by
    rw [List.foldl_cons]
    refine dedup_nd ns _ ?_
    by_cases q : acc.any (· == n) = true
    · rw [if_pos q]; exact h
    · rw [if_neg q]
      have hn : n ∉ acc := by simpa using q
      exact List.nodup_append.mpr ⟨h, by simp, fun a ha b hb e => hn (by rw [List.mem_singleton] at hb; rw [← hb, ← e]; exact ha)⟩
theorem mem_dedupI (ns : List Int) (k : Int) : k ∈ dedupI ns ↔ k ∈ ns := by
  unfold dedupI; rw [dedup_mem]; simp
theorem nodup_dedupI (ns : List Int) : (dedupI ns).Nodup := dedup_nd ns [] List.nodup_nil
theorem snd_ss {a : E} {x : Expr} {p p2 p3 pos : Pos} (F : Facts g M G) (ha : SndE g M G sc x a) (h1 : M.blt sc "sorted" = true) (h2 : M.blt sc "set" = true) :
    SndE g M G sc (.Call (.Name "sorted" p) [.Call (.Name "set" p2) [x] [] p3] [] pos) (.ss a) := by
  obtain ⟨ta, _, ha, sa, _, na⟩ := ha
  refine .of (t := tSortSet g.K ta) (fun X c => ?_) (fun ρ σ W H r Q sm en e w => ?_) rfl rfl
  · obtain ⟨a1, a2⟩ := c.blt F h1
    obtain ⟨a3, a4⟩ := c.blt F h2
    rw [← c.K]
    exact pe_sortSet a1 a2 a3 a4 (ha X c).1 c.calm (star_of na)
  · simp only [evp] at e
    obtain ⟨d, ed, e⟩ := Option.bind_eq_some_iff.mp e
    split at e <;> try (cases e; done)
    rename_i ds hd
    obtain ⟨ns, en2, e⟩ := Option.bind_eq_some_iff.mp e
    split at e <;> try (cases e; done)
    rename_i hl
    cases e
    refine sp_d sa sm en ed fun v W1 H1 g1 r1 => ?_
    rw [hd, ints?_some en2] at r1
    cases r1 with | lst ha l rr =>
    have := rr.of_ints; subst this
    refine ⟨_, ns, rfl, .of (g1.wh _ _ ha), hl, fun ms p hs hm hp => ?_⟩
    have hnd : ms.Nodup := hs.imp fun {a b} h e => by subst e; omega
    have hpm : ms.Perm (dedupI ns) := (List.perm_ext_iff_of_nodup hnd (nodup_dedupI ns)).mpr fun k => by rw [hm, mem_dedupI]
    have := isort_unique hpm (hs.imp fun {a b} h => by omega)
    subst this
    have hle := dedupI_length ns
    exact (w.at g1).fl g1.wh hp (by rw [List.length_map, (isort_perm _).length_eq]; show _ ≤ 100000; omega) (RepL.ints _)
theorem rgV_rangeD (K : PySem.W.Frag) (W : Hp) (a b : Int) : RepL K W (rgV a b) (rangeD a b) := by
  unfold rgV rangeD
  have : ∀ l : List Nat, RepL K W (l.map fun i => V.int (a + (i : Nat))) (l.map fun i => D.int (a + (i : Nat))) := fun l => by
    induction l with
    | nil => exact .nil
    | cons x l ih => exact .cons (.int _) ih
  exact this _
theorem small_of {i : Int} (h : smallI i = true) : -100000 ≤ i ∧ i ≤ 100000 := by simpa [smallI] using h
theorem snd_lr1 {a : E} {x : Expr} {p p2 p3 pos : Pos} (F : Facts g M G) (ha : SndE g M G sc x a) (h1 : M.blt sc "list" = true) (h2 : M.blt sc "range" = true) :
    SndE g M G sc (.Call (.Name "list" p) [.Call (.Name "range" p2) [x] [] p3] [] pos) (.lr1 a) := by
  obtain ⟨ta, _, ha, sa, _, na⟩ := ha
  refine .of (t := tLstRg (tRg1 ta)) (fun X c => ?_) (fun ρ σ W H r Q sm en e w => ?_) rfl rfl
  · obtain ⟨a1, a2⟩ := c.blt F h1
    obtain ⟨a3, a4⟩ := c.blt F h2
    exact pe_listRg c.calm a1 a2 (prg_1 a3 a4 (ha X c).1 (star_of na)) rfl
  · simp only [evp] at e
    obtain ⟨d, ed, e⟩ := Option.bind_eq_some_iff.mp e
    split at e <;> try (cases e; done)
    rename_i i hi
    split at e <;> cases e
    rename_i hs
    have := small_of hs
    refine sp_d sa sm en ed fun v W1 H1 g1 r1 => ?_
    rw [hi] at r1
    have hl : (rangeD 0 i).length ≤ LIM := by unfold rangeD; simp; omega
    exact ⟨i, rep_int r1, ⟨by omega, by omega, by omega, by omega, by omega⟩, fun q hq => (w.at g1).fl g1.wh hq hl (rgV_rangeD _ _ _ _)⟩
theorem snd_lr2 {a b : E} {x y : Expr} {p p2 p3 pos : Pos} (F : Facts g M G) (ha : SndE g M G sc x a) (hb : SndE g M G sc y b) (h1 : M.blt sc "list" = true) (h2 : M.blt sc "range" = true) :
    SndE g M G sc (.Call (.Name "list" p) [.Call (.Name "range" p2) [x, y] [] p3] [] pos) (.lr2 a b) := by
  obtain ⟨ta, _, ha, sa, _, na⟩ := ha
  obtain ⟨tb, _, hb, sb, _, nb⟩ := hb
  refine .of (t := tLstRg (tRg2 ta tb)) (fun X c => ?_) (fun ρ σ W H r Q sm en e w => ?_) rfl rfl
  · obtain ⟨a1, a2⟩ := c.blt F h1
    obtain ⟨a3, a4⟩ := c.blt F h2
    exact pe_listRg c.calm a1 a2 (prg_2 a3 a4 (ha X c).1 (hb X c).1 (star_of na) (star_of nb) (star_any (by simpa using nb))) rfl
  · simp only [evp] at e
    obtain ⟨d, ed, e⟩ := Option.bind_eq_some_iff.mp e
    obtain ⟨d2, ed2, e⟩ := Option.bind_eq_some_iff.mp e
    split at e <;> try (cases e; done)
    rename_i i j hi hj
    split at e <;> try (cases e; done)
    rename_i hs
    cases e
    simp only [Bool.and_eq_true, decide_eq_true_eq] at hs
    have := small_of hs.1.1
    have := small_of hs.1.2
    refine sp_d sa sm en ed fun v W1 H1 g1 r1 => ?_
    refine sp_d sb g1.wh (en.mono g1.sW) ed2 fun u W2 H2 g2 r2 => ?_
    rw [hi] at r1
    rw [hj] at r2
    have hl : (rangeD i j).length ≤ LIM := by unfold rangeD; simp; have h2 : (j - i).toNat ≤ 100000 := hs.2; omega
    exact ⟨i, j, rep_int r1, rep_int r2, ⟨by omega, by omega, by omega, by omega, by omega⟩, fun q hq => (w.at (g1.trans g2)).fl g2.wh hq hl (rgV_rangeD _ _ _ _)⟩

/-! ### methods -/
theorem few_of {X : Cx} {cp : Pos} {es : List Expr} (h : ∀ e ∈ es, niceB e = true) (hl : es.length < 4) : ((backTo cp (starEach es X.env)).all (fun x => !x.1) && (backToKw cp (keywordEach [] X.env)).all (fun x => x.1.isSome)
      && decide (es.length + ([] : List Keyword).length + (if ([] : List Keyword).isEmpty then 0 else 1) < 30)) = true := by
  have h1 : ∀ {es : List Expr}, (∀ e ∈ es, niceB e = true) → (backTo cp (starEach es X.env)).all (fun x => !x.1) = true := fun {es} => by
    induction es with
    | nil => intro _; rfl
    | cons e es ih =>
      intro h
      rw [star_of (h e List.mem_cons_self)]
      have := ih fun x hx => h x (List.mem_cons_of_mem _ hx)
      unfold backTo at this ⊢
      rw [List.map_cons, List.all_cons, this]; rfl
  rw [h1 h]
  simp [keywordEach, backToKw]
  omega
theorem findIdx_some {ds : List D} {y : D} {j : Nat} (h : ds.findIdx? (fun z => D.eqv z y) = some j) : ∃ z, ds[j]? = some z ∧ D.eqv z y = true ∧ ∀ m z', m < j → ds[m]? = some z' → D.eqv z' y = false := by
  obtain ⟨hl, h1, h2⟩ := List.findIdx?_eq_some_iff_getElem.mp h
  refine ⟨ds[j], List.getElem?_eq_getElem hl, h1, fun m z' hm hz => ?_⟩
  obtain ⟨hm2, rfl⟩ := List.getElem?_eq_some_iff.mp hz
  exact Bool.eq_false_iff.mpr fun q => h2 m hm q
theorem snd_index {a : E} {es : Es} {x y : Expr} {ap cp : Pos} (ha : SndE g M G sc x a) (hs : SndS g M G sc [y] es) (hl : (ap.endLine == cp.line) = true) : SndE g M G sc (.Call (.Attribute x "index" ap) [y] [] cp) (.me .index a es) := by
  obtain ⟨ta, _, ha, sa, _, na⟩ := ha
  obtain ⟨tb, hb, sb⟩ := hs.pa
  refine .of (t := tBM g.K "list" (rIndexD g.K) ta tb) (fun X c => ?_) (fun ρ σ W H r Q sm en e w => ?_) rfl rfl
  · rw [← c.K]
    exact pe_bm PySem.F.plainAttrs_list PySem.F.slot_list_index PySem.F.type_list_index (mt_indexD (room65 c.room)) (ha X c).1 (hb X c) (base_of na _) (few_of hs.nice (by simp)) hl (star_of (hs.nice y List.mem_cons_self)) rfl
  · simp only [evp] at e
    obtain ⟨d, ed, e⟩ := Option.bind_eq_some_iff.mp e
    obtain ⟨ys, es', e⟩ := Option.bind_eq_some_iff.mp e
    simp only [meD] at e
    unfold meIndex at e
    split at e <;> try (cases e; done)
    · rename_i ds y hd
      split at e <;> try (cases e; done)
      rename_i hk
      rw [Bool.and_eq_true] at hk
      obtain ⟨j, hj, e⟩ := Option.map_eq_some_iff.mp e
      subst e
      obtain ⟨z, hz, hzy, hno⟩ := findIdx_some hj
      refine sp_d sa sm en ed fun v W1 H1 g1 r1 => ?_
      rw [hd] at r1
      cases r1 with | lst hw l rr =>
      refine ⟨.inl ⟨rfl, _, .of (g1.wh _ _ hw)⟩, ?_⟩
      refine sb ρ σ W1 H1 _ _ g1.wh (en.mono g1.sW) es' fun vs W2 H2 g2 r2 => ?_
      obtain ⟨u, rfl, ru⟩ := repL_one r2
      have gl : D.ok (.lst ds) = true := by simpa [D.okn] using hk.2
      have rep := (Rep.lst hw l rr).mono g2.sW
      refine ⟨_, u, y.py, D.pyL ds, j, z.py, rfl, rfl, ?_, ru.dp g2.wh.s (okn_both 9 y hk.1).1, ?_, ok_shaped hk.1, ?_, hzy, ?_, (w.at (g1.trans g2)).sh g2.wh (.int _)⟩
      · have := rep.dp g2.wh.s (okn_both 9 _ gl).1
        simpa [D.py] using this
      · have := ok_shaped gl
        simpa [D.py] using this
      · rw [D.pyL_eq, List.getElem?_map, hz]; rfl
      · intro m z' hm hz'
        rw [D.pyL_eq, List.getElem?_map] at hz'
        obtain ⟨w', hw', rfl⟩ := Option.map_eq_some_iff.mp hz'
        exact hno m w' hm hw'
theorem snd_count {a : E} {es : Es} {x y : Expr} {ap cp : Pos} (ha : SndE g M G sc x a) (hs : SndS g M G sc [y] es) (hl : (ap.endLine == cp.line) = true) : SndE g M G sc (.Call (.Attribute x "count" ap) [y] [] cp) (.me .count a es) := by
  obtain ⟨ta, _, ha, sa, _, na⟩ := ha
  obtain ⟨tb, hb, sb⟩ := hs.pa
  refine .of (t := tBM g.K "list" (rCntI g.K) ta tb) (fun X c => ?_) (fun ρ σ W H r Q sm en e w => ?_) rfl rfl
  · rw [← c.K]
    exact pe_bm PySem.F.plainAttrs_list PySem.F.slot_list_count PySem.F.type_list_count mt_lcount (ha X c).1 (hb X c) (base_of na _) (few_of hs.nice (by simp)) hl (star_of (hs.nice y List.mem_cons_self)) rfl
  · simp only [evp] at e
    obtain ⟨d, ed, e⟩ := Option.bind_eq_some_iff.mp e
    obtain ⟨ys, es', e⟩ := Option.bind_eq_some_iff.mp e
    simp only [meD] at e
    unfold meCount at e
    split at e <;> try (cases e; done)
    · rename_i ds k hd
      obtain ⟨ns, hn, e⟩ := Option.map_eq_some_iff.mp e
      subst e
      have := ints?_some hn; subst this
      refine sp_d sa sm en ed fun v W1 H1 g1 r1 => ?_
      rw [hd] at r1
      cases r1 with | lst hw l rr =>
      refine ⟨.inl ⟨rfl, _, .of (g1.wh _ _ hw)⟩, ?_⟩
      refine sb ρ σ W1 H1 _ _ g1.wh (en.mono g1.sW) es' fun vs W2 H2 g2 r2 => ?_
      obtain ⟨u, rfl, ru⟩ := repL_one r2
      cases ru
      have := rr.of_ints; subst this
      exact ⟨_, ns, k, rfl, rfl, .of (g2.wh _ _ (g2.sW _ _ hw)), (w.at (g1.trans g2)).sh g2.wh (.int _)⟩
theorem snd_bitlen {a : E} {es : Es} {x : Expr} {ap cp : Pos} (ha : SndE g M G sc x a) (hs : SndS g M G sc [] es) (hl : (ap.endLine == cp.line) = true) : SndE g M G sc (.Call (.Attribute x "bit_length" ap) [] [] cp) (.me .bitlen a es) := by
  obtain ⟨ta, _, ha, sa, _, na⟩ := ha
  have := hs.nil rfl; subst this
  refine .of (t := tBits ta) (fun X c => pe_bits (ha X c).1 (base_of na _) hl) (fun ρ σ W H r Q sm en e w => ?_) rfl rfl
  simp only [evp, evs] at e
  obtain ⟨d, ed, e⟩ := Option.bind_eq_some_iff.mp e
  simp only [Option.bind_some, meD] at e
  unfold meBits at e
  split at e <;> try (cases e; done)
  rename_i i0 h0 _
  cases e
  refine sp_d sa sm en ed fun v W1 H1 g1 r1 => ?_
  rw [h0] at r1
  exact ⟨_, rep_int r1, (w.at g1).sh g1.wh (.int _)⟩
end
end KP
/-! KPlc: sorted(xs, key=lambda thing: (-row.count(thing), thing)). -/
namespace KP
open PySem L2
section
variable {g : GG} {M : Nm} {G : Cs} {sc : Scope}
def bodyCnt : E := .tup (.cons (.neg (.me .count (.v 1) (.cons (.v 0) .nil))) (.cons (.v 0) .nil))
theorem evp_cnt {G : Cs} {n : Int} {es : List D} {row : List Int} (h : ints? es = some row) : evp G bodyCnt [some (.int n), some (.lst es)] = some (.sh (.tup [.int (cntKey row n).1, .int (cntKey row n).2])) := by
  unfold bodyCnt cntKey
  simp [evp, evs, meD, meCount, h, R.d, LIM]
theorem snd_sk {a : E} {j : Nat} {x b : Expr} {ps : Arguments} {scope : Scope} {p lpos kpos pos : Pos} (F : Facts g M G) (ha : SndE g M G sc x a) (h1 : M.blt sc "sorted" = true) (hl : M.lam.isSome = true) (hb : lamCnt M sc j ps b scope = true) :
    SndE g M G sc (.Call (.Name "sorted" p) [x] [⟨some "key", .Lambda ps b scope lpos, kpos⟩] pos) (.sk a j) := by
  obtain ⟨ta, _, ha, sa, _, na⟩ := ha
  unfold lamCnt at hb
  split at hb <;> try (cases hb; done)
  rename_i v vp r rp m ap v1 q1 cp up v2 q2 tk tp
  simp only [Bool.and_eq_true, decide_eq_true_eq, Bool.not_eq_true'] at hb
  obtain ⟨⟨⟨⟨⟨⟨⟨⟨⟨⟨rfl, rfl⟩, rfl⟩, hap⟩, hS⟩, hN⟩, hj⟩, d1⟩, d2⟩, d3⟩, d4⟩ := hb
  have S := NdefX.nscope_by hS
  have v_ok : visB scope v2 = true := by unfold visB; rw [S.par v2 (by simp)]
  have r_ok : visB scope r = true := by unfold visB; rw [S.frk r (by simp)]
  have hbb : SndE { g with k := 0 } ⟨[v2, r], [], [], [], [], none⟩ ⟨[], [], []⟩ scope (.Tuple [.UnaryOp .USub (.Call (.Attribute (.Name r rp) "count" ap) [.Name v2 q1] [] cp) up, .Name v2 q2] tk tp) bodyCnt :=
    snd_tup (snds_cons (snd_neg (snd_count (snd_v (by simp [chkE, r_ok, d3, d4])) (snds_cons (snd_v (by simp [chkE, v_ok, d1, d2])) snds_nil) hap)) (snds_cons (snd_v (by simp [chkE, v_ok, d1, d2])) snds_nil))
  obtain ⟨tb, _, hpb, sb, _, _⟩ := hbb
  refine .of (t := tSortLam g.K [v2, r] [j] ta tb) (fun X c => ?_) (fun ρ σ W H r' Q sm en e w => ?_) rfl rfl
  · obtain ⟨a1, a2⟩ := c.blt F h1
    obtain ⟨q, hq⟩ := Option.isSome_iff_exists.mp hl
    obtain ⟨k2, cc, P, hcode, hq', TB, hT, hu⟩ := c.lam q hq
    subst hq'
    rw [← c.K]
    refine pe_sortLam (c := cc) (P := P) (k := 0) a1 a2 (ha X c).1 (star_of na) (c.room.mono k2) TB hcode hT hu S (fun y hy e => by rw [c.scope]; exact NdefX.ndef_free hN y hy e) (NdefX.ndef_fr hN) (by rw [c.N]; simp [hj]) fun A s H f c' hr' => ?_
    refine (hpb _ ?_).1
    exact ⟨c.prog, c.w, c.K, c.mg, c.base, rfl, S.nd, rfl, rfl, hr', fun q h => by cases h⟩
  · simp only [evp] at e
    obtain ⟨d, ed, e⟩ := Option.bind_eq_some_iff.mp e
    split at e <;> try (cases e; done)
    rename_i ds es hd hes
    obtain ⟨ns, en2, e⟩ := Option.bind_eq_some_iff.mp e
    obtain ⟨row, er, e⟩ := Option.bind_eq_some_iff.mp e
    split at e <;> try (cases e; done)
    rename_i hlen
    cases e
    refine sp_d sa sm en ed fun v W1 H1 g1 r1 => ?_
    rw [hd, ints?_some en2] at r1
    cases r1 with | lst hw l rr =>
    have := rr.of_ints; subst this
    obtain ⟨u, hu, ru⟩ := en.2 j _ hes
    refine ⟨g1.wh.t, _, ns, cntKey row, rfl, .of (g1.wh _ _ hw), fun H2 n ex hn => ?_, fun H2 p ex hp => ?_⟩
    · refine sb [some (.int n), some (.lst es)] _ W1 H2 _ _ (g1.wh.trans ex) ⟨rfl, fun i d hi => ?_⟩ (evp_cnt er) fun v W' H' gr rep => ?_
      · match i, hi with
        | 0, hi => cases hi; exact ⟨.int n, rfl, .int n⟩
        | 1, hi =>
          cases hi
          refine ⟨u, ?_, ru.mono g1.sW⟩
          show (NdefX.startF _ _ _)[1]? = _
          unfold NdefX.startF
          simp [NdefX.slotAt, hu]
        | (k + 2), hi => simp at hi
      · refine ⟨gr.sH, ?_⟩
        have rep : Rep g.K W' v (.tup [.int (cntKey row n).1, .int (cntKey row n).2]) := rep
        cases rep with | tup hw2 r2 =>
        cases r2 with | cons a1 r2 => cases r2 with | cons a2 r2 => cases r2 with | nil =>
        cases a1; cases a2
        exact ⟨_, rfl, gr.wh _ _ hw2⟩
    · have gr : Grow W1 H1 W1 H2 := ⟨Same.refl _, ex, g1.wh.trans ex, fun _ _ h => .inl h⟩
      refine ((w.at g1).at gr).fl gr.wh hp ?_ (RepL.ints _)
      rw [List.length_map, List.length_mergeSort]; show _ ≤ 100000; omega
end
end KP
/-! KPj: module constants, dict.get, calls of defs. -/
namespace KP
open PySem L2

section
variable {g : GG} {M : Nm} {G : Cs} {sc : Scope}
theorem snd_g {e : Expr} {j : Nat} (F : Facts g M G) (h : chkE M (.g j) sc e = true) : SndE g M G sc e (.g j) := by
  unfold chkE at h
  split at h <;> try (cases h; done)
  rename_i x p
  simp only [Bool.and_eq_true, decide_eq_true_eq, Bool.not_eq_true'] at h
  obtain ⟨⟨h1, h2⟩, h3⟩ := h
  cases hd : G.cs[j]? with
  | none =>
    exact .of (t := fun _ _ _ => False) (fun X c => ⟨fun _ _ _ _ _ _ z => z.elim⟩) (fun ρ σ W H r Q sm en e w => by
      simp only [evp, hd] at e; cases e) rfl rfl
  | some d =>
    obtain ⟨u, v, hm, rv, rep⟩ := F.cst j x d h1 hd
    refine .of (t := tC v) (fun X c => pe_glob (c.gl h2) (by rw [c.mg]; exact hm) rv h3) (fun ρ σ W H r Q sm en e w => ?_) rfl rfl
    simp only [evp, hd] at e; cases e
    exact w.sh sm (rep W)

theorem isD_of {K : PySem.W.Frag} {W H : Hp} {v : V} {d : D} (s : Sub W H) (r : Rep K W v d) (h : (∃ ks vs, d = .dK ks vs) ∨ ∃ ks vs, d = .dT ks vs) : ∃ a, v = .ref a ∧ IsD H a := by
  rcases h with ⟨ks, vs, rfl⟩ | ⟨ks, vs, rfl⟩
  · cases r with | dK h e l q => exact ⟨_, rfl, .inl ⟨_, same_rd s h⟩⟩
  · cases r with | dT h e l q => exact ⟨_, rfl, .inr ⟨_, same_rd s h⟩⟩
def RepO1 (K : PySem.W.Frag) (W : Hp) (ov : Option V) : Option D → Prop
  | some d' => ∃ v', ov = some v' ∧ Rep K W v' d'
  | none => ov = none
theorem get_sem {K : PySem.W.Frag} {W H : Hp} {v y : V} {d dy : D} {o : Option D} (s : Sub W H) (r : Rep K W v d) (ry : Rep K W y dy)
    (h : (∃ ks vs k, d = .dK ks vs ∧ dy.key = some k ∧ o = lookK ks vs k) ∨ ∃ ks vs k, d = .dT ks vs ∧ dy.keyL = some k ∧ o = lookK ks vs k) {a : Addr} (e : v = .ref a) :
    ∃ ov, DGet H a y ov ∧ RepO1 K W ov o := by
  subst e
  rcases h with ⟨ks, vs, k, rfl, hk, rfl⟩ | ⟨ks, vs, k, rfl, hk, rfl⟩
  · cases r with | dK h e l q =>
    obtain ⟨ov, gg, z⟩ := key_get s h e q (rep_key ry hk)
    refine ⟨ov, gg, ?_⟩
    rcases z with ⟨v', d', e1, e2, e3⟩ | ⟨e1, e2⟩
    · rw [e2]; exact ⟨v', e1, e3⟩
    · rw [e2]; exact e1
  · cases r with | dT h e l q =>
    obtain ⟨ov, gg, z⟩ := keyT_get s h e q ry hk
    refine ⟨ov, gg, ?_⟩
    rcases z with ⟨v', d', e1, e2, e3⟩ | ⟨e1, e2⟩
    · rw [e2]; exact ⟨v', e1, e3⟩
    · rw [e2]; exact e1
theorem back1 {cp : Pos} {e : Expr} {env : Env} (h : niceB e = true) : backTo cp (starEach [e] env) = [(false, eval e env)] := by
  rw [star_of h]; rfl
theorem back2 {cp : Pos} {e f : Expr} {env : Env} (h : niceB e = true) (h2 : niceB f = true) : backTo cp (starEach [e, f] env) = [(false, eval e env), (false, eval f env)] := by
  rw [star_of h, star_of h2]; rfl
theorem snd_get1 {a b : E} {x y : Expr} {ap cp : Pos} (ha : SndE g M G sc x a) (hb : SndE g M G sc y b) (hl : (ap.endLine == cp.line) = true) :
    SndE g M G sc (.Call (.Attribute x "get" ap) [y] [] cp) (.me .get1 a (.cons b .nil)) := by
  obtain ⟨ta, _, ha, sa, _, na⟩ := ha
  obtain ⟨tb, _, hb, sb, _, nb⟩ := hb
  refine .of (t := tDGet1 ta tb) (fun X c => ?_) (fun ρ σ W H r Q sm en e w => ?_) rfl rfl
  · exact pe_dget1 (room1 c.room) (ha X c).1 (hb X c).1 ⟨base_of na _, few_of (by simpa using nb) (by simp), hl, back1 nb⟩
  · simp only [evp] at e
    obtain ⟨d, ed, e⟩ := Option.bind_eq_some_iff.mp e
    obtain ⟨ys, es', e⟩ := Option.bind_eq_some_iff.mp e
    simp only [evs] at es'
    obtain ⟨y', ey, es'⟩ := Option.bind_eq_some_iff.mp es'
    cases es'
    simp only [meD] at e
    have key : ∃ o : Option D, r = .sh (o.getD .non) ∧ ((∃ ks vs k, d.d = .dK ks vs ∧ y'.d.key = some k ∧ o = lookK ks vs k) ∨ ∃ ks vs k, d.d = .dT ks vs ∧ y'.d.keyL = some k ∧ o = lookK ks vs k) := by
      unfold meGet1 at e
      split at e <;> try (cases e; done)
      · rename_i ks vs d0 h1 h2
        simp only [List.cons.injEq, and_true] at h2
        obtain ⟨k, hk, e⟩ := Option.map_eq_some_iff.mp e
        exact ⟨_, e.symm, .inl ⟨ks, vs, k, h1, by rw [h2]; exact hk, rfl⟩⟩
      · rename_i ks vs d0 h1 h2
        simp only [List.cons.injEq, and_true] at h2
        obtain ⟨k, hk, e⟩ := Option.map_eq_some_iff.mp e
        exact ⟨_, e.symm, .inr ⟨ks, vs, k, h1, by rw [h2]; exact hk, rfl⟩⟩
    obtain ⟨o, rfl, ho⟩ := key
    refine sp_d sa sm en ed fun v W1 H1 g1 r1 => ?_
    obtain ⟨p, rfl, hd⟩ := isD_of g1.wh r1 (by rcases ho with ⟨ks, vs, k, h, _⟩ | ⟨ks, vs, k, h, _⟩; exact .inl ⟨_, _, h⟩; exact .inr ⟨_, _, h⟩)
    refine ⟨p, rfl, hd, ?_⟩
    refine sp_d sb g1.wh (en.mono g1.sW) ey fun u W2 H2 g2 r2 => ?_
    obtain ⟨ov, gg, z⟩ := get_sem g2.wh (r1.mono g2.sW) r2 ho rfl
    refine ⟨ov, gg, ?_⟩
    cases o with
    | none => rw [show ov = none from z]; exact (w.at (g1.trans g2)).sh g2.wh .non
    | some d' => obtain ⟨v', rfl, rv⟩ := z; exact (w.at (g1.trans g2)).sh g2.wh rv
theorem snd_get2 {a b c : E} {x y z : Expr} {ap cp : Pos} (ha : SndE g M G sc x a) (hb : SndE g M G sc y b) (hc : SndE g M G sc z c) (hl : (ap.endLine == cp.line) = true) :
    SndE g M G sc (.Call (.Attribute x "get" ap) [y, z] [] cp) (.me .get2 a (.cons b (.cons c .nil))) := by
  obtain ⟨ta, _, ha, sa, _, na⟩ := ha
  obtain ⟨tb, _, hb, sb, _, nb⟩ := hb
  obtain ⟨tc, _, hc, s_c, _, nc⟩ := hc
  refine .of (t := tDGet2 ta tb tc) (fun X k => ?_) (fun ρ σ W H r Q sm en e w => ?_) rfl rfl
  · exact pe_dget2 (room1 k.room) (ha X k).1 (hb X k).1 (hc X k).1 ⟨base_of na _, few_of (by intro e he; rcases List.mem_cons.mp he with rfl | he; exact nb; rcases List.mem_cons.mp he with rfl | he; exact nc; cases he) (by simp), hl, back2 nb nc⟩
  · simp only [evp] at e
    obtain ⟨d, ed, e⟩ := Option.bind_eq_some_iff.mp e
    obtain ⟨ys, es', e⟩ := Option.bind_eq_some_iff.mp e
    simp only [evs] at es'
    obtain ⟨y', ey, es'⟩ := Option.bind_eq_some_iff.mp es'
    obtain ⟨zs, ezs, es'⟩ := Option.map_eq_some_iff.mp es'
    obtain ⟨z', ez, ezs⟩ := Option.bind_eq_some_iff.mp ezs
    cases ezs
    cases es'
    simp only [meD] at e
    have key : ∃ o : Option D, r = .sh (o.getD z'.d) ∧ ((∃ ks vs k, d.d = .dK ks vs ∧ y'.d.key = some k ∧ o = lookK ks vs k) ∨ ∃ ks vs k, d.d = .dT ks vs ∧ y'.d.keyL = some k ∧ o = lookK ks vs k) := by
      unfold meGet2 at e
      split at e <;> try (cases e; done)
      · rename_i ks vs d0 z0 h1 h2
        simp only [List.cons.injEq, and_true] at h2
        obtain ⟨k, hk, e⟩ := Option.map_eq_some_iff.mp e
        refine ⟨lookK ks vs k, by rw [h2.2]; exact e.symm, .inl ⟨ks, vs, k, h1, by rw [h2.1]; exact hk, rfl⟩⟩
      · rename_i ks vs d0 z0 h1 h2
        simp only [List.cons.injEq, and_true] at h2
        obtain ⟨k, hk, e⟩ := Option.map_eq_some_iff.mp e
        refine ⟨lookK ks vs k, by rw [h2.2]; exact e.symm, .inr ⟨ks, vs, k, h1, by rw [h2.1]; exact hk, rfl⟩⟩
    obtain ⟨o, rfl, ho⟩ := key
    refine sp_d sa sm en ed fun v W1 H1 g1 r1 => ?_
    obtain ⟨p, rfl, hd⟩ := isD_of g1.wh r1 (by rcases ho with ⟨ks, vs, k, h, _⟩ | ⟨ks, vs, k, h, _⟩; exact .inl ⟨_, _, h⟩; exact .inr ⟨_, _, h⟩)
    refine ⟨p, rfl, hd, ?_⟩
    refine sp_d sb g1.wh (en.mono g1.sW) ey fun u W2 H2 g2 r2 => ?_
    refine sp_d s_c g2.wh ((en.mono g1.sW).mono g2.sW) ez fun u3 W3 H3 g3 r3 => ?_
    obtain ⟨ov, gg, zz⟩ := get_sem g3.wh ((r1.mono g2.sW).mono g3.sW) (r2.mono g3.sW) ho rfl
    refine ⟨ov, gg, ?_⟩
    cases o with
    | none => rw [show ov = none from zz]; exact (w.at ((g1.trans g2).trans g3)).sh g3.wh r3
    | some d' => obtain ⟨v', rfl, rv⟩ := zz; exact (w.at ((g1.trans g2).trans g3)).sh g3.wh rv

/-! ### calls -/
theorem snd_ca {j : Nat} {es : Es} {n : Str} {x : Expr} {xs : List Expr} {p pos : Pos} (F : Facts g M G) (hs : SndS g M G sc (x :: xs) es) (h1 : M.fs[j]? = some (n, (x :: xs).length)) (h2 : glB sc n = true) (h3 : (n == ("__debug__" : Str)) = false) :
    SndE g M G sc (.Call (.Name n p) (x :: xs) [] pos) (.ca j es) := by
  obtain ⟨ta, ha, sa⟩ := hs.pa
  cases hf : G.fs[j]? with
  | none =>
    exact .of (t := fun _ _ _ => False) (fun X c => ⟨fun _ _ _ _ _ _ z => z.elim⟩) (fun ρ σ W H r Q sm en e w => by
      simp only [evp, hf] at e
      obtain ⟨ds, _, e⟩ := Option.bind_eq_some_iff.mp e
      cases e) rfl rfl
  | some f =>
    obtain ⟨a, fd, ps, hm, hk, hb, ok⟩ := (F.fn j n _ f h1 hf).ex
    refine .of (t := tCall (spOf g.K (x :: xs).length f) [] E0 ta) (fun X c => ?_) (fun ρ σ W H r Q sm en e w => ?_) rfl rfl
    · exact pe_call (c.fnOk ok) c.room (c.gl h2) (by rw [c.mg]; exact hm) (by rw [c.K]; exact hk) (by rw [c.K]; exact hb) .nil passL (ha X c) h3 (star_of (hs.nice x List.mem_cons_self)) (star_any fun e he => hs.nice e (List.mem_cons_of_mem _ he))
    · simp only [evp, hf] at e
      obtain ⟨ds, eds, e⟩ := Option.bind_eq_some_iff.mp e
      refine sa ρ σ W H ds _ sm en eds fun vs W1 H1 g1 r1 => ?_
      rw [List.append_nil]
      exact ⟨r1.length.trans (hs.len ρ ds eds), W1, ds, r, g1.wh, r1, e, w.at g1⟩
def tCallK0 (sp : Sp) (gV : List V → List V → List V) (m : Nat) (E : XK) (tk : TA) : TE := fun σ H Q => tk σ H fun zs H2 => zs.length = m ∧ sp (gV [] zs) H2 Q E
theorem kw_all {pos : Pos} {env : Env} : ∀ {kws : List Keyword}, (kws.all fun k => k.arg.isSome) = true → (backToKw pos (keywordEach kws env)).all (·.1.isSome) = true
  | [], _ => rfl
  | ⟨nm, e, kp⟩ :: kws, h => by
    simp only [List.all_cons, Bool.and_eq_true] at h
    have ih := kw_all (pos := pos) (env := env) h.2
    show (nm.isSome && (backToKw pos (keywordEach kws env)).all (·.1.isSome)) = true
    rw [ih, h.1]; rfl
theorem kw_names {pos : Pos} {env : Env} : ∀ {kws : List Keyword}, (backToKw pos (keywordEach kws env)).filterMap (·.1) = kws.filterMap (·.arg)
  | [] => rfl
  | ⟨nm, e, kp⟩ :: kws => by
    have ih := kw_names (pos := pos) (env := env) (kws := kws)
    have : backToKw pos (keywordEach (⟨nm, e, kp⟩ :: kws) env) = (nm, do let v ← eval e env; standAt pos; pure v) :: backToKw pos (keywordEach kws env) := rfl
    rw [this, List.filterMap_cons, List.filterMap_cons, ih]
theorem kw_any {pos : Pos} {env : Env} : ∀ {kws : List Keyword}, (kws.all fun k => k.arg.isSome) = true → (backToKw pos (keywordEach kws env)).any (·.1.isNone) = false
  | [], _ => rfl
  | ⟨nm, e, kp⟩ :: kws, h => by
    simp only [List.all_cons, Bool.and_eq_true] at h
    have ih := kw_any (pos := pos) (env := env) h.2
    show (nm.isNone || (backToKw pos (keywordEach kws env)).any (·.1.isNone)) = false
    rw [ih]
    cases nm with
    | none => cases h.1
    | some _ => rfl
theorem pe_callK0 {X : Cx} {CX : CXT} {k : Nat} {f : Addr} {fd : FuncData} {ps ks : List Str} {sp : Sp} {E : XK} {x : Str} {p pos : Pos} {kws : List Keyword} {tk : TA} {gg : List Value → List Value → List Value} {gV : List V → List V → List V}
    (F : FnOk X.prog X.w X.K X.mg X.base CX k f fd ps sp) (hr : Room k X.A) (hg : Gl X x) (hm : X.mg x = some (.ref f)) (hk : PySem.W.keepIn X.K (.ref f) = true) (hb : KBn X.K fd ps 0 ks gg gV) (hx : Passes CX X E)
    (hkw : PK X kws tk) (hall : (kws.all fun k => k.arg.isSome) = true) (hks : kws.filterMap (·.arg) = ks) (hdb : (x == ("__debug__" : Str)) = false) : PE X (.Call (.Name x p) [] kws pos) (tCallK0 sp gV ks.length E tk) := by
  refine ⟨fun pins s σ H Q I h => ?_⟩
  refine wpAny_Call_Name_kw (ld_glob I hg hm ?_ hdb)
  refine PySem.W.callWith_KW0 (h₀ := X.base) I.ok.mod.kin hk (kw_all hall) (thn (hkw.run pos pins s σ H _ I h) fun ws s2 ⟨zs, H2, I2, rz, l2, q2⟩ => ⟨I2.kIn, ?_⟩) (kw_any hall)
  rw [kw_names, hks]
  exact run_fnN (us := []) (vs := []) F hr hb hx I2 .nil rz rfl l2 q2
theorem RepL.pick {K : PySem.W.Frag} {W : Hp} {vs : List V} {ds : List D} (r : RepL K W vs ds) : ∀ pm : List Nat, RepL K W (pm.map fun i => vs.getD i .non) (pm.map fun i => ds.getD i .non)
  | [] => .nil
  | i :: pm => by
    refine .cons ?_ (RepL.pick r pm)
    show Rep K W (vs.getD i V.non) (ds.getD i D.non)
    cases h : ds[i]? with
    | none =>
      have h2 : vs[i]? = none := by rw [List.getElem?_eq_none_iff] at h ⊢; rw [r.length]; exact h
      rw [List.getD_eq_getElem?_getD, List.getD_eq_getElem?_getD, h, h2]; exact .non
    | some d =>
      obtain ⟨v, h2, h3⟩ := r.get h
      rw [List.getD_eq_getElem?_getD, List.getD_eq_getElem?_getD, h, h2]; exact h3
theorem snd_ck {j : Nat} {es : Es} {n : Str} {k : Keyword} {kws : List Keyword} {p pos : Pos} (F : Facts g M G) (hs : SndS g M G sc ((k :: kws).map (·.value)) es) (h1 : M.ks[j]? = some (n, (k :: kws).filterMap (·.arg))) (h2 : glB sc n = true) (h3 : (n == ("__debug__" : Str)) = false)
    (h4 : ((k :: kws).all fun k => k.arg.isSome) = true) : SndE g M G sc (.Call (.Name n p) [] (k :: kws) pos) (.ck j es) := by
  obtain ⟨ta, ha, sa⟩ := hs.pk (k :: kws) rfl
  cases hf : G.ks[j]? with
  | none =>
    exact .of (t := fun _ _ _ => False) (fun X c => ⟨fun _ _ _ _ _ _ z => z.elim⟩) (fun ρ σ W H r Q sm en e w => by
      simp only [evp, hf] at e
      obtain ⟨ds, _, e⟩ := Option.bind_eq_some_iff.mp e
      cases e) rfl rfl
  | some f =>
    obtain ⟨pm, f⟩ := f
    obtain ⟨a, fd, ps, gg, hm, hk, hb, ok⟩ := (F.kfn j n _ pm f h1 hf).ex
    refine .of (t := tCallK0 (spOf g.K pm.length f) (fun _ zs => pm.map fun i => zs.getD i .non) ((k :: kws).filterMap (·.arg)).length E0 ta) (fun X c => ?_) (fun ρ σ W H r Q sm en e w => ?_) rfl rfl
    · exact pe_callK0 (c.fnOk ok) c.room (c.gl h2) (by rw [c.mg]; exact hm) (by rw [c.K]; exact hk) (by rw [c.K]; exact hb) passL (ha X c) h4 rfl h3
    · simp only [evp, hf] at e
      obtain ⟨ds, eds, e⟩ := Option.bind_eq_some_iff.mp e
      refine sa ρ σ W H ds _ sm en eds fun vs W1 H1 g1 r1 => ?_
      refine ⟨r1.length.trans ((hs.len ρ ds eds).trans ?_), by rw [List.length_map], W1, _, r, g1.wh, r1.pick pm, e, w.at g1⟩
      have : ∀ l : List Keyword, (l.all fun k => k.arg.isSome) = true → (l.map (·.value)).length = (l.filterMap (·.arg)).length := fun l => by
        induction l with
        | nil => intro _; rfl
        | cons q l ih =>
          intro h
          simp only [List.all_cons, Bool.and_eq_true] at h
          obtain ⟨v, hv⟩ := Option.isSome_iff_exists.mp h.1
          rw [List.filterMap_cons, hv]
          simp [← ih h.2]
      exact this _ h4
end
end KP
/-! KPjx: enumerate over a tuple. -/
namespace KP
open PySem PySem.Spec PyProof.Rows L2
open AutoSeq1 (wpAny_loadPart')

theorem meets_enumT (l : Addr) (items : Array Value) (n : Nat) (dct : Option Addr) (sl : Array (Option Value)) :
    Meets (Builtin.«enumerate.__new__» ⟨[.type "enumerate", .ref l], []⟩) (fun _ R s => s.heap.get? l = some { cls := .type "tuple", dict := dct, data := .seq items n, slots := sl } ∧
      R (.ok (.ret (.ref (s.heap.push { cls := .type "tuple_iterator", data := .fields #[.ref l, .int 0 0] }).objs.size)))
        { s with heap := (s.heap.push { cls := .type "tuple_iterator", data := .fields #[.ref l, .int 0 0] }).push { cls := .type "enumerate", data := .fields #[.none, .bool false, .ref s.heap.objs.size, rawInt 0, .none, .none] } }) :=
  .of_wp fun prog w A R s h => by
    obtain ⟨hp, g, d, tk, os⟩ := s; obtain ⟨hl, h⟩ := h
    have hsub := sub_enumerate
    have hL : Heap.IsTuple (Shared.heap ⟨hp, g, d, tk, os⟩) l items := ⟨_, hl, rfl, n, rfl⟩
    wp_walk using wpAny_loadPart' hl
    refine wpAny_stack_any fun st => wpAny_pure ?_
    split
    · rename_i c _ _ _ _ _
      cases (c == Value.type "enumerate")
      · wp_walk using wpAny_loadPart' hl, wpAny_pyIter_tuple hL
        exact ⟨_, rfl, h⟩
      · wp_walk using wpAny_loadPart' hl, wpAny_pyIter_tuple hL
        exact ⟨_, rfl, h⟩
    · wp_walk using wpAny_loadPart' hl, wpAny_pyIter_tuple hL
      exact ⟨_, rfl, h⟩
theorem call_enumT {prog : Program} {w : World} {A : Around} {E : Value → Shared → Prop} {s : Shared} {l : Addr} {items : Array Value} {Q : Value → Shared → Prop} (hL : s.heap.IsTuple l items)
    (h : ∀ h', IsEnum h' (s.heap.objs.size + 1) s.heap.objs.size 0 .none → h'.IsTupleIter s.heap.objs.size l 0 → h'.objs.size = s.heap.objs.size + 2 →
      (∀ b o, s.heap.get? b = some o → h'.get? b = some o) → Q (.ref (s.heap.objs.size + 1)) { s with heap := h' }) :
    wpAny (model prog w) A (call (.type "enumerate") [.ref l]) Q E s := by
  obtain ⟨⟨c, dct, dt, sl⟩, hl, hc, n, hd⟩ := hL
  replace hc : c = .type "tuple" := hc
  replace hd : dt = .seq items n := hd
  subst hc hd
  refine callType_new F.called_enumerate (by decide) (F.typeCall_enumerate_1 _) (F.newCall_enumerate_1 _) (fun obj => F.args_object_init_2 obj _) F.entry_enumerate_new
    (meets_enumT l items n dct sl) ⟨hl, ?_⟩
  have hz : (s.heap.push { cls := .type "tuple_iterator", data := .fields #[.ref l, .int 0 0] }).objs.size = s.heap.objs.size + 1 := Heap.size_push ..
  show _ ∧ _
  rw [hz]
  have he : IsEnum ((s.heap.push { cls := .type "tuple_iterator", data := .fields #[.ref l, .int 0 0] }).push
      { cls := .type "enumerate", data := .fields #[.none, .bool false, .ref s.heap.objs.size, rawInt 0, .none, .none] }) (s.heap.objs.size + 1) s.heap.objs.size 0 .none := by
    have := Heap.get?_push_size (s.heap.push { cls := .type "tuple_iterator", data := .fields #[.ref l, .int 0 0] })
      (o := { cls := .type "enumerate", data := .fields #[.none, .bool false, .ref s.heap.objs.size, rawInt 0, .none, .none] }) rfl
    rw [hz] at this; exact this
  refine ⟨⟨_, he, rfl⟩, h _ he ⟨_, Heap.get?_push_of_some _ (Heap.get?_push_size _ rfl), rfl, rfl⟩ (by rw [Heap.size_push, hz]) fun b o x => Heap.get?_push_of_some _ (Heap.get?_push_of_some _ x)⟩
def IteT (K : PySem.W.Frag) (a : Addr) : L2.It :=
  ⟨fun i H => ∃ (xs : List V) (x : V), SqT K H a xs ∧ xs[i]? = some x, fun i H v H' => ∃ T x, v = .ref T ∧ H T = none ∧ H' = upd H T (.tup [.int (i : Nat), x]) ∧ ∀ xs, SqT K H a xs → xs[i]? = some x, fun i H => ∃ xs : List V, SqT K H a xs ∧ xs.length = i⟩
theorem turn_enumT {P : Program} {w : World} {K : PySem.W.Frag} {elts : List Expr} {kk : Nat} {tpos : Pos} (a e it : Addr) :
    Turn P w K (.Tuple elts kk tpos) (IteT K a) [e, it] e (fun i h => (∃ old, IsEnum h e it ((i : Nat) : Int) old) ∧ h.IsTupleIter it a i ∧ e ≠ it) where
  mem := by simp
  obj := fun i h st b hb => by
    obtain ⟨⟨old, he⟩, ⟨o, ho, hc, hd⟩, _⟩ := st
    have e' : b = e ∨ b = it := by simpa using hb
    rcases e' with z | z
    · rw [z]; exact ⟨_, he, fun v q => nomatch q⟩
    · rw [z]; exact ⟨o, ho, fun v q => by rw [hd] at q; cases q⟩
  keep := fun i h h' st k => let ⟨⟨old, he⟩, hi, hne⟩ := st; ⟨⟨old, k e (by simp) _ he⟩, hi.at fun o q => k it (by simp) o q, hne⟩
  item := by
    intro X hP hw hK hc i pins s σ H E I hf st hg
    subst hP hw hK
    obtain ⟨⟨old, he⟩, hit, hne⟩ := st
    obtain ⟨xs, x, hq, hx⟩ := hg
    obtain ⟨its, rv, p, hz⟩ := I.tuple hq
    obtain ⟨u, hu, ru⟩ := rv.get hx
    have hel : e < s.heap.objs.size := Heap.lt_size he
    have hil : it < s.heap.objs.size := by obtain ⟨_, q, _⟩ := hit; exact Heap.lt_size q
    have hai : a ≠ it := fun z => by
      obtain ⟨o1, h1, c1, _⟩ := hit
      obtain ⟨o2, h2, c2, _⟩ := p
      rw [z] at h2
      rw [h1] at h2
      cases h2
      rw [c1] at c2
      exact absurd (Value.type.inj c2) (by decide)
    have hae : a ≠ e := fun z => by
      obtain ⟨o2, h2, c2, _⟩ := p
      rw [z] at h2
      rw [show s.heap.get? e = _ from he] at h2
      cases h2
      exact absurd (Value.type.inj c2) (by decide)
    have D := Draws.tuple (prog := X.prog) (w := X.w) (A := X.A.in1) (I.ok.hd hc) it a hai its.toArray
    have hn : i < its.toArray.size := by
      have := (List.getElem?_eq_some_iff.mp hu).1
      simpa using this
    refine wpAny_pyNext_enum_itemD D he ⟨hit, p⟩ hn hne (by simp [hne, hae.symm]) fun v h' tk hv ho hit' hT hsz hk => ?_
    have hvu : v = u := by
      have : its[i]? = some v := by simpa using hv
      rw [hu] at this; exact (Option.some.inj this).symm
    subst hvu
    refine ⟨_, rfl, wpAny_letOwnedTupleGo_enum (s := { s with heap := h', toks := tk + 1 }) ho fun h'' he' sb => ?_⟩
    have hT2 : h''.get? s.heap.objs.size = some { cls := .type "tuple", data := .seq #[.int i tk, v] } := (sb.2 _ (Nat.ne_of_gt hel)).trans hT
    have new : ObjOk X.prog X.w (upd H s.heap.objs.size (.tup [.int (i : Nat), x])) h'' s.heap.objs.size (.tup [.int (i : Nat), x]) :=
      ⟨by show 2 ≤ sizeLine; decide, [.int i tk, v], .cons ⟨_, rfl⟩ (.cons ru .nil), ⟨_, hT2, rfl, _, rfl⟩⟩
    have I1 : Inv X pins σ (upd H s.heap.objs.size (.tup [.int (i : Nat), x])) { s with heap := h'', toks := tk + 1 } :=
      I.turnedNew (ch := [e, it]) (fun b ob hb q => (sb.2 b (fun z => hb (by simp [z]))).trans (hk b ob (fun z => hb (by simp [z])) (fun z => hb (by simp [z])) q)) hf (Nat.le_refl _) new
    refine ⟨.ref s.heap.objs.size, _, I1, rfl, ⟨_, x, rfl, I.hok.fresh (Nat.le_refl _), rfl, fun ys hy => by rw [I.tuple_inj hy hq]; exact hx⟩, ⟨⟨v, ?_⟩, hit'.1.at fun o q => (sb.2 it (Ne.symm hne)).trans q, hne⟩, fun b hb => ?_⟩
    · have e1 : ((i + 1 : Nat) : Int) = (i : Int) + 1 := by omega
      rw [e1]; exact he'
    · have hb' : b < s.heap.objs.size := by
        have e' : b = e ∨ b = it := by simpa using hb
        rcases e' with z | z
        · rw [z]; exact hel
        · rw [z]; exact hil
      rw [upd_ne (Nat.ne_of_lt hb')]
      exact (hf b hb).1
  done := by
    intro X hP hw hK hc i pins s σ H E I hf st hg
    subst hP hw hK
    obtain ⟨⟨old, he⟩, hit, hne⟩ := st
    obtain ⟨xs, hq, hx⟩ := hg
    obtain ⟨its, rv, p, hz⟩ := I.tuple hq
    obtain ⟨f0, f1, f2, f3, f4, f5⟩ := hf it (by simp)
    have hl := rv.length
    have hai : a ≠ it := fun z => by
      obtain ⟨o1, h1, c1, _⟩ := hit
      obtain ⟨o2, h2, c2, _⟩ := p
      rw [z] at h2
      rw [h1] at h2
      cases h2
      rw [c1] at c2
      exact absurd (Value.type.inj c2) (by decide)
    have D := Draws.tuple (prog := X.prog) (w := X.w) (A := X.A.in1) (I.ok.hd hc) it a hai its.toArray
    have hsz : i = its.toArray.size := by rw [List.size_toArray]; omega
    exact wpAny_pyNext_enum_endD D he (by rw [← hsz]; exact ⟨hit, p⟩) fun h' eb => ⟨rfl, I.turned (t' := s.toks) (fun b o hb q => eb b o hb q) f0 f1 f3 f4 f5⟩
  self := fun A i s Q E st h => let ⟨⟨_, he⟩, _⟩ := st; wpAny_pyIter_enum he h
/-- a list or a tuple -/
def iEnumS (K : PySem.W.Frag) (ta : TA) : TI := fun σ H R => ta σ H fun vs H1 => ∃ a xs, vs = [.ref a] ∧ ((SqL K H1 a xs ∧ R (Ite K a) H1) ∨ (SqT K H1 a xs ∧ R (IteT K a) H1))
theorem pi_enumS {X : Cx} {e : Expr} {ta : TA} {p pos tpos : Pos} {elts : List Expr} {kk : Nat} (hg : Gl X "enumerate") (hm : X.mg "enumerate" = none) (ha : PA X [e] ta) (hs : starEach [e] X.env = [(false, eval e X.env)]) :
    PI X (.Tuple elts kk tpos) (.Call (.Name "enumerate" p) [e] [] pos) (iEnumS X.K ta) := by
  refine ⟨fun pins s σ H R I h => ?_⟩
  refine Call_ (ld_blt I hg hm boot_enumerate (PyProof.Rows.callWith_type1 (thn (ha.run pos pins s σ H _ I h) fun us s1 ⟨vs, H1, I1, r1, q1⟩ => ?_) hs rfl))
  obtain ⟨a, xs, ex, q1⟩ := q1
  subst ex
  obtain ⟨u1, rfl, r⟩ := vals1 r1
  cases r
  have fresh : ∀ b, b ∈ [s1.heap.objs.size + 1, s1.heap.objs.size] → FpOk X pins H1 b := fun b hb => by
    have e' : b = s1.heap.objs.size + 1 ∨ b = s1.heap.objs.size := by simpa using hb
    have hle : s1.heap.objs.size ≤ b := by
      rcases e' with z | z
      · rw [z]; exact Nat.le_add_right _ _
      · rw [z]; exact Nat.le_refl _
    exact I1.fpOk hle (I1.hok.fresh hle)
  rcases q1 with ⟨hq, q⟩ | ⟨hq, q⟩
  · obtain ⟨its, rv, p', hz⟩ := I1.list hq
    refine call_enumerate_list p'.isList fun h' he hit hsz hk => wpAny_pyIter_enum he ?_
    have I2 : Inv X pins σ H1 { s1 with heap := h' } := I1.kept (t' := s1.toks) hk
    exact ⟨s1.heap.objs.size + 1, [s1.heap.objs.size + 1, s1.heap.objs.size], _, _, H1, rfl, I2, turn_enum a (s1.heap.objs.size + 1) s1.heap.objs.size, ⟨⟨.none, he⟩, hit, Nat.succ_ne_self _⟩, fresh, q⟩
  · obtain ⟨its, rv, p', hz⟩ := I1.tuple hq
    refine call_enumT p' fun h' he hit hsz hk => wpAny_pyIter_enum he ?_
    have I2 : Inv X pins σ H1 { s1 with heap := h' } := I1.kept (t' := s1.toks) hk
    exact ⟨s1.heap.objs.size + 1, [s1.heap.objs.size + 1, s1.heap.objs.size], _, _, H1, rfl, I2, turn_enumT a (s1.heap.objs.size + 1) s1.heap.objs.size, ⟨⟨.none, he⟩, hit, Nat.succ_ne_self _⟩, fresh, q⟩
theorem walk_enumT {K : PySem.W.Frag} {a : Addr} {xs : List V} : Walk (IteT K a) xs.length (fun H => SqT K H a xs) (YPair (fun i => some (.int (i : Nat))) (fun i => xs[i]?)) := by
  refine ⟨fun i _ hi q => ⟨xs, xs[i], q, by simp [hi]⟩, fun _ q => ⟨xs, q, rfl⟩, fun i H v H' _ q y => ?_⟩
  obtain ⟨T, x, h1, h2, h3, h4⟩ := y
  exact ⟨T, .int (i : Nat), x, h1, h2, h3, rfl, h4 xs q⟩
end KP
/-! KPk: targets, iterators, comprehensions. -/
namespace KP
open PySem L2

/-! ### targets -/
/-- the slots but those in S bear what is told -/
def EnvB (K : PySem.W.Frag) (W : Hp) (S : Nat → Prop) (ρ : Sg) (σ : L2.St) : Prop := ρ.length = σ.length ∧ ∀ (i : Nat) (d : D), ¬ S i → ρ[i]? = some (some d) → ∃ v, σ[i]? = some (some v) ∧ Rep K W v d
theorem EnvR.b {K : PySem.W.Frag} {W : Hp} {S : Nat → Prop} {ρ : Sg} {σ : L2.St} (h : EnvR K W ρ σ) : EnvB K W S ρ σ := ⟨h.1, fun i d _ e => h.2 i d e⟩
theorem EnvB.r {K : PySem.W.Frag} {W : Hp} {S : Nat → Prop} {ρ : Sg} {σ : L2.St} (h : EnvB K W S ρ σ) (hS : ∀ i, ¬ S i) : EnvR K W ρ σ := ⟨h.1, fun i d e => h.2 i d (hS i) e⟩
theorem EnvB.mono {K : PySem.W.Frag} {W W' : Hp} {S : Nat → Prop} {ρ : Sg} {σ : L2.St} (s : Same W W') (h : EnvB K W S ρ σ) : EnvB K W' S ρ σ := ⟨h.1, fun i d n e =>
  let ⟨v, q, r⟩ := h.2 i d n e; ⟨v, q, r.mono s⟩⟩
theorem EnvB.set {K : PySem.W.Frag} {W : Hp} {S : Nat → Prop} {ρ : Sg} {σ : L2.St} {i : Nat} {d : D} {v : V} (h : EnvB K W S ρ σ) (r : Rep K W v d) : EnvB K W (fun j => S j ∧ j ≠ i) (ρ.set i (some d)) (σ.set i (some v)) := by
  refine ⟨by simp [h.1], fun j d' n e => ?_⟩
  by_cases q : j = i
  · subst q
    have hl : j < ρ.length := by
      have := (List.getElem?_eq_some_iff.mp e).1
      simpa using this
    rw [List.getElem?_set_self hl] at e
    cases e
    exact ⟨v, List.getElem?_set_self (by rw [← h.1]; exact hl), r⟩
  · rw [List.getElem?_set_ne (fun z => q z.symm)] at e ⊢
    exact h.2 j d' (fun s => n ⟨s, q⟩) e
def SG (K : PySem.W.Frag) (gt : TG) (ids : List Nat) (f : D → Sg → Option Sg) : Prop := ∀ v d σ W H ρ ρ' (S : Nat → Prop) (Q : L2.St → Hp → Prop), Sub W H → EnvB K W S ρ σ → Rep K W v d → f d ρ = some ρ' →
  (∀ σ', EnvB K W (fun j => S j ∧ j ∉ ids) ρ' σ' → σ'.length = σ.length → (∀ j, j ∉ ids → σ'[j]? = σ[j]?) → Q σ' H) → gt v σ H Q
def SGs (K : PySem.W.Frag) (gt : TGs) (ids : List Nat) (f : List D → Sg → Option Sg) : Prop := ∀ vs ds σ W H ρ ρ' (S : Nat → Prop) (Q : L2.St → Hp → Prop), Sub W H → EnvB K W S ρ σ → RepL K W vs ds → f ds ρ = some ρ' →
  (∀ σ', EnvB K W (fun j => S j ∧ j ∉ ids) ρ' σ' → σ'.length = σ.length → (∀ j, j ∉ ids → σ'[j]? = σ[j]?) → Q σ' H) → gt vs σ H Q
theorem PG.or {X : Cx} {tg : Expr} {t u : TG} (h1 : PG X tg t) (h2 : PG X tg u) : PG X tg (fun v σ H Q => t v σ H Q ∨ u v σ H Q) :=
  ⟨fun pins s σ H v u' Q I r h => h.elim (h1.run pins s σ H v u' Q I r) (h2.run pins s σ H v u' Q I r)⟩
section
variable {g : GG} {M : Nm} {G : Cs} {sc : Scope}
theorem tgs_len {ok : Str → Bool} : ∀ {ts : Tgs} {es : List Expr} {ds : List D} {ρ ρ' : Sg}, chkTs M ok ts es = true → bindTs ts ds ρ = some ρ' → ds.length = es.length
  | .nil, [], [], _, _, _, _ => rfl
  | .nil, _ :: _, _, _, _, h, _ => by simp [chkTs] at h
  | .nil, [], _ :: _, _, _, _, e => by simp [bindTs] at e
  | .cons _ _, _, [], _, _, _, e => by simp [bindTs] at e
  | .cons _ _, [], _ :: _, _, _, h, _ => by simp [chkTs] at h
  | .cons t ts, x :: es, d :: ds, ρ, ρ', h, e => by
    simp only [chkTs, Bool.and_eq_true] at h
    simp only [bindTs] at e
    obtain ⟨ρ1, _, e⟩ := Option.bind_eq_some_iff.mp e
    simp [tgs_len h.2 e]
mutual
theorem tg_ok {ok : Str → Bool} : ∀ (tg : Tg) (e : Expr), chkT M ok tg e = true → (∃ gt, (∀ X, Ctx g M sc X → OkT X ok → PG X e gt) ∧ SG g.K gt tg.ids (bindT tg)) ∧ ∀ env, (assignEach [e] env).map (·.2) = [assign e env] ∧ (assignEach [e] env).findIdx? (·.1) = none
  | .nm i, e, h => by
    unfold chkT at h
    split at h <;> try (cases h; done)
    rename_i x p
    simp only [Bool.and_eq_true, decide_eq_true_eq] at h
    refine ⟨⟨gName i, fun X c o => pg_name (by rw [c.N]; exact c.nd) (by rw [c.N]; exact h.1) (o _ h.2).1 (o _ h.2).2, fun v d σ W H ρ ρ' S Q sm en r e q => ?_⟩, fun env => ⟨rfl, rfl⟩⟩
    simp only [bindT] at e
    cases e
    refine q _ ⟨(en.set r).1, fun j d' n e => (en.set r).2 j d' (fun z => n ⟨z.1, by simpa [Tg.ids] using z.2⟩) e⟩ (by simp) fun j hj => List.getElem?_set_ne (by simp [Tg.ids] at hj; exact fun z => hj z.symm)
  | .tp ts, e, h => by
    unfold chkT at h
    split at h <;> try (cases h; done)
    rename_i es k p
    obtain ⟨⟨gt, hg, sg⟩, hl⟩ := tgs_ok ts es h
    refine ⟨⟨fun v σ H Q => gTup g.K es.length gt v σ H Q ∨ gUnl g.K es.length gt v σ H Q, fun X c o => ?_, fun v d σ W H ρ ρ' S Q sm en r e q => ?_⟩, fun env => ⟨rfl, rfl⟩⟩
    · obtain ⟨h1, h2⟩ := hl X.env
      rw [← c.K]
      exact PG.or (pg_tup c.calm (hg X c o) h1 h2) (pg_unl c.calm (hg X c o) h1 h2)
    · have hlen := @tgs_len M ok
      cases d <;> simp only [bindT] at e <;> try (cases e; done)
      · cases r with | lst hw l rr =>
        exact .inr ⟨_, _, rfl, .of (sm _ _ hw), rr.length.trans (hlen h e), sg _ _ σ W H ρ ρ' S Q sm en rr e q⟩
      · cases r with | tup hw rr =>
        exact .inl ⟨_, _, rfl, .of (sm _ _ hw), rr.length.trans (hlen h e), sg _ _ σ W H ρ ρ' S Q sm en rr e q⟩
theorem tgs_ok {ok : Str → Bool} : ∀ (ts : Tgs) (es : List Expr), chkTs M ok ts es = true → (∃ gt, (∀ X, Ctx g M sc X → OkT X ok → PGs X es gt) ∧ SGs g.K gt ts.ids (bindTs ts)) ∧ ∀ env, (assignEach es env).length = es.length ∧ (assignEach es env).findIdx? (·.1) = none
  | .nil, [], h => by
    refine ⟨⟨gNil, fun X c o => pgs_nil, fun vs ds σ W H ρ ρ' S Q sm en r e q => ?_⟩, fun env => ⟨rfl, rfl⟩⟩
    cases r with
    | nil =>
      simp only [bindTs] at e
      cases e
      exact ⟨rfl, q σ ⟨en.1, fun j d n e => en.2 j d (fun z => n ⟨z, by simp [Tgs.ids]⟩) e⟩ rfl fun _ _ => rfl⟩
    | cons _ _ => simp [bindTs] at e
  | .cons t ts, e :: es, h => by
    simp only [chkTs, Bool.and_eq_true] at h
    obtain ⟨⟨g1, h1, s1⟩, a1⟩ := tg_ok t e h.1
    obtain ⟨⟨g2, h2, s2⟩, a2⟩ := tgs_ok ts es h.2
    have ae : ∀ env, assignEach (e :: es) env = (false, assign e env) :: assignEach es env := fun env => by
      have h0 := h.1
      cases e <;> first | rfl | (cases t <;> simp [chkT] at h0)
    refine ⟨⟨gCons g1 g2, fun X c o => pgs_cons (h1 X c o) (h2 X c o) (by rw [ae]; rfl), fun vs ds σ W H ρ ρ' S Q sm en r e q => ?_⟩, fun env => ?_⟩
    · cases r with
      | nil => simp [bindTs] at e
      | cons r rr =>
        simp only [bindTs] at e
        obtain ⟨ρ1, e1, e2⟩ := Option.bind_eq_some_iff.mp e
        refine ⟨_, _, rfl, s1 _ _ σ W H ρ ρ1 S _ sm en r e1 fun σ1 en1 l1 k1 => ?_⟩
        refine s2 _ _ σ1 W H ρ1 ρ' _ Q sm en1 rr e2 fun σ2 en2 l2 k2 => ?_
        refine q σ2 ⟨en2.1, fun j d n e => en2.2 j d (fun z => n ⟨z.1.1, by simp [Tgs.ids]; exact ⟨z.1.2, z.2⟩⟩) e⟩ (l2.trans l1) fun j hj => ?_
        simp [Tgs.ids] at hj
        rw [k2 j hj.2, k1 j hj.1]
    · rw [ae]
      obtain ⟨h3, h4⟩ := a2 env
      refine ⟨by simp [h3], ?_⟩
      rw [List.findIdx?_cons]
      simp [h4]
  | .nil, _ :: _, h => by simp [chkTs] at h
  | .cons _ _, [], h => by simp [chkTs] at h
end

/-! ### iterators -/
def YOk (K : PySem.W.Frag) (W : Hp) (ds : List D) (i : Nat) (H : Hp) (x : V) (H2 : Hp) : Prop := ∃ d, ds[i]? = some d ∧ ∀ W1, Same W W1 → Sub W1 H → ∃ W2, Grow W1 H W2 H2 ∧ Rep K W2 x d
def WalkOk (K : PySem.W.Frag) (W : Hp) (J : L2.It) (ds : List D) : Prop := ds.length ≤ LIM ∧ ∃ Y, Walk J ds.length (Same W) Y ∧ ∀ i H1 x H2, i < ds.length → Same W H1 → Y i H1 x H2 → YOk K W ds i H1 x H2
def SI (K : PySem.W.Frag) (wi : TI) (f : Sg → Option (List D)) : Prop := ∀ ρ σ W H ds R, Sub W H → EnvR K W ρ σ → f ρ = some ds → (∀ (J : L2.It) W' H', Grow W H W' H' → WalkOk K W' J ds → R J H') → wi σ H R
def SndI (g : GG) (M : Nm) (G : Cs) (sc : Scope) (tg iter : Expr) (ir : KP.It) : Prop := ∃ wi, (∀ X, Ctx g M sc X → PI X tg iter wi) ∧ SI g.K wi (evi G ir) ∧ ∀ env x, foldedSetIterable iter env x = pure x
theorem PI.or {X : Cx} {tg it : Expr} {t u : TI} (h1 : PI X tg it t) (h2 : PI X tg it u) : PI X tg it (fun σ H R => t σ H R ∨ u σ H R) :=
  ⟨fun pins s σ H R I h => h.elim (h1.run pins s σ H R I) (h2.run pins s σ H R I)⟩
def iSeq (K : PySem.W.Frag) (tl : TE) : TI := fun σ H R => tl σ H fun x H1 => ∃ a, x = .ref a ∧ (((∃ xs, SqL K H1 a xs) ∧ R (Itl K a) H1) ∨ ((∃ xs, SqT K H1 a xs) ∧ R (Itt K a) H1))
theorem pi_seq {X : Cx} {tg l : Expr} {tl : TE} (hl : PE X l tl) : PI X tg l (iSeq X.K tl) := by
  refine ⟨fun pins s σ H R I h => ?_⟩
  refine thn (hl.run pins s σ H _ I h) fun v s1 ⟨x, H1, I1, r1, q1⟩ => ?_
  obtain ⟨a, e, q1⟩ := q1
  subst e
  cases r1
  rcases q1 with ⟨⟨xs, hq⟩, q⟩ | ⟨⟨xs, hq⟩, q⟩
  · obtain ⟨its, rv, p, hz⟩ := I1.list hq
    refine wpAny_pyIter_list p.isList ?_
    refine ⟨s1.heap.objs.size, [s1.heap.objs.size], _, _, H1, rfl, I1.kept (t' := s1.toks) fun b o e => Heap.get?_push_of_some _ e, turn_list a _, ⟨_, Heap.get?_push_size _ rfl, rfl, rfl⟩, fun b hb => ?_, q⟩
    have e : b = s1.heap.objs.size := by simpa using hb
    subst e
    exact I1.fpOk (Nat.le_refl _) (I1.hok.fresh (Nat.le_refl _))
  · obtain ⟨its, rv, p, hz⟩ := I1.tuple hq
    refine wpAny_pyIter_tuple (show s1.heap.IsTuple a its.toArray from p) ?_
    refine ⟨s1.heap.objs.size, [s1.heap.objs.size], _, _, H1, rfl, I1.kept (t' := s1.toks) fun b o e => Heap.get?_push_of_some _ e, turn_tuple a _, ⟨_, Heap.get?_push_size _ rfl, rfl, rfl⟩, fun b hb => ?_, q⟩
    have e : b = s1.heap.objs.size := by simpa using hb
    subst e
    exact I1.fpOk (Nat.le_refl _) (I1.hok.fresh (Nat.le_refl _))
theorem yok_at {K : PySem.W.Frag} {W H : Hp} {ds : List D} {i : Nat} {x : V} {d : D} (s : Same W H) (hd : ds[i]? = some d) (r : Rep K W x d) : YOk K W ds i H x H :=
  ⟨d, hd, fun W1 s1 s2 => ⟨W1, Grow.refl s2, r.mono s1⟩⟩
theorem walk_l {K : PySem.W.Frag} {W : Hp} {a : Addr} {vs : List V} {ds : List D} (hw : SqL K W a vs) (l : ds.length ≤ LIM) (r : RepL K W vs ds) : WalkOk K W (Itl K a) ds :=
  ⟨l, YAt vs, by rw [← r.length]; exact walk_list.mono (fun H s => s.seq hw) fun _ _ _ _ _ _ y => y, fun i H1 x H2 hi s y => by
    obtain ⟨rfl, hx⟩ := y
    obtain ⟨d, hd, rd⟩ := r.getV hx
    exact yok_at s hd rd⟩
theorem walk_t {K : PySem.W.Frag} {W : Hp} {a : Addr} {vs : List V} {ds : List D} (hw : SqT K W a vs) (l : ds.length ≤ LIM) (r : RepL K W vs ds) : WalkOk K W (Itt K a) ds :=
  ⟨l, YAt vs, by rw [← r.length]; exact walk_tup.mono (fun H s => same_sqt s hw) fun _ _ _ _ _ _ y => y, fun i H1 x H2 hi s y => by
    obtain ⟨rfl, hx⟩ := y
    obtain ⟨d, hd, rd⟩ := r.getV hx
    exact yok_at s hd rd⟩
theorem sndi_sq {e tg : Expr} {a : E} (ha : SndE g M G sc e a) : SndI g M G sc tg e (.sq a) := by
  obtain ⟨ta, _, ha, sa, _, na⟩ := ha
  refine ⟨iSeq g.K ta, fun X c => by rw [← c.K]; exact pi_seq (ha X c).1, fun ρ σ W H ds R sm en e w => ?_, fun env x => folded_of na x⟩
  simp only [evi] at e
  obtain ⟨r, er, e⟩ := Option.bind_eq_some_iff.mp e
  refine sp_d sa sm en er fun v W1 H1 g1 r1 => ?_
  split at e <;> try (cases e; done)
  · rename_i ds' hd
    cases e
    rw [hd] at r1
    cases r1 with | lst hw l rr =>
    exact ⟨_, rfl, .inl ⟨⟨_, .of (g1.wh _ _ hw)⟩, w _ W1 H1 g1 (walk_l (.of hw) l rr)⟩⟩
  · rename_i ds' hd
    split at e <;> try (cases e; done)
    rename_i hl
    cases e
    rw [hd] at r1
    cases r1 with | tup hw rr =>
    exact ⟨_, rfl, .inr ⟨⟨_, .of (g1.wh _ _ hw)⟩, w _ W1 H1 g1 (walk_t (.of hw) hl rr)⟩⟩
  · rename_i ns hd
    cases e
    rw [hd] at r1
    cases r1 with | scr hw l =>
    exact ⟨_, rfl, .inl ⟨⟨_, g1.wh.seq hw⟩, w _ W1 H1 g1 (walk_l hw (by simpa using l) (RepL.ints ns))⟩⟩
theorem walk_r {K : PySem.W.Frag} {W : Hp} {lo : Int} {n : Nat} (l : n ≤ LIM) : WalkOk K W (Itr lo n) ((List.range n).map fun i => D.int (lo + (i : Nat))) :=
  ⟨by simpa using l, YFn fun i => .int (lo + i), by rw [List.length_map, List.length_range]; exact walk_range.mono (fun _ _ => trivial) fun _ _ _ _ _ _ y => y, fun i H1 x H2 hi s y => by
    obtain ⟨rfl, rfl⟩ := y
    have : i < n := by simpa using hi
    exact yok_at (d := .int (lo + (i : Nat))) s (by simp [this]) (.int _)⟩
theorem sndi_r1 {x tg : Expr} {a : E} {n : Str} {p pos : Pos} (F : Facts g M G) (ha : SndE g M G sc x a) (h1 : n = "range") (h2 : M.blt sc n = true) : SndI g M G sc tg (.Call (.Name n p) [x] [] pos) (.r1 a) := by
  subst h1
  obtain ⟨ta, _, ha, sa, _, na⟩ := ha
  refine ⟨iRng1 (tCons ta tNil), fun X c => pi_range1 (c.blt F h2).1 (c.blt F h2).2 (pa_cons (ha X c).1 pa_nil (star_of na)) (star_of na), fun ρ σ W H ds R sm en e w => ?_, fun env x => rfl⟩
  simp only [evi] at e
  obtain ⟨r, er, e⟩ := Option.bind_eq_some_iff.mp e
  split at e <;> try (cases e; done)
  rename_i i hi
  split at e <;> try (cases e; done)
  rename_i hs
  cases e
  have := small_of hs
  refine sp_d sa sm en er fun v W1 H1 g1 r1 => ?_
  rw [hi] at r1
  have hw := walk_r (K := g.K) (W := W1) (lo := 0) (n := i.toNat) (by show _ ≤ 100000; omega)
  refine ⟨i, by rw [rep_int r1], by omega, by omega, w _ W1 H1 g1 ?_⟩
  unfold rangeD
  simpa using hw
theorem sndi_r2 {x y tg : Expr} {a b : E} {n : Str} {p pos : Pos} (F : Facts g M G) (ha : SndE g M G sc x a) (hb : SndE g M G sc y b) (h1 : n = "range") (h2 : M.blt sc n = true) : SndI g M G sc tg (.Call (.Name n p) [x, y] [] pos) (.r2 a b) := by
  subst h1
  obtain ⟨ta, _, ha, sa, _, na⟩ := ha
  obtain ⟨tb, _, hb, sb, _, nb⟩ := hb
  refine ⟨iRng2 (tCons ta (tCons tb tNil)), fun X c => pi_range2 (c.blt F h2).1 (c.blt F h2).2 (pa_cons (ha X c).1 (pa_cons (hb X c).1 pa_nil (star_of nb)) (star_of na)) (by rw [star_of na, star_of nb]; rfl) (by rw [star_of nb]; rfl), fun ρ σ W H ds R sm en e w => ?_, fun env x => rfl⟩
  simp only [evi] at e
  obtain ⟨r, er, e⟩ := Option.bind_eq_some_iff.mp e
  obtain ⟨r2, er2, e⟩ := Option.bind_eq_some_iff.mp e
  split at e <;> try (cases e; done)
  rename_i i j hi hj
  split at e <;> try (cases e; done)
  rename_i hs
  cases e
  simp only [Bool.and_eq_true, decide_eq_true_eq] at hs
  have := small_of hs.1.1
  have := small_of hs.1.2
  refine sp_d sa sm en er fun v W1 H1 g1 r1 => ?_
  refine sp_d sb g1.wh (en.mono g1.sW) er2 fun u W2 H2 g2 r2 => ?_
  rw [hi] at r1
  rw [hj] at r2
  exact ⟨i, j, by rw [rep_int r1, rep_int r2], ⟨by omega, by omega, by omega, by omega⟩, w _ W2 H2 (g1.trans g2) (walk_r hs.2)⟩
theorem sndi_rd {x y z tg : Expr} {a b : E} {n : Str} {p pos : Pos} (F : Facts g M G) (ha : SndE g M G sc x a) (hb : SndE g M G sc y b) (h1 : n = "range") (h2 : M.blt sc n = true) (hz : negOne z = true) : SndI g M G sc tg (.Call (.Name n p) [x, y, z] [] pos) (.rd a b) := by
  subst h1
  unfold negOne at hz
  split at hz <;> try (cases hz; done)
  rename_i kz pz pz2
  obtain ⟨ta, _, ha, sa, _, na⟩ := ha
  obtain ⟨tb, _, hb, sb, _, nb⟩ := hb
  refine ⟨iRng3 (tCons ta (tCons tb (tCons (tUn (rU fun i => .int (-i)) (tC (.int 1))) tNil))), fun X c => pi_range3 (c.blt F h2).1 (c.blt F h2).2 (pa_cons (ha X c).1 (pa_cons (hb X c).1 (pa_cons (pe_un un_neg pe_int) pa_nil) (star_of nb)) (star_of na)) (star_of na) (star_any fun e he => by
    rcases List.mem_cons.mp he with rfl | he
    · exact nb
    rcases List.mem_cons.mp he with rfl | he
    · rfl
    cases he), fun ρ σ W H ds R sm en e w => ?_, fun env x => rfl⟩
  simp only [evi] at e
  obtain ⟨r, er, e⟩ := Option.bind_eq_some_iff.mp e
  obtain ⟨r2, er2, e⟩ := Option.bind_eq_some_iff.mp e
  split at e <;> try (cases e; done)
  rename_i i j hi hj
  split at e <;> try (cases e; done)
  rename_i hs
  cases e
  simp only [Bool.and_eq_true, decide_eq_true_eq] at hs
  have := small_of hs.1.1
  have := small_of hs.1.2
  refine sp_d sa sm en er fun v W1 H1 g1 r1 => ?_
  refine sp_d sb g1.wh (en.mono g1.sW) er2 fun u W2 H2 g2 r2 => ?_
  rw [hi] at r1
  rw [hj] at r2
  refine ⟨1, rfl, i, j, -1, (i - j).toNat, by rw [rep_int r1, rep_int r2], RgC.neg (by omega) (by omega) (by omega) (by omega), w _ W2 H2 (g1.trans g2) ?_⟩
  refine ⟨by unfold downD; simpa using hs.2, YFn fun k => .int (i + (k : Nat) * -1), ?_, fun k H1 x H2 hk s y => ?_⟩
  · unfold downD
    rw [List.length_map, List.length_range]
    exact walk_rangeC.mono (fun _ _ => trivial) fun _ _ _ _ _ _ y => y
  · obtain ⟨rfl, rfl⟩ := y
    have hk' : k < (i - j).toNat := by unfold downD at hk; simpa using hk
    have e : i + (k : Nat) * -1 = i - (k : Nat) := by omega
    show YOk g.K W2 (downD i j) k H2 (V.int (i + (k : Nat) * -1)) H2
    rw [e]
    exact yok_at (d := .int (i - (k : Nat))) s (by unfold downD; simp [hk']) (.int _)
theorem enumD_length : ∀ (k : Nat) (ds : List D), (enumD k ds).length = ds.length
  | _, [] => rfl
  | k, d :: ds => by simp [enumD, enumD_length (k + 1) ds]
theorem enumD_get : ∀ (k : Nat) (ds : List D) (i : Nat), (enumD k ds)[i]? = ds[i]?.map fun d => .tup [.int ((k + i : Nat) : Int), d]
  | _, [], i => by simp [enumD]
  | k, d :: ds, 0 => by simp [enumD]
  | k, d :: ds, i + 1 => by
    simp only [enumD, List.getElem?_cons_succ]
    rw [enumD_get (k + 1) ds i]
    have : k + 1 + i = k + (i + 1) := by omega
    rw [this]
theorem walk_e {K : PySem.W.Frag} {W : Hp} {a : Addr} {vs : List V} {ds : List D} {J : L2.It} {G : Hp → Prop} (hw : Walk J vs.length G (YPair (fun i => some (.int (i : Nat))) (fun i => vs[i]?))) (hG : ∀ H, Same W H → G H) (l : ds.length ≤ LIM) (rr : RepL K W vs ds) : WalkOk K W J (enumD 0 ds) := by
  refine ⟨by rw [enumD_length]; exact l, YPair (fun i => some (.int (i : Nat))) (fun i => vs[i]?), ?_, fun i H1 x H2 hi s y => ?_⟩
  · rw [enumD_length, ← rr.length]
    exact hw.mono hG fun _ _ _ _ _ _ y => y
  · obtain ⟨T, a, b, rfl, hT, rfl, e1, e2⟩ := y
    cases e1
    obtain ⟨d, hd', rd⟩ := rr.getV e2
    refine ⟨.tup [.int (i : Int), d], by rw [enumD_get, hd']; simp, fun W1 s1 s2 => ⟨_, Grow.new s2 hT, .tup upd_same (.cons (.int _) (.cons ((rd.mono s1).mono (Same.new (s2.free hT))) .nil))⟩⟩
theorem sndi_en {x tg : Expr} {a : E} {n : Str} {p pos : Pos} (F : Facts g M G) (ha : SndE g M G sc x a) (h1 : n = "enumerate") (h2 : M.blt sc n = true) (ht : ∃ es k q, tg = .Tuple es k q) : SndI g M G sc tg (.Call (.Name n p) [x] [] pos) (.en a) := by
  subst h1
  obtain ⟨es, k, q, rfl⟩ := ht
  obtain ⟨ta, _, ha, sa, _, na⟩ := ha
  refine ⟨iEnumS g.K (tCons ta tNil), fun X c => by rw [← c.K]; exact pi_enumS (c.blt F h2).1 (c.blt F h2).2 (pa_cons (ha X c).1 pa_nil (star_of na)) (star_of na), fun ρ σ W H ds R sm en e w => ?_, fun env x => rfl⟩
  simp only [evi] at e
  obtain ⟨r, er, e⟩ := Option.bind_eq_some_iff.mp e
  refine sp_d sa sm en er fun v W1 H1 g1 r1 => ?_
  split at e <;> try (cases e; done)
  · rename_i ds' hd
    cases e
    rw [hd] at r1
    cases r1 with | lst hw l rr =>
    exact ⟨_, _, rfl, .inl ⟨.of (g1.wh _ _ hw), w _ W1 H1 g1 (walk_e (a := 0) walk_enum (fun H s => .of (s _ _ hw)) l rr)⟩⟩
  · rename_i ds' hd
    split at e
    case isFalse => cases e
    rename_i l
    cases e
    rw [hd] at r1
    cases r1 with | tup hw rr =>
    exact ⟨_, _, rfl, .inr ⟨.of (g1.wh _ _ hw), w _ W1 H1 g1 (walk_e (a := 0) walk_enumT (fun H s => .of (s _ _ hw)) l rr)⟩⟩

/-! ### comprehensions -/
def SndF (g : GG) (M : Nm) (G : Cs) (sc : Scope) (ifs : List Expr) (ir : Eo) : Prop := ∃ tt, (∀ X, Ctx g M sc X → PTs X ifs tt) ∧ ST g.K tt (evc G ir)
theorem sndf_no : SndF g M G sc [] .no := ⟨tYes, fun X c => pts_nil, fun ρ σ W H b Q sm en e w => by
  simp only [evc] at e; cases e
  exact w W H (Grow.refl sm)⟩
theorem sndf_so {e : Expr} {a : E} (ha : SndE g M G sc e a) : SndF g M G sc [e] (.so a) := by
  obtain ⟨ta, tt, ha, sa, st, na⟩ := ha
  exact ⟨tt, fun X c => pts_one (ha X c).2, fun ρ σ W H b Q sm en e w => st ρ σ W H b Q sm en (by simpa only [evc, evb] using e) w⟩
theorem wipe_in {σ : L2.St} {i : Nat} : ∀ {vs : List Nat}, i ∈ vs → i < σ.length → (wipe σ vs)[i]? = some none
  | v :: vs, h, hl => by
    unfold wipe
    by_cases e : v = i
    · subst e
      exact List.getElem?_set_self (by rw [wipe_length]; exact hl)
    · rw [List.getElem?_set_ne e]
      exact wipe_in ((List.mem_cons.mp h).resolve_left fun z => e z.symm) hl
theorem wipe_ext {σ σ' : L2.St} {vs : List Nat} (hl : σ'.length = σ.length) (h : ∀ j, j ∉ vs → σ'[j]? = σ[j]?) : wipe σ' vs = wipe σ vs := by
  apply List.ext_getElem?
  intro j
  by_cases hj : j ∈ vs
  · by_cases hjl : j < σ.length
    · rw [wipe_in hj (by rw [hl]; exact hjl), wipe_in hj hjl]
    · rw [List.getElem?_eq_none (by rw [wipe_length, hl]; omega), List.getElem?_eq_none (by rw [wipe_length]; omega)]
  · rw [wipe_out hj, wipe_out hj, h j hj]
theorem envB_wipe {K : PySem.W.Frag} {W : Hp} {ρ : Sg} {σ : L2.St} {vs : List Nat} (h : EnvR K W ρ σ) : EnvB K W (fun j => j ∈ vs) ρ (wipe σ vs) :=
  ⟨by rw [wipe_length]; exact h.1, fun i d n e => by rw [wipe_out n]; exact h.2 i d e⟩
theorem compL_cons {c : D → Option Bool} {f : D → Option D} {x : D} {xs ys : List D} (h : compL c f (x :: xs) = some ys) : ∃ b, c x = some b ∧ ((b = true ∧ ∃ y ys', f x = some y ∧ compL c f xs = some ys' ∧ ys = y :: ys') ∨ (b = false ∧ compL c f xs = some ys)) := by
  unfold compL at h
  obtain ⟨b, hb, h⟩ := Option.bind_eq_some_iff.mp h
  refine ⟨b, hb, ?_⟩
  cases b with
  | true =>
    rw [if_pos rfl] at h
    obtain ⟨y, hy, h⟩ := Option.bind_eq_some_iff.mp h
    obtain ⟨ys', h1, h2⟩ := Option.map_eq_some_iff.mp h
    exact .inl ⟨rfl, y, ys', hy, h1, h2.symm⟩
  | false => exact .inr ⟨rfl, by simpa using h⟩
/-- y = e on one line, e a comprehension -/
def PSL (X : Cx) (e : Expr) (t : TE) : Prop := ∀ (i : Nat) y py spos, X.N[i]? = some y → X.env.scope.names.lookup y = some .local → swapsWith e (some (.Name y py)) spos.line X.env = pure true → PS X (.Assign [.Name y py] e spos) (tAsg t (gName i))
theorem snd_coL {tg : Tg} {it : KP.It} {c : Eo} {a : E} {t iter elt : Expr} {ifs : List Expr} {scope : Scope} {pos : Pos} (hi : SndI g M G sc t iter it) (hb : blkC M.N sc scope (tg.ids.map fun i => (M.N.getD i "", i)) = true)
    (ht : chkT M (okB scope sc) tg t = true) (hc : SndF g M G (relS scope sc) ifs c) (ha : SndE g M G (relS scope sc) elt a) : ∃ te, (∀ X, Ctx g M sc X → PE X (.ListComp elt [⟨t, iter, ifs, 0⟩] scope pos) te ∧ PSL X (.ListComp elt [⟨t, iter, ifs, 0⟩] scope pos) te) ∧ SP g.K te (evp G (.co tg it c a)) := by
  obtain ⟨wi, hi, si, hfold⟩ := hi
  obtain ⟨⟨gt, hg, sg⟩, _⟩ := tg_ok (g := g) (sc := relS scope sc) tg t ht
  obtain ⟨tt, hc, st⟩ := hc
  obtain ⟨te, _, ha, se, _, na⟩ := ha
  have hvs : (tg.ids.map fun i => (M.N.getD i "", i)).map (·.2) = tg.ids := by
    rw [List.map_map]; exact List.map_id _
  refine ⟨tLc wi gt tt te tg.ids, fun X k => ⟨?_, fun i y py spos h1 h2 h3 => ?_⟩, fun ρ σ W H r Q sm en e w => ?_⟩
  · rw [← hvs]
    exact pe_lc k.calm (by rw [k.N]; exact k.nd) (hi X k) (by rw [k.N, k.scope]; exact blkOk_by hb) (fun s H C cl fp => hg _ (k.blk s H scope C cl fp) (k.okb s H scope C cl fp)) (fun s H C cl fp => hc _ (k.blk s H scope C cl fp)) (fun s H C cl fp => (ha _ (k.blk s H scope C cl fp)).1) (fun x => hfold _ x)
  · rw [← hvs]
    exact ps_setLc k.calm (by rw [k.N]; exact k.nd) h1 h2 h3 (hi X k) (by rw [k.N, k.scope]; exact blkOk_by hb) (fun s H C cl fp => hg _ (k.blk s H scope C cl fp) (k.okb s H scope C cl fp)) (fun s H C cl fp => hc _ (k.blk s H scope C cl fp)) (fun s H C cl fp => (ha _ (k.blk s H scope C cl fp)).1) (fun x => hfold _ x)
  · simp only [evp] at e
    obtain ⟨ds, eds, e⟩ := Option.bind_eq_some_iff.mp e
    obtain ⟨all, eall, e⟩ := Option.map_eq_some_iff.mp e
    subst e
    refine si ρ σ W H ds _ sm en eds fun J W1 H1 g1 wk => ?_
    obtain ⟨hlim, Y, wk, hY⟩ := wk
    intro D0 hD
    have en1 := en.mono g1.sW
    refine lc_it wk (fun i H' => ∃ Wi vs ys rest, Same W1 Wi ∧ Sub Wi H' ∧ Wi D0 = none ∧ H' D0 = some (.lst vs) ∧ RepL g.K Wi vs ys ∧ ys.length ≤ i ∧ compL (fun d => (bindT tg d ρ).bind fun ρ' => evc G c ρ') (fun d => (bindT tg d ρ).bind fun ρ' => (evp G a ρ').map R.d) (ds.drop i) = some rest ∧
        all = ys ++ rest ∧ Ext H1 H' ∧ ∀ b o, Wi b = some o → W1 b = some o ∨ Fr H1 b) ?_ ?_ ?_ ?_
    · exact ⟨W1, [], [], all, Same.refl _, same_upd2 g1.wh hD, g1.wh.free hD, upd_same, .nil, Nat.le_refl _, eall, rfl, Ext.new hD, fun b o e => .inl e⟩
    · rintro i H' _ ⟨Wi, vs, ys, rest, s1, s2, _⟩
      exact s1.trans s2
    · rintro i x H' H2 hi ⟨Wi, vs, ys, rest, s1, s2, n0, h0, rr, hl, hc', hall, sH, nw⟩ hy
      obtain ⟨d, hd, yy⟩ := hY i H' x H2 hi (s1.trans s2) hy
      obtain ⟨W2, g2, rx⟩ := yy Wi s1 s2
      have hdrop : ds.drop i = d :: ds.drop (i + 1) := by
        obtain ⟨hlt, he⟩ := List.getElem?_eq_some_iff.mp hd
        rw [List.drop_eq_getElem_cons hlt, he]
      rw [hdrop] at hc'
      obtain ⟨b, hcb, alt⟩ := compL_cons hc'
      obtain ⟨ρ', eρ, ec⟩ := Option.bind_eq_some_iff.mp hcb
      have enw : EnvB g.K W2 (fun j => j ∈ tg.ids) ρ (wipe σ tg.ids) := envB_wipe (en1.mono (s1.trans g2.sW))
      refine sg x d (wipe σ tg.ids) W2 H2 ρ ρ' _ _ g2.wh enw rx eρ fun σ2 en2 l2 k2 => ?_
      have en2' : EnvR g.K W2 ρ' σ2 := en2.r fun j z => z.2 z.1
      refine ⟨?_, ?_⟩
      · refine wipe_ext (l2.trans (wipe_length _ _)) fun j hj => ?_
        rw [k2 j hj, wipe_out hj]
      have n2 : W2 D0 = none := by
        cases h : W2 D0 with
        | none => rfl
        | some o =>
          rcases g2.nw D0 o h with z | z
          · rw [n0] at z; cases z
          · exact (z.no h0 (by simp)).elim
      have h2 : H2 D0 = some (.lst vs) := g2.sH.l h0
      refine st ρ' σ2 W2 H2 b _ g2.wh en2' ec fun W3 H3 g3 => ?_
      have g23 := g2.trans g3
      have n3 : W3 D0 = none := by
        cases h : W3 D0 with
        | none => rfl
        | some o =>
          rcases g23.nw D0 o h with z | z
          · rw [n0] at z; cases z
          · exact (z.no h0 (by simp)).elim
      rcases alt with ⟨rfl, y, ys', hf, hrest, rfl⟩ | ⟨rfl, hrest⟩
      · rw [if_pos rfl]
        obtain ⟨ρ'', eρ', hf⟩ := Option.bind_eq_some_iff.mp hf
        rw [eρ] at eρ'
        cases eρ'
        obtain ⟨r, er, hr⟩ := Option.map_eq_some_iff.mp hf
        subst hr
        refine sp_d se g3.wh (en2'.mono g3.sW) er fun v W4 H4 g4 r4 => ?_
        have g24 := g23.trans g4
        have n4 : W4 D0 = none := by
          cases h : W4 D0 with
          | none => rfl
          | some o =>
            rcases g24.nw D0 o h with z | z
            · rw [n0] at z; cases z
            · exact (z.no h0 (by simp)).elim
        refine ⟨vs, g24.sH.l h0, ?_, W4, vs ++ [v], ys ++ [r.d], ys', s1.trans g24.sW, ?_, n4, upd_same, (rr.mono g24.sW).snoc r4, by simp; omega, hrest, by simp [hall], ?_, ?_⟩
        · have := rr.length
          have := lim_line
          have : ds.length ≤ 100000 := hlim
          have : (100000 : Nat) ≤ sizeLine := lim_line
          omega
        · exact g24.wh.wr n4 (g24.sH.l h0)
        · exact (sH.trans g24.sH).over hD (g24.sH.l h0)
        · intro b o e
          rcases g24.nw b o e with z | z
          · exact nw b o z
          · exact .inr (z.back sH)
      · rw [if_neg (by simp)]
        refine ⟨W3, vs, ys, rest, s1.trans g23.sW, g23.wh, n3, g23.sH.l h0, rr.mono g23.sW, by omega, hrest, hall, sH.trans g23.sH, fun b o e => ?_⟩
        rcases g23.nw b o e with z | z
        · exact nw b o z
        · exact .inr (z.back sH)
    · rintro H' ⟨Wi, vs, ys, rest, s1, s2, n0, h0, rr, hl, hc', hall, sH, nw⟩
      rw [List.drop_length] at hc'
      simp only [compL] at hc'
      cases hc'
      rw [List.append_nil] at hall
      subst hall
      refine w _ Wi H' ⟨g1.sW.trans s1, g1.sH.trans sH, s2, fun b o e => ?_⟩ ⟨D0, vs, rfl, g1.sH.fr hD, n0, h0, by have : ds.length ≤ 100000 := hlim; show _ ≤ 100000; omega, rr⟩
      rcases nw b o e with z | z
      · exact g1.nw b o z
      · exact .inr (z.back g1.sH)
theorem snd_co {tg : Tg} {it : KP.It} {c : Eo} {a : E} {t iter elt : Expr} {ifs : List Expr} {scope : Scope} {pos : Pos} (hi : SndI g M G sc t iter it) (hb : blkC M.N sc scope (tg.ids.map fun i => (M.N.getD i "", i)) = true)
    (ht : chkT M (okB scope sc) tg t = true) (hc : SndF g M G (relS scope sc) ifs c) (ha : SndE g M G (relS scope sc) elt a) : SndE g M G sc (.ListComp elt [⟨t, iter, ifs, 0⟩] scope pos) (.co tg it c a) := by
  obtain ⟨te, h1, h2⟩ := snd_coL (pos := pos) hi hb ht hc ha
  exact .of (fun X k => (h1 X k).1) h2 rfl rfl
end
end KP
/-! KPl: a sum of lists; a list backwards. -/
namespace KP
open PySem L2

section
variable {prog : Program} {w : World} {A : Around} {R : Result → Shared → Prop} {I : Addr} {fp wr : List Addr} {G : Array GenState → Array GenState → Prop} {n : Nat} {P : Nat → Value → Prop} {St : Nat → Shared → Prop}
abbrev lstObj (xs : List Value) (c : Nat) : Obj := { cls := .type "list", dict := none, data := .seq xs.toArray c }
def tailOf (its : Nat → List Value) (i : Nat) : Nat → List Value
  | 0 => []
  | k + 1 => its i ++ tailOf its (i + 1) k
/-- the turns of sum over lists -/
theorem sum_lists_turns (W : WalksS prog w A.in1 I fp wr G n P St) (la : Nat → Addr) (its : Nat → List Value) (hval : ∀ i v, P i v → v = .ref (la i)) (S : Addr) (hSf : S ∉ fp) (hla : ∀ i, i < n → la i ∉ S :: wr)
    (hwr : ∀ i s, St i s → ∀ b ∈ wr, ∃ o, s.heap.get? b = some o) :
    ∀ (k i : Nat) (s : Shared) (T : Addr) (c : Nat) (acc : List Value), n - i = k → i ≤ n → St i s → s.heap.get? S = some (lstObj [.ref T] c) → T ∉ S :: wr → (∃ m, s.heap.get? T = some (lstObj acc m)) →
      (∀ j, j < n → ∃ m, s.heap.get? (la j) = some (lstObj (its j) m)) → acc.length + (tailOf its i k).length ≤ sizeLine →
      (∀ s' T', Moved (S :: wr) G s s' → ((k = 0 ∧ T' = T) ∨ S < T') → (∃ m, s'.heap.get? T' = some (lstObj (acc ++ tailOf its i k) m)) → R (.ok (.ret (.ref T'))) s') →
      codeAny (model prog w) A (.builtin "sum.loop" ⟨[.ref I, .ref S, rawInt 2, rawInt 0], []⟩) R s := by
  have hSw : S ∉ wr := fun h => hSf (W.sub _ h)
  have hsub : ∀ b ∈ wr, b ∈ S :: wr := fun b hb => List.mem_cons_of_mem _ hb
  intro k
  induction k with
  | zero =>
    intro i s T c acc hk hi hst hS hT hTo hl hz hR
    have hin : i = n := by omega
    subst hin
    refine codeAny_builtin F.entry_sum_loop ?_
    rw [Around.under_plainId F.plain_sum_loop _]
    show wpAny _ A.in1 (seqItems? (.ref S) >>= _) _ _ s
    refine wpAny_bind (wpAny_seqItems hS rfl ?_)
    show wpAny _ A.in1 (tryCatch (pyNext (.ref I)) _ >>= _) _ _ s
    refine wpAny_bind (wpAny_tryCatch (W.done s _ _ hst fun s' hm => ?_))
    obtain ⟨m, hTo⟩ := hTo
    exact wpAny_pure (hR s' T (hm.mono hsub) (.inl ⟨rfl, rfl⟩) ⟨m, by simpa [tailOf] using hm.heap T _ (fun z => hT (hsub _ z)) hTo⟩)
  | succ k ih =>
    intro i s T c acc hk hi hst hS hT hTo hl hz hR
    have hlt : i < n := by omega
    refine codeAny_builtin F.entry_sum_loop ?_
    rw [Around.under_plainId F.plain_sum_loop _]
    show wpAny _ A.in1 (seqItems? (.ref S) >>= _) _ _ s
    refine wpAny_bind (wpAny_seqItems hS rfl ?_)
    show wpAny _ A.in1 (tryCatch (pyNext (.ref I)) _ >>= _) _ _ s
    refine wpAny_bind (wpAny_tryCatch (W.item i s _ _ hlt hst fun v s' hP hst' hm => ?_))
    obtain rfl := hval i v hP
    have hS' := hm.heap S _ hSw hS
    obtain ⟨m, hTo⟩ := hTo
    have hTo' := hm.heap T _ (fun z => hT (hsub _ z)) hTo
    obtain ⟨m2, hli⟩ := hl i hlt
    have hli' := hm.heap (la i) _ (fun z => hla i hlt (hsub _ z)) hli
    have hsz : (its i).length + (tailOf its (i + 1) k).length = (tailOf its i (k + 1)).length := by simp [tailOf]
    show wpAny _ A.in1 ((holding [Value.ref (la i)] (binaryOp .Add (.ref T) (.ref (la i)))).attempt >>= _) _ _ _
    refine wpAny_bind (wpAny_attempt (wpAny_holding ?_))
    refine PySem.P.add_list hTo' hli' ?_ (by rw [List.size_toArray, List.size_toArray]; omega)
    have ea : acc.toArray ++ (its i).toArray = (acc ++ its i).toArray := by simp
    rw [ea]
    have hN : s'.heap.get? s'.heap.objs.size = none := by
      cases h : s'.heap.get? s'.heap.objs.size with
      | none => rfl
      | some o => exact absurd (Heap.lt_size h) (Nat.lt_irrefl _)
    have hSp := Heap.get?_push_of_some (o := lstObj (acc ++ its i) 0) hS'
    have hSlt : S < s'.heap.objs.size := Heap.lt_size hS'
    show wpAny _ A.in1 (updateSeq S (fun _ => #[Value.ref s'.heap.objs.size]) >>= _) _ _ _
    refine wpAny_bind (wpAny_updateSeq (s := { s' with heap := s'.heap.push (lstObj (acc ++ its i) 0) }) hSp rfl ?_)
    have hS₂ := Heap.get?_update_self (Obj.mapSeq fun _ => #[Value.ref s'.heap.objs.size]) hSp rfl
    refine wpAny_bind (wpAny_letGo ?_)
    have old : ∀ b o, b ≠ S → s'.heap.get? b = some o → (((s'.heap.push (lstObj (acc ++ its i) 0)).update S (Obj.mapSeq fun _ => #[Value.ref s'.heap.objs.size])).update S (Obj.mapSeq fun _ => #[Value.ref s'.heap.objs.size])).get? b = some o := fun b o hb e =>
      (Heap.get?_update_other _ _ (fun h : S = b => hb h.symm)).trans ((Heap.get?_update_other _ _ (fun h : S = b => hb h.symm)).trans (Heap.get?_push_of_some _ e))
    have hTn : s'.heap.objs.size ∉ S :: wr := fun z => by
      rcases List.mem_cons.mp z with z | z
      · rw [z] at hN; rw [hS'] at hN; cases hN
      · obtain ⟨o, ho⟩ := hwr _ _ hst' _ z
        rw [hN] at ho; cases ho
    refine wpAny_bind (wpAny_updateSeq hS₂ rfl (wpAny_pure ⟨plainId_quiet F.plain_sum_loop _, ih (i + 1) _ s'.heap.objs.size _ (acc ++ its i) (by omega) hlt (W.frame _ s' _ _ hst' (Nat.le_refl _) fun b hb o e => old b o (fun h => hSf (h ▸ hb)) e) (Heap.get?_update_self _ hS₂ rfl) hTn ?_ (fun j hj => ?_) ?_ fun s'' T'' hm'' hT'' hO'' => ?_⟩))
    · exact ⟨0, (Heap.get?_update_other _ _ (Nat.ne_of_lt hSlt)).trans ((Heap.get?_update_other _ _ (Nat.ne_of_lt hSlt)).trans (Heap.get?_push_size _ rfl))⟩
    · obtain ⟨mj, hj'⟩ := hl j hj
      refine ⟨mj, old _ _ (fun z => hla j hj (by rw [z]; exact List.mem_cons_self)) (hm.heap _ _ (fun z => hla j hj (hsub _ z)) hj')⟩
    · rw [List.length_append]; omega
    · refine hR s'' T'' (Moved.trans W.gtrans ((hm.mono hsub).then_heap (Nat.le_refl _) fun b o hb e => old b o (fun h => hb (by rw [h]; exact List.mem_cons_self)) e) hm'') (.inr ?_) ?_
      · rcases hT'' with ⟨_, rfl⟩ | h
        · exact hSlt
        · exact h
      · obtain ⟨m3, h3⟩ := hO''
        exact ⟨m3, by rw [h3]; simp [tailOf]⟩
end
theorem args_sum2 (a b : Value) : argsOk "sum" ⟨[a, b], []⟩ := by unfold argsOk; kernel_rfl
section
variable {prog : Program} {w : World} {A : Around} {E : Value → Shared → Prop} {s : Shared}
/-- sum(xs, b): lists -/
theorem call_sum_lists {x b : Addr} {items : List Value} {Q : Value → Shared → Prop} (la : Nat → Addr) (its : Nat → List Value) (acc : List Value) (hh : A.handled = none) (hl : s.heap.IsList x items.toArray) (hb : ∃ m, s.heap.get? b = some (lstObj acc m))
    (hval : ∀ (i : Nat) v, items[i]? = some v → v = .ref (la i)) (hla : ∀ j, j < items.length → ∃ m, s.heap.get? (la j) = some (lstObj (its j) m)) (hz : acc.length + (tailOf its 0 items.length).length ≤ sizeLine)
    (h : ∀ h' tk T', (∀ b o, s.heap.get? b = some o → h'.get? b = some o) → ((items.length = 0 ∧ T' = b) ∨ s.heap.objs.size ≤ T') → (∃ m, h'.get? T' = some (lstObj (acc ++ tailOf its 0 items.length) m)) → Q (.ref T') { s with heap := h', toks := tk }) :
    wpAny (model prog w) A (call (.builtin "sum") [.ref x, .ref b]) Q E s := by
  obtain ⟨mb, hb⟩ := hb
  refine call_function_tree F.kind_sum F.plain_sum F.entry_sum (args_sum2 _ _) ?_
  unfold Builtin.«sum»
  simp only [List.length_cons, List.length_nil]
  rw [if_neg (by decide)]
  refine wpAny_bind (wpAny_of_eq (show Builtin.Builtins.bindParams "sum" ["start"] 0 ⟨[.ref b], []⟩ = pure [some (.ref b)] from rfl) ?_)
  have hx : x < s.heap.objs.size := by
    obtain ⟨o, ho, _⟩ := hl
    exact Heap.lt_size ho
  refine wpAny_bind (wpAny_pyIter_list hl ?_)
  refine wpAny_bind (wpAny_pure ?_)
  simp only [List.forIn_cons, List.forIn_nil]
  have hT : Shared.TypeIs { s with heap := s.heap.push { cls := .type "list_iterator", data := .fields #[.ref x, .int 0 0] } } (.ref b) "list" := ⟨_, Heap.get?_push_of_some _ hb, rfl⟩
  refine wpAny_bind (wpAny_bind (wpAny_bind (wpAny_isInstance (T := "list") (b := false) hT (by rw [isSubtype_type]; kernel_rfl) ?_)))
  simp only [Bool.false_eq_true, if_false]
  refine wpAny_pure (wpAny_bind (wpAny_bind (wpAny_isInstance (T := "list") (b := false) hT (by rw [isSubtype_type]; kernel_rfl) ?_)))
  simp only [Bool.false_eq_true, if_false]
  refine wpAny_pure (wpAny_bind (wpAny_bind (wpAny_isInstance (T := "list") (b := false) hT (by rw [isSubtype_type]; kernel_rfl) ?_)))
  simp only [Bool.false_eq_true, if_false]
  refine wpAny_pure (wpAny_pure ?_)
  refine wpAny_bind (wpAny_newObj_type ?_)
  have hz1 : (s.heap.push { cls := .type "list_iterator", data := .fields #[.ref x, .int 0 0] }).objs.size = s.heap.objs.size + 1 := Heap.size_push ..
  have hne : x ≠ s.heap.objs.size := Nat.ne_of_lt hx
  have hSf : (s.heap.push { cls := .type "list_iterator", data := .fields #[.ref x, .int 0 0] }).objs.size ∉ [s.heap.objs.size, x] := by
    rw [hz1]
    simp only [List.mem_cons, List.not_mem_nil, or_false, not_or]
    exact ⟨Nat.succ_ne_self _, Nat.ne_of_gt (Nat.lt_succ_of_lt hx)⟩
  have two : ∀ b o (u : Obj), s.heap.get? b = some o → ((s.heap.push { cls := .type "list_iterator", data := .fields #[.ref x, .int 0 0] }).push u).get? b = some o := fun b o u e => Heap.get?_push_of_some _ (Heap.get?_push_of_some _ e)
  have hnew : ∀ b o, s.heap.get? b = some o → b ∉ (s.heap.push { cls := .type "list_iterator", data := .fields #[.ref x, .int 0 0] }).objs.size :: [s.heap.objs.size] := fun b o e => by
    have := Heap.lt_size e
    rw [hz1]
    simp only [List.mem_cons, List.not_mem_nil, or_false, not_or]
    exact ⟨Nat.ne_of_lt (Nat.lt_succ_of_lt this), Nat.ne_of_lt this⟩
  refine wpAny_pure ⟨plainId_quiet F.plain_sum_loop _, sum_lists_turns ((Walks.list (by simp [hh]) s.heap.objs.size x hne items.toArray).toS) la its (fun (i : Nat) (v : Value) e => hval i v (by simpa using e)) _ hSf
    (fun i hi => ?_) (fun i s' st b hb => ?_) items.length 0 _ b 0 acc (by simp) (Nat.zero_le _) ⟨⟨_, Heap.get?_push_of_some _ (Heap.get?_push_size _ rfl), rfl, rfl⟩, ?_⟩ (Heap.get?_push_size _ rfl) (hnew b _ hb) ⟨mb, two _ _ _ hb⟩ (fun j hj => ?_) hz fun s' T' hm hT' hO => ?_⟩
  · obtain ⟨m, e⟩ := hla i (by simpa using hi)
    exact hnew _ _ e
  · have : b = s.heap.objs.size := by simpa using hb
    subst this
    obtain ⟨o, ho, _⟩ := st.1
    exact ⟨o, ho⟩
  · obtain ⟨o, ho, r⟩ := hl
    exact ⟨o, two _ _ _ ho, r⟩
  · obtain ⟨m, e⟩ := hla j (by simpa using hj)
    exact ⟨m, two _ _ _ e⟩
  · obtain ⟨h', g2, d', tk', os'⟩ := s'
    obtain rfl : g2 = s.gens := hm.gens
    obtain rfl : d' = s.drawn := hm.drawn
    obtain rfl : os' = s.os := hm.os
    refine h h' tk' T' (fun b o e => hm.heap b o (hnew b o e) (two _ _ _ e)) ?_ hO
    rcases hT' with q | q
    · exact .inl q
    · refine .inr ?_
      rw [hz1] at q
      exact Nat.le_of_lt (Nat.lt_of_lt_of_le (Nat.lt_succ_self _) (Nat.le_of_lt q))
end
/-- a list of lists and an empty list -/
def rCat2 (K : PySem.W.Frag) : List V → Hp → VK → Prop := fun vs H Q => ∃ (a b : Addr) (ps : List Addr) (xss : List (List V)), vs = [.ref a, .ref b] ∧ SqL K H a (ps.map V.ref) ∧ ps.length = xss.length ∧ (∀ (i : Nat) p xs, ps[i]? = some p → xss[i]? = some xs → H p = some (.lst xs)) ∧
  H b = some (.lst []) ∧ xss.flatten.length ≤ sizeLine ∧ (xss = [] → Q (.ref b) H) ∧ ∀ p, H p = none → Q (.ref p) (upd H p (.lst xss.flatten))
theorem tail_vals {H : Hp} {P : Program} {w : World} {h : Heap} {ps : List Addr} {la : Nat → Addr} {its : Nat → List Value} : ∀ {xss : List (List V)} (i : Nat), (∀ j xs, xss[j]? = some xs → Vals xs (its (i + j))) → Vals xss.flatten (tailOf its i xss.length)
  | [], _, _ => .nil
  | xs :: xss, i, hv => by
    show Vals (xs ++ xss.flatten) (its i ++ tailOf its (i + 1) xss.length)
    exact (hv 0 xs rfl).append (tail_vals (H := H) (P := P) (w := w) (h := h) (ps := ps) (la := la) (i + 1) fun j ys e => by
      have := hv (j + 1) ys (by simpa using e)
      rwa [show i + (j + 1) = i + 1 + j by omega] at this)
theorem cr_cat {X : Cx} (hc : X.calm = true) : CallR X (.builtin "sum") (rCat2 X.K) := by
  intro pins s σ H vs us Q I r h
  obtain ⟨a, b, ps, xss, rfl, hs, hlen, hp, hB, hz, q0, q1⟩ := h
  obtain ⟨u1, u2, rfl, r1, r2⟩ := vals2 r
  cases r1
  cases r2
  obtain ⟨its, rv, hl, _⟩ := I.list hs
  have hil : its.length = ps.length := by rw [← rv.length, List.length_map]
  have ex : ∀ i, ∃ l, i < ps.length → (∃ m, s.heap.get? (ps.getD i 0) = some (lstObj l m)) ∧ ∀ xs, xss[i]? = some xs → Vals xs l := fun i => by
    by_cases hi : i < ps.length
    · have h1 : ps[i]? = some ps[i] := List.getElem?_eq_getElem hi
      have h2 : xss[i]? = some xss[i] := List.getElem?_eq_getElem (by rw [← hlen]; exact hi)
      obtain ⟨_, l, n, v, _, e⟩ := I.lstM (hp i _ _ h1 h2)
      refine ⟨l, fun _ => ⟨⟨n, by rw [List.getD_eq_getElem?_getD, h1]; exact e⟩, fun xs hx => ?_⟩⟩
      rw [h2] at hx; cases hx
      exact v
    · exact ⟨[], fun z => absurd z hi⟩
  let its2 : Nat → List Value := fun i => (ex i).choose
  have hits2 := fun i => (ex i).choose_spec
  obtain ⟨_, lb, nb, vb, _, eb⟩ := I.lstM hB
  cases vb
  have hv : Vals xss.flatten (tailOf its2 0 its.length) := by
    rw [hil, hlen]
    exact tail_vals (H := H) (P := X.prog) (w := X.w) (h := s.heap) (ps := ps) (la := fun i => ps.getD i 0) 0 fun j xs e => by
      rw [Nat.zero_add]
      exact (hits2 j (by rw [hlen]; exact (List.getElem?_eq_some_iff.mp e).1)).2 xs e
  refine call_sum_lists (fun i => ps.getD i 0) its2 [] (I.ok.hd hc) hl.isList ⟨nb, eb⟩ (fun i v e => ?_) (fun j hj => (hits2 j (by omega)).1) (by rw [List.length_nil, Nat.zero_add, ← hv.length]; exact hz) fun h' tk T' hk hT hO => ?_
  · have hi : i < ps.length := by rw [← hil]; exact (List.getElem?_eq_some_iff.mp e).1
    obtain ⟨u, hu, ru⟩ := rv.get (i := i) (x := .ref ps[i]) (by simp [hi])
    rw [e] at hu; cases hu
    have : v = .ref ps[i] := ru
    rw [this, List.getD_eq_getElem?_getD, List.getElem?_eq_getElem hi]; rfl
  · rw [List.nil_append] at hO
    rcases hT with ⟨h0, rfl⟩ | hT
    · have : xss = [] := List.eq_nil_of_length_eq_zero (by omega)
      exact ⟨.ref T', H, I.kept hk, rfl, q0 this⟩
    · obtain ⟨m, hO⟩ := hO
      exact ⟨.ref T', _, I.laid (o := .lst xss.flatten) (t' := tk) hk hT ⟨hz, _, m, hv, hO⟩, rfl, q1 T' (I.hok.fresh hT)⟩

section
variable {g : GG} {M : Nm} {G : Cs} {sc : Scope}
theorem lists_rep {K : PySem.W.Frag} {W : Hp} : ∀ {vs : List V} {ds : List D} {dss : List (List D)}, RepL K W vs ds → lists? ds = some dss →
    ∃ (ps : List Addr) (xss : List (List V)), vs = ps.map V.ref ∧ ps.length = xss.length ∧ (∀ (i : Nat) p xs, ps[i]? = some p → xss[i]? = some xs → W p = some (.lst xs)) ∧ RepL K W xss.flatten dss.flatten ∧ dss.length = xss.length
  | _, _, _, .nil, e => by
    simp only [lists?] at e; cases e
    exact ⟨[], [], rfl, rfl, fun i p xs h => by simp at h, .nil, rfl⟩
  | _, _, _, .cons (d := d) r rr, e => by
    cases d <;> simp only [lists?] at e <;> try (cases e; done)
    obtain ⟨dss', h1, rfl⟩ := Option.map_eq_some_iff.mp e
    obtain ⟨ps, xss, rfl, hl, hp, hr, hd⟩ := lists_rep rr h1
    cases r with | lst hw l q =>
    rename_i a vs'
    refine ⟨a :: ps, vs' :: xss, rfl, by simp [hl], fun i p xs e1 e2 => ?_, by simpa using q.append hr, by simp [hd]⟩
    cases i with
    | zero => simp at e1 e2; subst e1 e2; exact hw
    | succ i => exact hp i p xs (by simpa using e1) (by simpa using e2)
theorem snd_cat {a : E} {x : Expr} {p pos p2 : Pos} (F : Facts g M G) (ha : SndE g M G sc x a) (h2 : M.blt sc "sum" = true) : SndE g M G sc (.Call (.Name "sum" p) [x, .List [] p2] [] pos) (.cat a) := by
  obtain ⟨ta, _, ha, sa, _, na⟩ := ha
  refine .of (t := tCB (rCat2 g.K) (tCons ta (tCons (tLst tNil) tNil))) (fun X c => ?_) (fun ρ σ W H r Q sm en e w => ?_) rfl rfl
  · obtain ⟨a1, a2⟩ := c.blt F h2
    rw [← c.K]
    exact pe_callB (cr_cat c.calm) a1 a2 (by decide +kernel) (pa_cons (ha X c).1 (pa_cons (pe_lst pa_nil) pa_nil) (star_of na)) (by decide) (by decide) (star_of na) rfl
  · simp only [evp] at e
    obtain ⟨d, ed, e⟩ := Option.bind_eq_some_iff.mp e
    split at e <;> try (cases e; done)
    rename_i ds hd
    obtain ⟨dss, e1, e⟩ := Option.bind_eq_some_iff.mp e
    split at e <;> try (cases e; done)
    rename_i hl
    cases e
    refine sp_d sa sm en ed fun v W1 H1 g1 r1 => ?_
    rw [hd] at r1
    cases r1 with | lst hw l rr =>
    rename_i a0 vs
    obtain ⟨ps, xss, rfl, h3, h4, h5, h6⟩ := lists_rep rr e1
    refine ⟨by show 0 ≤ _; omega, fun b hb => ?_⟩
    have s1 : Sub W1 (upd H1 b (.lst [])) := same_upd2 g1.wh hb
    have hz : dss.flatten.length ≤ LIM := by rw [List.length_flatten]; exact hl
    refine ⟨a0, b, ps, xss, rfl, .of (s1 _ _ hw), h3, fun i p xs e1 e2 => s1 _ _ (h4 i p xs e1 e2), upd_same, by rw [h5.length]; exact Nat.le_trans hz lim_line, fun hx => ?_, fun p hp => ?_⟩
    · subst hx
      have : dss = [] := List.eq_nil_of_length_eq_zero (by simpa using h6)
      subst this
      exact w.at g1 _ W1 _ (Grow.new0 g1.wh hb) ⟨b, [], rfl, hb, g1.wh.free hb, upd_same, hz, .nil⟩
    · exact (w.at (g1.trans (Grow.new0 g1.wh hb))).fl s1 hp hz h5
theorem snd_rev {a : E} {x : Expr} {k : Nat} {p1 p2 p3 pos : Pos} (ha : SndE g M G sc x a) : SndE g M G sc (.Subscript x (.Slice none none (some (.UnaryOp .USub (.Constant (.int 1) k p1) p2)) p3) pos) (.rev a) := by
  obtain ⟨ta, _, ha, sa, _, na⟩ := ha
  refine .of (t := tRevL g.K ta) (fun X c => by rw [← c.K]; exact pe_revL (ha X c).1) (fun ρ σ W H r Q sm en e w => ?_) rfl rfl
  simp only [evp] at e
  obtain ⟨d, ed, e⟩ := Option.bind_eq_some_iff.mp e
  split at e <;> try (cases e; done)
  rename_i ds hd
  cases e
  refine sp_d sa sm en ed fun v W1 H1 g1 r1 => ?_
  rw [hd] at r1
  cases r1 with | lst hw l rr =>
  exact ⟨_, _, rfl, .of (g1.wh _ _ hw), fun p hp => (w.at g1).fl g1.wh hp (by simpa using l) rr.reverse⟩
end
end KP
/-! KPm: the checker's word is enough. -/
namespace KP
open PySem L2
def sizeS : Es → Nat
  | .nil => 0
  | .cons _ es => sizeS es + 1
section
variable {g : GG} {M : Nm} {G : Cs}
def SndF1 (g : GG) (M : Nm) (G : Cs) (sc : Scope) (c : Eo) : Prop := (∀ o, chkO M c sc o = true → SndO g M G sc o c) ∧ ∀ es, chkF M c sc es = true → SndF g M G sc es c
theorem or_of_tp {M : Nm} {ok : Str → Bool} {tg : Tg} {t : Expr} (h : chkT M ok tg t = true) (h2 : tg.isTp = true) : ∃ es k q, t = .Tuple es k q := by
  cases tg with
  | nm i => simp [Tg.isTp] at h2
  | tp ts =>
    unfold chkT at h
    split at h
    · exact ⟨_, _, _, rfl⟩
    · cases h
def Me.arity : Me → Nat
  | .index => 1 | .count => 1 | .get1 => 1 | .get2 => 2 | .bitlen => 0
theorem me_arity (m : Me) (d : D) (ds : List D) (h : ds.length ≠ m.arity) : meD m d ds = none := by
  cases m <;> simp only [Me.arity] at h <;> simp only [meD]
  · unfold meIndex; split
    · simp at h
    · rfl
  · unfold meCount; split
    · simp at h
    · rfl
  · unfold meGet1; split
    · simp at h
    · simp at h
    · rfl
  · unfold meGet2; split
    · simp at h
    · simp at h
    · rfl
  · unfold meBits; split
    · simp at h
    · rfl
theorem evs_len {G : Cs} {ρ : Sg} : ∀ {es : Es} {ds : List D}, evs G es ρ = some ds → ds.length = (sizeS es)
  | .nil, ds, e => by simp only [evs] at e; cases e; rfl
  | .cons a r, ds, e => by
    simp only [evs] at e
    obtain ⟨x1, _, e⟩ := Option.bind_eq_some_iff.mp e
    obtain ⟨xs1, e1, e⟩ := Option.map_eq_some_iff.mp e
    subst e
    simp [sizeS, evs_len e1]
theorem snd_me (m : Me) {a : E} {es : Es} {sc : Scope} {x : Expr} {ap cp : Pos} {xs : List Expr} (ha : SndE g M G sc x a) (hs : SndS g M G sc xs es) (h1 : (ap.endLine == cp.line) = true) : SndE g M G sc (.Call (.Attribute x m.name ap) xs [] cp) (.me m a es) := by
  have bad : sizeS es ≠ m.arity ∨ xs.length ≠ m.arity → SndE g M G sc (.Call (.Attribute x m.name ap) xs [] cp) (.me m a es) := fun hb =>
    .of (t := fun _ _ _ => False) (fun X c => ⟨fun _ _ _ _ _ _ z => z.elim⟩) (fun ρ σ W H r Q sm en e w => by
      simp only [evp] at e
      obtain ⟨d, _, e⟩ := Option.bind_eq_some_iff.mp e
      obtain ⟨ys, e1, e⟩ := Option.bind_eq_some_iff.mp e
      rw [me_arity m d.d ys (by rcases hb with hb | hb; rw [evs_len e1]; exact hb; rw [hs.len ρ ys e1]; exact hb)] at e
      cases e) rfl rfl
  by_cases h2 : xs.length = m.arity
  case neg => exact bad (.inr h2)
  by_cases h3 : sizeS es = m.arity
  case neg => exact bad (.inl h3)
  cases m with
  | index =>
    obtain ⟨y, rfl⟩ := List.length_eq_one_iff.mp h2
    exact snd_index ha hs h1
  | count =>
    obtain ⟨y, rfl⟩ := List.length_eq_one_iff.mp h2
    exact snd_count ha hs h1
  | get1 =>
    obtain ⟨y, rfl⟩ := List.length_eq_one_iff.mp h2
    cases es with
    | nil => cases h3
    | cons b r =>
      cases r with
      | nil => exact snd_get1 ha (hs.el _ _ _ _ rfl rfl) h1
      | cons _ _ => simp [sizeS, Me.arity] at h3
  | get2 =>
    obtain ⟨y, z, rfl⟩ : ∃ y z, xs = [y, z] := by
      match xs, h2 with
      | [y, z], _ => exact ⟨y, z, rfl⟩
    cases es with
    | nil => cases h3
    | cons b r =>
      cases r with
      | nil => cases h3
      | cons c r =>
        cases r with
        | nil => exact snd_get2 ha (hs.el _ _ _ _ rfl rfl) (hs.el2 _ _ _ _ _ _ rfl rfl) h1
        | cons _ _ => simp [sizeS, Me.arity] at h3
  | bitlen =>
    have : xs = [] := List.eq_nil_of_length_eq_zero h2
    subst this
    exact snd_bitlen ha hs h1
mutual
theorem all_e (F : Facts g M G) : ∀ (ir : E) (sc : Scope) (e : Expr), chkE M ir sc e = true → SndE g M G sc e ir
  | .k c, sc, e, h => snd_k h
  | .v i, sc, e, h => snd_v h
  | .g j, sc, e, h => snd_g F h
  | .b2 o a b, sc, e, h => by
    unfold chkE at h
    split at h <;> try (cases h; done)
    simp only [Bool.and_eq_true, decide_eq_true_eq] at h
    obtain ⟨⟨rfl, h1⟩, h2⟩ := h
    exact snd_b2 (all_e F a sc _ h1) (all_e F b sc _ h2)
  | .neg a, sc, e, h => by
    unfold chkE at h
    split at h <;> try (cases h; done)
    simp only [Bool.and_eq_true, decide_eq_true_eq] at h
    obtain ⟨rfl, h1⟩ := h
    exact snd_neg (all_e F a sc _ h1)
  | .c2 o a b, sc, e, h => by
    unfold chkE at h
    split at h <;> try (cases h; done)
    simp only [Bool.and_eq_true, decide_eq_true_eq] at h
    obtain ⟨⟨rfl, h1⟩, h2⟩ := h
    exact snd_c2 (all_e F a sc _ h1) (all_e F b sc _ h2)
  | .ch o o' a b c, sc, e, h => by
    unfold chkE at h
    split at h <;> try (cases h; done)
    simp only [Bool.and_eq_true, decide_eq_true_eq] at h
    obtain ⟨⟨⟨⟨rfl, rfl⟩, h1⟩, h2⟩, h3⟩ := h
    exact snd_ch (all_e F a sc _ h1) (all_e F b sc _ h2) (all_e F c sc _ h3)
  | .nt a, sc, e, h => by
    unfold chkE at h
    split at h <;> try (cases h; done)
    simp only [Bool.and_eq_true, decide_eq_true_eq] at h
    obtain ⟨rfl, h1⟩ := h
    exact snd_nt (all_e F a sc _ h1)
  | .an es, sc, e, h => by
    unfold chkE at h
    split at h <;> try (cases h; done)
    rename_i op x y xs p
    simp only [Bool.and_eq_true, decide_eq_true_eq] at h
    obtain ⟨rfl, h1⟩ := h
    obtain ⟨t, tt, hp, hs, ht⟩ := (all_s F es sc _ h1).an (by simp) p
    exact ⟨t, tt, fun X c => ⟨(hp X c).1, (hp X c).2.pt⟩, fun ρ σ W H r Q sm en e w => hs ρ σ W H r Q sm en (by simpa only [evp] using e) w, fun ρ σ W H b Q sm en e w => ht ρ σ W H b Q sm en (by
      unfold evb at e
      simp only [evp] at e
      obtain ⟨r, h1, h2⟩ := Option.bind_eq_some_iff.mp e
      obtain ⟨c, h3, rfl⟩ := Option.map_eq_some_iff.mp h1
      cases h2
      exact h3) w, rfl⟩
  | .or es, sc, e, h => by
    unfold chkE at h
    split at h <;> try (cases h; done)
    rename_i op x y xs p
    simp only [Bool.and_eq_true, decide_eq_true_eq] at h
    obtain ⟨rfl, h1⟩ := h
    obtain ⟨t, tt, hp, hs, ht⟩ := (all_s F es sc _ h1).or (by simp) p
    exact ⟨t, tt, fun X c => ⟨(hp X c).1, (hp X c).2.pt⟩, fun ρ σ W H r Q sm en e w => hs ρ σ W H r Q sm en (by simpa only [evp] using e) w, fun ρ σ W H b Q sm en e w => ht ρ σ W H b Q sm en (by
      unfold evb at e
      simp only [evp] at e
      obtain ⟨r, h1, h2⟩ := Option.bind_eq_some_iff.mp e
      obtain ⟨c, h3, rfl⟩ := Option.map_eq_some_iff.mp h1
      cases h2
      exact h3) w, rfl⟩
  | .ife c a b, sc, e, h => by
    unfold chkE at h
    split at h <;> try (cases h; done)
    simp only [Bool.and_eq_true] at h
    exact snd_ife (all_e F c sc _ h.1.1) (all_e F a sc _ h.1.2) (all_e F b sc _ h.2)
  | .tup es, sc, e, h => by
    unfold chkE at h
    split at h <;> try (cases h; done)
    exact snd_tup (all_s F es sc _ h)
  | .lst es, sc, e, h => by
    unfold chkE at h
    split at h <;> try (cases h; done)
    exact snd_lst (all_s F es sc _ h)
  | .ix a b, sc, e, h => by
    unfold chkE at h
    split at h <;> try (cases h; done)
    simp only [Bool.and_eq_true] at h
    exact snd_ix (all_e F a sc _ h.1) (all_e F b sc _ h.2)
  | .sl a lo hi, sc, e, h => by
    unfold chkE at h
    split at h <;> try (cases h; done)
    simp only [Bool.and_eq_true] at h
    exact snd_sl (all_e F a sc _ h.1.1) ((all_o F lo sc).1 _ h.1.2) ((all_o F hi sc).1 _ h.2)
  | .bi f es, sc, e, h => by
    unfold chkE at h
    split at h <;> try (cases h; done)
    simp only [Bool.and_eq_true, decide_eq_true_eq] at h
    obtain ⟨⟨rfl, h1⟩, h2⟩ := h
    exact snd_bi F (all_s F es sc _ h2) h1
  | .isi a t, sc, e, h => by
    unfold chkE at h
    split at h <;> try (cases h; done)
    simp only [Bool.and_eq_true, decide_eq_true_eq] at h
    obtain ⟨⟨⟨⟨rfl, h1⟩, h2⟩, rfl⟩, h3⟩ := h
    exact snd_isi F (all_e F a sc _ h2) h1 h3
  | .isT a t u, sc, e, h => by
    unfold chkE at h
    split at h <;> try (cases h; done)
    simp only [Bool.and_eq_true, decide_eq_true_eq] at h
    obtain ⟨⟨⟨⟨⟨⟨rfl, h1⟩, h2⟩, rfl⟩, h3⟩, rfl⟩, h4⟩ := h
    exact snd_isT F (all_e F a sc _ h2) h1 h3 h4
  | .lenset a, sc, e, h => by
    unfold chkE at h
    split at h <;> try (cases h; done)
    simp only [Bool.and_eq_true, decide_eq_true_eq] at h
    obtain ⟨⟨⟨⟨rfl, h1⟩, rfl⟩, h2⟩, h3⟩ := h
    exact snd_lenset F (all_e F a sc _ h3) h1 h2
  | .ss a, sc, e, h => by
    unfold chkE at h
    split at h <;> try (cases h; done)
    simp only [Bool.and_eq_true, decide_eq_true_eq] at h
    obtain ⟨⟨⟨⟨rfl, h1⟩, rfl⟩, h2⟩, h3⟩ := h
    exact snd_ss F (all_e F a sc _ h3) h1 h2
  | .sk a j, sc, e, h => by
    unfold chkE at h
    split at h <;> try (cases h; done)
    simp only [Bool.and_eq_true, decide_eq_true_eq] at h
    obtain ⟨⟨⟨⟨⟨rfl, h1⟩, rfl⟩, h2⟩, h3⟩, h4⟩ := h
    exact snd_sk F (all_e F a sc _ h4) h1 h2 h3
  | .lr1 a, sc, e, h => by
    unfold chkE at h
    split at h <;> try (cases h; done)
    simp only [Bool.and_eq_true, decide_eq_true_eq] at h
    obtain ⟨⟨⟨⟨rfl, h1⟩, rfl⟩, h2⟩, h3⟩ := h
    exact snd_lr1 F (all_e F a sc _ h3) h1 h2
  | .lr2 a b, sc, e, h => by
    unfold chkE at h
    split at h <;> try (cases h; done)
    simp only [Bool.and_eq_true, decide_eq_true_eq] at h
    obtain ⟨⟨⟨⟨⟨rfl, h1⟩, rfl⟩, h2⟩, h3⟩, h4⟩ := h
    exact snd_lr2 F (all_e F a sc _ h3) (all_e F b sc _ h4) h1 h2
  | .me m a es, sc, e, h => by
    unfold chkE at h
    split at h <;> try (cases h; done)
    simp only [Bool.and_eq_true, decide_eq_true_eq] at h
    obtain ⟨⟨⟨⟨⟨rfl, h1⟩, h2⟩, h3⟩, h4⟩, h5⟩ := h
    rename_i x n ap xs cp
    exact snd_me m (all_e F a sc _ h2) (all_s F es sc _ h4) h1
  | .ca j es, sc, e, h => by
    unfold chkE at h
    split at h <;> try (cases h; done)
    simp only [Bool.and_eq_true, decide_eq_true_eq, Bool.not_eq_true'] at h
    obtain ⟨⟨⟨h1, h2⟩, h3⟩, h4⟩ := h
    exact snd_ca F (all_s F es sc _ h4) h1 h2 h3
  | .ck j es, sc, e, h => by
    unfold chkE at h
    split at h <;> try (cases h; done)
    simp only [Bool.and_eq_true, decide_eq_true_eq, Bool.not_eq_true'] at h
    obtain ⟨⟨⟨⟨h1, h2⟩, h3⟩, h4⟩, h5⟩ := h
    exact snd_ck F (all_s F es sc _ h5) h1 h2 h3 h4
  | .co tg it c a, sc, e, h => by
    unfold chkE at h
    split at h <;> try (cases h; done)
    simp only [Bool.and_eq_true] at h
    obtain ⟨⟨⟨⟨⟨h1, h2⟩, h3⟩, h4⟩, h5⟩, h6⟩ := h
    exact snd_co (all_i F it sc _ _ h1 fun z => or_of_tp h3 (by cases it <;> first | exact h6 | cases z)) h2 h3 ((all_o F c _).2 _ h4) (all_e F a _ _ h5)
  | .rev a, sc, e, h => by
    unfold chkE at h
    split at h <;> try (cases h; done)
    exact snd_rev (all_e F a sc _ h)
  | .cat a, sc, e, h => by
    unfold chkE at h
    split at h <;> try (cases h; done)
    simp only [Bool.and_eq_true, decide_eq_true_eq] at h
    obtain ⟨⟨rfl, h1⟩, h2⟩ := h
    exact snd_cat F (all_e F a sc _ h2) h1
theorem all_s (F : Facts g M G) : ∀ (irs : Es) (sc : Scope) (es : List Expr), chkS M irs sc es = true → SndS g M G sc es irs
  | .nil, sc, [], h => snds_nil
  | .nil, sc, _ :: _, h => by simp [chkS] at h
  | .cons a irs, sc, [], h => by simp [chkS] at h
  | .cons a irs, sc, e :: es, h => by
    simp only [chkS, Bool.and_eq_true] at h
    exact snds_cons (all_e F a sc e h.1) (all_s F irs sc es h.2)
theorem all_o (F : Facts g M G) : ∀ (o : Eo) (sc : Scope), SndF1 g M G sc o
  | .no, sc => ⟨fun o h => by cases o with | none => exact sndo_no | some _ => simp [chkO] at h, fun es h => by cases es with | nil => exact sndf_no | cons _ _ => simp [chkF] at h⟩
  | .so a, sc => ⟨fun o h => by cases o with
      | none => simp [chkO] at h
      | some e => exact sndo_so (all_e F a sc e (by simpa only [chkO] using h)), fun es h => by
      match es, h with
      | [e], h => exact sndf_so (all_e F a sc e (by simpa only [chkF] using h))
      | [], h => simp [chkF] at h
      | _ :: _ :: _, h => simp [chkF] at h⟩
theorem all_i (F : Facts g M G) : ∀ (it : KP.It) (sc : Scope) (tg e : Expr), chkI M it sc e = true → ((match it with | .en _ => true | _ => false) = true → ∃ es k q, tg = .Tuple es k q) → SndI g M G sc tg e it
  | .sq a, sc, tg, e, h, ht => sndi_sq (all_e F a sc e (by simpa only [chkI] using h))
  | .r1 a, sc, tg, e, h, ht => by
    unfold chkI at h
    split at h <;> try (cases h; done)
    simp only [Bool.and_eq_true, decide_eq_true_eq] at h
    exact sndi_r1 F (all_e F a sc _ h.2) h.1.1 h.1.2
  | .r2 a b, sc, tg, e, h, ht => by
    unfold chkI at h
    split at h <;> try (cases h; done)
    simp only [Bool.and_eq_true, decide_eq_true_eq] at h
    exact sndi_r2 F (all_e F a sc _ h.1.2) (all_e F b sc _ h.2) h.1.1.1 h.1.1.2
  | .rd a b, sc, tg, e, h, ht => by
    unfold chkI at h
    split at h <;> try (cases h; done)
    simp only [Bool.and_eq_true, decide_eq_true_eq] at h
    exact sndi_rd F (all_e F a sc _ h.1.1.2) (all_e F b sc _ h.1.2) h.1.1.1.1 h.1.1.1.2 h.2
  | .en a, sc, tg, e, h, ht => by
    unfold chkI at h
    split at h <;> try (cases h; done)
    simp only [Bool.and_eq_true, decide_eq_true_eq] at h
    exact sndi_en F (all_e F a sc _ h.2) h.1.1 h.1.2 (ht rfl)
end
/-- a comprehension, for a statement of its own -/
theorem all_l (F : Facts g M G) (ir : E) (sc : Scope) (elt : Expr) (gs : List Comprehension) (scope : Scope) (pos : Pos) (h : chkE M ir sc (.ListComp elt gs scope pos) = true) :
    ∃ te, (∀ X, Ctx g M sc X → PE X (.ListComp elt gs scope pos) te ∧ PSL X (.ListComp elt gs scope pos) te) ∧ SP g.K te (evp G ir) := by
  cases ir with
  | co tg it c a =>
    unfold chkE at h
    split at h <;> try (cases h; done)
    rename_i heq
    cases heq
    simp only [Bool.and_eq_true] at h
    obtain ⟨⟨⟨⟨⟨h1, h2⟩, h3⟩, h4⟩, h5⟩, h6⟩ := h
    exact snd_coL (all_i F it sc _ _ h1 fun z => or_of_tp h3 (by cases it <;> first | exact h6 | cases z)) h2 h3 ((all_o F c _).2 _ h4) (all_e F a _ _ h5)
  | _ => simp [chkE] at h
end
end KP
/-! KPn: owned values, states, steps. -/
namespace KP
open PySem L2

/-- owned things: shared data, an own list, a tuple of owned things, an own dict -/
inductive O where
  | sh (d : D) | ol (os : List O) | ot (os : List O) | oK (ks : List Key) (vs : List D) | oT (ks : List (List Key)) (vs : List D)
  deriving Inhabited
mutual
def O.d : O → D
  | .sh d => d
  | .ol os => .lst (O.dL os)
  | .ot os => .tup (O.dL os)
  | .oK ks vs => .dK ks vs
  | .oT ks vs => .dT ks vs
def O.dL : List O → List D
  | [] => []
  | o :: os => o.d :: O.dL os
end
theorem O.dL_eq : ∀ os : List O, O.dL os = os.map O.d
  | [] => rfl
  | o :: os => by simp [O.dL, O.dL_eq os]
def R.o : R → O
  | .sh d => .sh d
  | .fl ds => .ol (ds.map O.sh)
  | .fK ks vs => .oK ks vs
  | .fT ks vs => .oT ks vs
mutual
inductive RepO (K : PySem.W.Frag) (W H : Hp) : List Addr → V → O → Prop
  | sh {v : V} {d : D} : Rep K W v d → RepO K W H [] v (.sh d)
  | ol {a : Addr} {F : List Addr} {vs : List V} {os : List O} : H a = some (.lst vs) → os.length ≤ LIM → RepOL K W H F vs os → RepO K W H (a :: F) (.ref a) (.ol os)
  | ot {a : Addr} {F : List Addr} {vs : List V} {os : List O} : W a = some (.tup vs) → RepOL K W H F vs os → RepO K W H F (.ref a) (.ot os)
  | oK {a : Addr} {ks : List Key} {xs : List V} {ds : List D} : H a = some (.dK (ks.zip xs)) → ks.length = xs.length → ks.length ≤ LIM → RepL K W xs ds → RepO K W H [a] (.ref a) (.oK ks ds)
  | oT {a : Addr} {ks : List (List Key)} {xs : List V} {ds : List D} : H a = some (.dT (ks.zip xs)) → ks.length = xs.length → ks.length ≤ LIM → RepL K W xs ds → RepO K W H [a] (.ref a) (.oT ks ds)
inductive RepOL (K : PySem.W.Frag) (W H : Hp) : List Addr → List V → List O → Prop
  | nil : RepOL K W H [] [] []
  | cons {F F' : List Addr} {v : V} {vs : List V} {o : O} {os : List O} : RepO K W H F v o → RepOL K W H F' vs os → RepOL K W H (F ++ F') (v :: vs) (o :: os)
end
section
variable {K : PySem.W.Frag} {W W' H H' : Hp}
mutual
theorem RepO.mono (s : Same W W') : ∀ {F : List Addr} {v : V} {o : O}, RepO K W H F v o → (∀ a ∈ F, ∀ u, H a = some u → H' a = some u) → RepO K W' H' F v o
  | _, _, _, .sh r, _ => .sh (r.mono s)
  | _, _, _, .ol h l r, k => .ol (k _ List.mem_cons_self _ h) l (RepOL.mono s r fun a ha => k a (List.mem_cons_of_mem _ ha))
  | _, _, _, .ot h r, k => .ot (s _ _ h) (RepOL.mono s r k)
  | _, _, _, .oK h e l r, k => .oK (k _ List.mem_cons_self _ h) e l (r.mono s)
  | _, _, _, .oT h e l r, k => .oT (k _ List.mem_cons_self _ h) e l (r.mono s)
theorem RepOL.mono (s : Same W W') : ∀ {F : List Addr} {vs : List V} {os : List O}, RepOL K W H F vs os → (∀ a ∈ F, ∀ u, H a = some u → H' a = some u) → RepOL K W' H' F vs os
  | _, _, _, .nil, _ => .nil
  | _, _, _, .cons h r, k => .cons (RepO.mono s h fun a ha => k a (List.mem_append_left _ ha)) (RepOL.mono s r fun a ha => k a (List.mem_append_right _ ha))
end
def isMut : HO → Bool
  | .lst _ => true
  | .dK _ => true
  | .dT _ => true
  | _ => false
theorem mut_nt {u : HO} (h : isMut u = true) : NTb u := fun xs e => by subst e; cases h
theorem mut_ne {u : HO} (h : isMut u = true) : ∀ φ, u ≠ .ext φ := fun xs e => by subst e; cases h
theorem mut_no {u : HO} (h : isMut u = true) : ∀ xs, u ≠ .tup xs := fun xs e => by subst e; cases h
mutual
theorem RepO.dom : ∀ {F : List Addr} {v : V} {o : O}, RepO K W H F v o → ∀ a ∈ F, ∃ u, H a = some u ∧ isMut u = true
  | _, _, _, .sh r, _, h => by cases h
  | _, _, _, .ol h l r, a, ha => by
    rcases List.mem_cons.mp ha with rfl | ha
    · exact ⟨_, h, rfl⟩
    · exact RepOL.dom r a ha
  | _, _, _, .ot h r, a, ha => RepOL.dom r a ha
  | _, _, _, .oK h e l r, a, ha => by
    rcases List.mem_cons.mp ha with rfl | ha
    · exact ⟨_, h, rfl⟩
    · cases ha
  | _, _, _, .oT h e l r, a, ha => by
    rcases List.mem_cons.mp ha with rfl | ha
    · exact ⟨_, h, rfl⟩
    · cases ha
theorem RepOL.dom : ∀ {F : List Addr} {vs : List V} {os : List O}, RepOL K W H F vs os → ∀ a ∈ F, ∃ u, H a = some u ∧ isMut u = true
  | _, _, _, .nil, _, h => by cases h
  | _, _, _, .cons h r, a, ha => by
    rcases List.mem_append.mp ha with ha | ha
    · exact RepO.dom h a ha
    · exact RepOL.dom r a ha
end
theorem RepOL.length : ∀ {F : List Addr} {vs : List V} {os : List O}, RepOL K W H F vs os → vs.length = os.length
  | _, _, _, .nil => rfl
  | _, _, _, .cons _ r => by simp [RepOL.length r]
/-- the view with the cells of S as they stand in H -/
noncomputable def ovl (W H : Hp) (S : Addr → Prop) : Hp := fun a => open Classical in if S a then H a else W a
theorem ovl_in {S : Addr → Prop} {a : Addr} (h : S a) : ovl W H S a = H a := by unfold ovl; simp [h]
theorem ovl_out {S : Addr → Prop} {a : Addr} (h : ¬ S a) : ovl W H S a = W a := by unfold ovl; simp [h]
theorem ovl_same {S : Addr → Prop} (h : ∀ a, S a → W a = none) : Same W (ovl W H S) := fun a u e => by
  rw [ovl_out (fun z => by rw [h a z] at e; cases e)]; exact e
theorem ovl_sub {S : Addr → Prop} (s : Sub W H) (m : ∀ a, S a → ∃ u, H a = some u ∧ isMut u = true) : Sub (ovl W H S) H := ⟨fun a u e => by
  by_cases q : S a
  · rw [ovl_in q] at e; exact e
  · rw [ovl_out q] at e; exact s _ _ e, fun a u e => by
  by_cases q : S a
  · rw [ovl_in q] at e
    obtain ⟨u', h, hm⟩ := m a q
    rw [h] at e; cases e; exact mut_nt hm
  · rw [ovl_out q] at e; exact s.n _ _ e, s.t⟩
mutual
theorem RepO.frz {S : Addr → Prop} (hS : ∀ a, S a → W a = none) : ∀ {F : List Addr} {v : V} {o : O}, RepO K W H F v o → (∀ a ∈ F, S a) → Rep K (ovl W H S) v o.d
  | _, _, _, .sh r, _ => r.mono (ovl_same hS)
  | _, _, _, .ol h l r, k => .lst (by rw [ovl_in (k _ List.mem_cons_self)]; exact h) (by rw [O.dL_eq, List.length_map]; exact l) (RepOL.frz hS r fun a ha => k a (List.mem_cons_of_mem _ ha))
  | _, _, _, .ot h r, k => .tup (ovl_same hS _ _ h) (RepOL.frz hS r k)
  | _, _, _, .oK h e l r, k => .dK (.inl (by rw [ovl_in (k _ List.mem_cons_self)]; exact h)) e l (r.mono (ovl_same hS))
  | _, _, _, .oT h e l r, k => .dT (.inl (by rw [ovl_in (k _ List.mem_cons_self)]; exact h)) e l (r.mono (ovl_same hS))
theorem RepOL.frz {S : Addr → Prop} (hS : ∀ a, S a → W a = none) : ∀ {F : List Addr} {vs : List V} {os : List O}, RepOL K W H F vs os → (∀ a ∈ F, S a) → RepL K (ovl W H S) vs (O.dL os)
  | _, _, _, .nil, _ => .nil
  | _, _, _, .cons h r, k => .cons (RepO.frz hS h fun a ha => k a (List.mem_append_left _ ha)) (RepOL.frz hS r fun a ha => k a (List.mem_append_right _ ha))
end
theorem RepL.o : ∀ {vs : List V} {ds : List D}, RepL K W vs ds → RepOL K W H [] vs (ds.map O.sh)
  | _, _, .nil => .nil
  | _, _, .cons h r => .cons (F := []) (F' := []) (.sh h) (RepL.o r)
theorem RepOL.append : ∀ {F F' : List Addr} {vs us : List V} {os ps : List O}, RepOL K W H F vs os → RepOL K W H F' us ps → RepOL K W H (F ++ F') (vs ++ us) (os ++ ps)
  | _, _, _, _, _, _, .nil, s => s
  | _, _, _, _, _, _, .cons h r, s => by
    rw [List.append_assoc]
    exact .cons h (RepOL.append r s)

/-! ### flat data lives without the mutable cells -/
mutual
def D.fl : D → Bool
  | .non => true
  | .bl _ => true
  | .int _ => true
  | .str _ => true
  | .tup ds => D.flL ds
  | .ty _ => true
  | _ => false
def D.flL : List D → Bool
  | [] => true
  | d :: ds => D.fl d && D.flL ds
end
mutual
theorem Rep.less {W1 : Hp} {S : Addr → Prop} (hS : ∀ a u, S a → W1 a = some u → isMut u = true) (hW : ∀ a u, ¬ S a → W1 a = some u → W a = some u) : ∀ {v : V} {d : D}, Rep K W1 v d → d.fl = true → Rep K W v d
  | _, _, .non, _ => .non
  | _, _, .bl b, _ => .bl b
  | _, _, .int i, _ => .int i
  | _, _, .str x h, _ => .str x h
  | _, _, .lst .., e => by simp [D.fl] at e
  | _, _, .tup h r, e => .tup (hW _ _ (fun z => by have := hS _ _ z h; cases this) h) (RepL.less hS hW r (by simpa [D.fl] using e))
  | _, _, .kt .., e => by simp [D.fl] at e
  | _, _, .scr .., e => by simp [D.fl] at e
  | _, _, .dK .., e => by simp [D.fl] at e
  | _, _, .dT .., e => by simp [D.fl] at e
  | _, _, .ty n, _ => .ty n
theorem RepL.less {W1 : Hp} {S : Addr → Prop} (hS : ∀ a u, S a → W1 a = some u → isMut u = true) (hW : ∀ a u, ¬ S a → W1 a = some u → W a = some u) : ∀ {vs : List V} {ds : List D}, RepL K W1 vs ds → D.flL ds = true → RepL K W vs ds
  | _, _, .nil, _ => .nil
  | _, _, .cons (d := d) (ds := ds) h r, e => by
    have e' : D.fl d = true ∧ D.flL ds = true := by simpa [D.flL] using e
    exact .cons (Rep.less hS hW h e'.1) (RepL.less hS hW r e'.2)
end
end

/-! ### states -/
abbrev So := List (Option O)
structure InvO (K : PySem.W.Frag) (W H : Hp) (ρ : So) (σ : L2.St) (φ : Nat → List Addr) : Prop where
  len : ρ.length = σ.length
  rep : ∀ (i : Nat) (o : O), ρ[i]? = some (some o) → ∃ v, σ[i]? = some (some v) ∧ RepO K W H (φ i) v o
  emp : ∀ (i : Nat), (∀ o, ρ[i]? ≠ some (some o)) → φ i = []
  dis : ∀ i a, a ∈ φ i → W a = none
  sep : ∀ i j a, a ∈ φ i → a ∈ φ j → i = j
  nd : ∀ i, (φ i).Nodup
  sm : Sub W H
def Fp (φ : Nat → List Addr) : Addr → Prop := fun a => ∃ i, a ∈ φ i
/-- what a stretch may do: F the own cells ahead, F' those behind -/
structure Stp (W H : Hp) (F : Addr → Prop) (W' H' : Hp) (F' : Addr → Prop) : Prop where
  sW : Same W W'
  pr : ∀ a u, H a = some u → ¬ F a → NTb u → H' a = some u
  nf : ∀ a, F' a → F a ∨ H a = none
  nw : ∀ a u, W' a = some u → W a = some u ∨ F a ∨ Fr H a
  tt : ∀ a ps, H a = some (.tbl ps) → F a ∨ ∃ ps', H' a = some (.tbl ps')
  t : LamX.Tabs tbT H → LamX.Tabs tbT H'
section
variable {W H W1 H1 W2 H2 : Hp} {F F1 F2 T1 : Addr → Prop}
theorem tt_upd {a : Addr} {u o : HO} (h : H a = some u) (n : NTb u := by first | assumption | (intro _ e; cases e; done)) : ∀ b ps, H b = some (.tbl ps) → F b ∨ ∃ ps', upd H a o b = some (.tbl ps') := fun b ps e => .inr ⟨ps, by
  rw [upd_ne fun z => by rw [z, h] at e; cases e; exact n ps rfl]; exact e⟩
theorem t_upd {a : Addr} {u o : HO} (h : H a = some u) (n1 : NTb u := by first | assumption | (intro _ e; cases e; done)) (n2 : ∀ φ, u ≠ .ext φ := by first | assumption | (intro _ e; cases e; done)) : LamX.Tabs tbT H → LamX.Tabs tbT (upd H a o) := fun t => tabs_upd t h n1 n2
theorem Stp.refl : Stp W H F W H F := ⟨Same.refl _, fun _ _ e _ _ => e, fun _ h => .inl h, fun _ _ e => .inl e, fun _ ps e => .inr ⟨ps, e⟩, id⟩
theorem Stp.key (x : Stp W H F W1 H1 F1) {a : Addr} (h : H1 a = none) : F a ∨ H a = none := by
  by_cases q : F a
  · exact .inl q
  · cases e : H a with
    | none => exact .inr rfl
    | some u =>
      by_cases z : ∃ ps, u = .tbl ps
      · obtain ⟨ps, rfl⟩ := z
        rcases x.tt _ _ e with z | ⟨ps', z⟩
        · exact .inl z
        · rw [h] at z; cases z
      · rw [x.pr a u e q fun ps w => z ⟨ps, w⟩] at h; cases h
theorem Stp.key2 (x : Stp W H F W1 H1 F1) {a : Addr} (h : Fr H1 a) : F a ∨ Fr H a := by
  rcases h with h | ⟨xs, h⟩
  · exact (x.key h).imp id .inl
  · by_cases q : F a
    · exact .inl q
    · cases e : H a with
      | none => exact .inr (.inl e)
      | some u =>
        by_cases z : ∃ ps, u = .tbl ps
        · obtain ⟨ps, rfl⟩ := z
          rcases x.tt _ _ e with z | ⟨ps', z⟩
          · exact .inl z
          · rw [h] at z; cases z
        · rw [x.pr a u e q fun ps w => z ⟨ps, w⟩] at h; cases h; exact .inr (.inr ⟨xs, e⟩)
theorem Stp.trans (x : Stp W H F W1 H1 F1) (y : Stp W1 H1 F1 W2 H2 F2) : Stp W H F W2 H2 F2 := by
  refine ⟨x.sW.trans y.sW, fun a u e n q => y.pr a u (x.pr a u e n q) (fun z => ?_) q, fun a z => ?_, fun a u e => ?_, fun a ps e => ?_, fun t => y.t (x.t t)⟩
  · rcases x.nf a z with q | q
    · exact n q
    · rw [e] at q; cases q
  · rcases y.nf a z with q | q
    · exact x.nf a q
    · exact x.key q
  · rcases y.nw a u e with q | q | q
    · exact x.nw a u q
    · exact .inr ((x.nf a q).imp id .inl)
    · exact .inr (x.key2 q)
  · rcases x.tt _ _ e with z | ⟨ps', z⟩
    · exact .inl z
    · rcases y.tt _ _ z with q | q
      · rcases x.nf a q with q | q
        · exact .inl q
        · rw [e] at q; cases q
      · exact .inr q
theorem Stp.weak {F' : Addr → Prop} (x : Stp W H F W1 H1 F1) (h : ∀ a, F' a → F1 a) : Stp W H F W1 H1 F' := ⟨x.sW, x.pr, fun a z => x.nf a (h a z), x.nw, x.tt, x.t⟩
/-- a stretch behind which T1 is held, then another that does not touch T1 -/
theorem Stp.trans2 (x : Stp W H F W1 H1 (fun a => F1 a ∨ T1 a)) (y : Stp W1 H1 F1 W2 H2 F2) : Stp W H F W2 H2 (fun a => F2 a ∨ T1 a) := by
  have y' : Stp W1 H1 (fun a => F1 a ∨ T1 a) W2 H2 (fun a => F2 a ∨ T1 a) := ⟨y.sW, fun a u e n => y.pr a u e (fun z => n (.inl z)), fun a z => by
    rcases z with z | z
    · rcases y.nf a z with q | q
      · exact .inl (.inl q)
      · exact .inr q
    · exact .inl (.inr z), fun a u e => by
    rcases y.nw a u e with q | q | q
    · exact .inl q
    · exact .inr (.inl (.inl q))
    · exact .inr (.inr q), fun a ps e => (y.tt a ps e).imp .inl id, y.t⟩
  exact x.trans y'
end
/-- a result's own cells -/
structure ResO (K : PySem.W.Frag) (W H : Hp) (F : Addr → Prop) (T : List Addr) (v : V) (o : O) : Prop where
  rep : RepO K W H T v o
  nd : T.Nodup
  dis : ∀ a ∈ T, W a = none
  sep : ∀ a ∈ T, ¬ F a
structure ResOL (K : PySem.W.Frag) (W H : Hp) (F : Addr → Prop) (T : List Addr) (vs : List V) (os : List O) : Prop where
  rep : RepOL K W H T vs os
  nd : T.Nodup
  dis : ∀ a ∈ T, W a = none
  sep : ∀ a ∈ T, ¬ F a
section
variable {K : PySem.W.Frag} {W H W1 H1 W2 H2 : Hp} {F F1 F2 : Addr → Prop} {T : List Addr} {v : V} {o : O}
/-- a result that is held through another stretch -/
theorem ResO.held (r : ResO K W1 H1 F1 T v o) (y : Stp W1 H1 F1 W2 H2 F2) : ResO K W2 H2 F2 T v o := by
  have there := fun a ha => RepO.dom r.rep a ha
  refine ⟨r.rep.mono y.sW fun a ha u e => y.pr a u e (r.sep a ha) (by obtain ⟨u', h', hm'⟩ := there a ha; rw [e] at h'; cases h'; exact mut_nt hm'), r.nd, fun a ha => ?_, fun a ha z => ?_⟩
  · cases e : W2 a with
    | none => rfl
    | some u =>
      obtain ⟨u', h', hm'⟩ := there a ha
      rcases y.nw a u e with q | q | q
      · rw [r.dis a ha] at q; cases q
      · exact absurd q (r.sep a ha)
      · exact (q.no h' (mut_no hm')).elim
  · obtain ⟨u', h', _⟩ := there a ha
    rcases y.nf a z with q | q
    · exact r.sep a ha q
    · rw [h'] at q; cases q
theorem ResOL.held {vs : List V} {os : List O} (r : ResOL K W1 H1 F1 T vs os) (y : Stp W1 H1 F1 W2 H2 F2) : ResOL K W2 H2 F2 T vs os := by
  have there := fun a ha => RepOL.dom r.rep a ha
  refine ⟨r.rep.mono y.sW fun a ha u e => y.pr a u e (r.sep a ha) (by obtain ⟨u', h', hm'⟩ := there a ha; rw [e] at h'; cases h'; exact mut_nt hm'), r.nd, fun a ha => ?_, fun a ha z => ?_⟩
  · cases e : W2 a with
    | none => rfl
    | some u =>
      obtain ⟨u', h', hm'⟩ := there a ha
      rcases y.nw a u e with q | q | q
      · rw [r.dis a ha] at q; cases q
      · exact absurd q (r.sep a ha)
      · exact (q.no h' (mut_no hm')).elim
  · obtain ⟨u', h', _⟩ := there a ha
    rcases y.nf a z with q | q
    · exact r.sep a ha q
    · rw [h'] at q; cases q
/-- the state under a growth that touches nothing of it -/
theorem InvO.grow {ρ : So} {σ : L2.St} {φ : Nat → List Addr} (i : InvO K W H ρ σ φ) (g : Grow W H W1 H1) : InvO K W1 H1 ρ σ φ := by
  refine ⟨i.len, fun k o e => ?_, i.emp, fun k a ha => ?_, i.sep, i.nd, g.wh⟩
  · obtain ⟨v, h1, h2⟩ := i.rep k o e
    exact ⟨v, h1, h2.mono g.sW fun a ha u e => g.sH.k a u e (by obtain ⟨u', h', hm'⟩ := h2.dom a ha; rw [e] at h'; cases h'; exact mut_nt hm')⟩
  · cases e : W1 a with
    | none => rfl
    | some u =>
      rcases g.nw a u e with q | q
      · rw [i.dis k a ha] at q; cases q
      · have : ∃ o, ρ[k]? = some (some o) := by
          apply Classical.byContradiction
          intro z
          rw [i.emp k fun o e => z ⟨o, e⟩] at ha
          cases ha
        obtain ⟨o, ho⟩ := this
        obtain ⟨v, _, h2⟩ := i.rep k o ho
        obtain ⟨u', h', hm'⟩ := h2.dom a ha
        exact (q.no h' (mut_no hm')).elim
theorem Grow.stp (g : Grow W H W1 H1) : Stp W H F W1 H1 F := ⟨g.sW, fun a u e _ => g.sH.k a u e, fun _ h => .inl h, fun a u e => by
  rcases g.nw a u e with q | q
  · exact .inl q
  · exact .inr (.inr q), fun a ps e => .inr (g.sH.tt a ps e), g.sH.t⟩
/-- a pure result as an owned one -/
theorem RepR.res {r : R} {ρ : So} {σ : L2.St} {φ : Nat → List Addr} (i : InvO K W H ρ σ φ) (g : Grow W H W1 H1) (h : RepR K W1 H H1 v r) : ∃ T, Stp W H (Fp φ) W1 H1 (fun a => Fp φ a ∨ a ∈ T) ∧ InvO K W1 H1 ρ σ φ ∧ ResO K W1 H1 (Fp φ) T v r.o := by
  have i1 := i.grow g
  have own : ∀ a, H a = none → ¬ Fp φ a := fun a n ⟨k, hk⟩ => by
    have : ∃ o, ρ[k]? = some (some o) := by
      apply Classical.byContradiction
      intro z
      rw [i.emp k fun o e => z ⟨o, e⟩] at hk
      cases hk
    obtain ⟨o, ho⟩ := this
    obtain ⟨v, _, h2⟩ := i.rep k o ho
    obtain ⟨u', h', _⟩ := h2.dom a hk
    rw [n] at h'; cases h'
  have stp : ∀ T : List Addr, (∀ a ∈ T, H a = none) → Stp W H (Fp φ) W1 H1 (fun a => Fp φ a ∨ a ∈ T) := fun T hT => ⟨g.sW, fun a u e _ => g.sH.k a u e, fun a z => by
    rcases z with z | z
    · exact .inl z
    · exact .inr (hT a z), fun a u e => by
    rcases g.nw a u e with q | q
    · exact .inl q
    · exact .inr (.inr q), fun a ps e => .inr (g.sH.tt a ps e), g.sH.t⟩
  cases r with
  | sh d => exact ⟨[], stp [] (by simp), i1, ⟨.sh h, List.nodup_nil, by simp, by simp⟩⟩
  | fl ds =>
    obtain ⟨a, vs, rfl, n, w, e, l, q⟩ := h
    refine ⟨[a], stp [a] (by simpa using n), i1, ⟨.ol e (by simpa using l) q.o, by simp, by simpa using w, by simpa using own a n⟩⟩
  | fK ks ds =>
    obtain ⟨a, xs, rfl, n, w, e, l1, l, q⟩ := h
    refine ⟨[a], stp [a] (by simpa using n), i1, ⟨.oK e l1 l q, by simp, by simpa using w, by simpa using own a n⟩⟩
  | fT ks ds =>
    obtain ⟨a, xs, rfl, n, w, e, l1, l, q⟩ := h
    refine ⟨[a], stp [a] (by simpa using n), i1, ⟨.oT e l1 l q, by simp, by simpa using w, by simpa using own a n⟩⟩
theorem InvO.own {ρ : So} {σ : L2.St} {φ : Nat → List Addr} (i : InvO K W H ρ σ φ) {a : Addr} (h : Fp φ a) : ∃ u, H a = some u ∧ isMut u = true := by
  obtain ⟨k, hk⟩ := h
  have : ∃ o, ρ[k]? = some (some o) := by
    apply Classical.byContradiction
    intro z
    rw [i.emp k fun o e => z ⟨o, e⟩] at hk
    cases hk
  obtain ⟨o, ho⟩ := this
  obtain ⟨v, _, h2⟩ := i.rep k o ho
  exact h2.dom a hk
/-- a result's cells go into the view -/
theorem ResO.freeze {ρ : So} {σ : L2.St} {φ : Nat → List Addr} (i : InvO K W H ρ σ φ) (r : ResO K W H (Fp φ) T v o) : ∃ W2, Stp W H (fun a => Fp φ a ∨ a ∈ T) W2 H (Fp φ) ∧ InvO K W2 H ρ σ φ ∧ Rep K W2 v o.d := by
  have hS : ∀ a, a ∈ T → W a = none := r.dis
  refine ⟨ovl W H (· ∈ T), ⟨ovl_same hS, fun a u e _ _ => e, fun a z => .inl (.inl z), fun a u e => ?_, fun a ps e => .inr ⟨ps, e⟩, id⟩, ⟨i.len, fun k o e => ?_, i.emp, fun k a ha => ?_, i.sep, i.nd, ovl_sub i.sm r.rep.dom⟩, r.rep.frz hS fun a ha => ha⟩
  · by_cases q : a ∈ T
    · exact .inr (.inl (.inr q))
    · rw [ovl_out q] at e; exact .inl e
  · obtain ⟨v, h1, h2⟩ := i.rep k o e
    exact ⟨v, h1, h2.mono (ovl_same hS) fun a _ u e => e⟩
  · rw [ovl_out fun z => r.sep a z ⟨k, ha⟩]; exact i.dis k a ha
theorem ResOL.freeze {ρ : So} {σ : L2.St} {φ : Nat → List Addr} {vs : List V} {os : List O} (i : InvO K W H ρ σ φ) (r : ResOL K W H (Fp φ) T vs os) : ∃ W2, Stp W H (fun a => Fp φ a ∨ a ∈ T) W2 H (Fp φ) ∧ InvO K W2 H ρ σ φ ∧ RepL K W2 vs (O.dL os) := by
  have hS : ∀ a, a ∈ T → W a = none := r.dis
  refine ⟨ovl W H (· ∈ T), ⟨ovl_same hS, fun a u e _ _ => e, fun a z => .inl (.inl z), fun a u e => ?_, fun a ps e => .inr ⟨ps, e⟩, id⟩, ⟨i.len, fun k o e => ?_, i.emp, fun k a ha => ?_, i.sep, i.nd, ovl_sub i.sm r.rep.dom⟩, r.rep.frz hS fun a ha => ha⟩
  · by_cases q : a ∈ T
    · exact .inr (.inl (.inr q))
    · rw [ovl_out q] at e; exact .inl e
  · obtain ⟨v, h1, h2⟩ := i.rep k o e
    exact ⟨v, h1, h2.mono (ovl_same hS) fun a _ u e => e⟩
  · rw [ovl_out fun z => r.sep a z ⟨k, ha⟩]; exact i.dis k a ha
end
end KP
/-! KPo: expressions that may change own things: form, evaluator, checker. -/
namespace KP
open PySem L2

mutual
/-- what an owned thing is as shared data, if it owns no cell -/
def O.pu : O → Option D
  | .sh d => some d
  | .ot os => (O.puL os).map D.tup
  | _ => none
def O.puL : List O → Option (List D)
  | [] => some []
  | o :: os => o.pu.bind fun d => (O.puL os).map (d :: ·)
end
def shS (o : Option O) : Option D := o.bind O.pu
def alS (o : Option O) : Option D := o.map O.d
def ShR (ρ : So) : Sg := ρ.map shS
def AlR (ρ : So) : Sg := ρ.map alS
def R.flat : R → Bool
  | .sh d => d.fl
  | .fl ds => D.flL ds
  | .fK _ vs => D.flL vs
  | .fT _ vs => D.flL vs
/-- a def: own arguments first, then data; the result, the own arguments behind it -/
abbrev Fn := List O → List D → Option (O × List O)
mutual
inductive X where
  | p (e : E) | q (e : E) | z (is : List Nat) (x : X) | mv (i : Nat) | dnK | dnT
  | tup (xs : Xs) | lst (xs : Xs)
  | io (j : Nat) (is : List Nat) (xs : Xs)
  | pop (i : Nat) (x : X) | pop0 (i : Nat)
  | ixo (x : X) (k : Nat) | ixv (i : Nat) (y : X) | ix (x y : X) | sl (x : X) (lo hi : Xo)
  | b2 (o : O2) (x y : X) | c2 (o : C2) (x y : X) | nt (x : X) | an (xs : Xs) | or (xs : Xs) | ife (c x y : X)
  | bi (f : Bi) (xs : Xs)
  | co (tg : Tg) (it : Xt) (c : Xo) (x : X)
inductive Xs where
  | nil | cons (x : X) (xs : Xs)
inductive Xo where
  | no | so (x : X)
inductive Xt where
  | sq (x : X) | r1 (x : X) | r2 (x y : X) | en (x : X)
end
structure Cy where
  G : Cs
  fx : List Fn
def frz1 (ρ : So) (i : Nat) : So := match ρ[i]? with
  | some (some o) => ρ.set i (some (.sh o.d))
  | _ => ρ
def frzS (is : List Nat) (ρ : So) : So := is.foldl frz1 ρ
def getAll (ρ : So) : List Nat → Option (List O)
  | [] => some []
  | i :: is => match ρ[i]? with
    | some (some o) => (getAll ρ is).map (o :: ·)
    | _ => none
def setAll (ρ : So) : List Nat → List O → So
  | i :: is, o :: os => setAll (ρ.set i (some o)) is os
  | _, _ => ρ
mutual
def bindO : Tg → O → So → Option So
  | .nm i, o, ρ => some (ρ.set i (some o))
  | .tp ts, .ot os, ρ => bindOs ts os ρ
  | .tp ts, .ol os, ρ => bindOs ts os ρ
  | .tp ts, .sh (.tup ds), ρ => bindOs ts (ds.map O.sh) ρ
  | .tp ts, .sh (.lst ds), ρ => bindOs ts (ds.map O.sh) ρ
  | .tp _, _, _ => none
def bindOs : Tgs → List O → So → Option So
  | .nil, [], ρ => some ρ
  | .cons t ts, o :: os, ρ => (bindO t o ρ).bind fun ρ' => bindOs ts os ρ'
  | _, _, _ => none
end
/-- the comprehension's own names are forgotten -/
def unS (is : List Nat) (ρ : So) : So := is.foldl (fun r i => r.set i none) ρ
/-- behind a comprehension: shared things of its names come back -/
def backS (is : List Nat) (ρ0 ρ : So) : So := is.foldl (fun (r : So) (i : Nat) => match ρ0[i]? with
  | some (some (O.sh d)) => r.set i (some (O.sh d))
  | _ => r.set i none) ρ
def asBO : O → Option Bool
  | .sh (.bl b) => some b
  | _ => none
def at2 (x : Option (O × So)) : Option (Bool × So) := x.bind fun p => (asBO p.1).map fun b => (b, p.2)
/-- the items of what is walked -/
def itemsD : D → Option (List D)
  | .lst ds => some ds
  | .tup ds => if ds.length ≤ LIM then some ds else none
  | .scr ns => some (ns.map D.int)
  | _ => none
def compX (c : D → So → Option (Bool × So)) (f : D → So → Option (O × So)) (w : So → So) : List D → So → Option (List O × So)
  | [], ρ => some ([], ρ)
  | d :: ds, ρ => (c d ρ).bind fun p => if p.1 then (f d p.2).bind fun q => (compX c f w ds (w q.2)).map fun r => (q.1 :: r.1, r.2) else compX c f w ds (w p.2)
mutual
def evX (G : Cy) : X → So → Option (O × So)
  | .p e, ρ => (evp G.G e (ShR ρ)).map fun r => (r.o, ρ)
  | .q e, ρ => (evp G.G e (AlR ρ)).bind fun r => if r.flat then some (r.o, ρ) else none
  | .z is x, ρ => evX G x (frzS is ρ)
  | .mv i, ρ => match ρ[i]? with
    | some (some o) => some (o, ρ.set i none)
    | _ => none
  | .dnK, ρ => some (.oK [] [], ρ)
  | .dnT, ρ => some (.oT [] [], ρ)
  | .tup xs, ρ => (evXs G xs ρ).bind fun p => if p.1.length ≤ LIM then some (.ot p.1, p.2) else none
  | .lst xs, ρ => (evXs G xs ρ).bind fun p => if p.1.length ≤ LIM then some (.ol p.1, p.2) else none
  | .io j is xs, ρ => (getAll ρ is).bind fun _ => (evXs G xs ρ).bind fun p => (getAll p.2 is).bind fun ios => match G.fx[j]? with
    | some f => (f ios (O.dL p.1)).bind fun q => if q.2.length = is.length then some (q.1, setAll (unS is p.2) is q.2) else none
    | none => none
  | .pop i x, ρ => match ρ[i]? with
    | some (some (.ol _)) => (evX G x ρ).bind fun p => match p.1.d, p.2[i]? with
      | .int k, some (some (.ol os)) => (ixN os.length k).bind fun j => os[j]?.map fun o => (o, p.2.set i (some (.ol (os.eraseIdx j))))
      | _, _ => none
    | _ => none
  | .pop0 i, ρ => match ρ[i]? with
    | some (some (.ol os)) => os[os.length - 1]?.map fun o => (o, ρ.set i (some (.ol os.dropLast)))
    | _ => none
  | .ixo x k, ρ => (evX G x ρ).bind fun p => match p.1 with
    | .ot os => os[k]?.map fun o => (o, p.2)
    | .ol os => os[k]?.map fun o => (o, p.2)
    | .sh d => (ixD d (.int k)).map fun d => (.sh d, p.2)
    | _ => none
  | .ixv i y, ρ => match ρ[i]? with
    | some (some _) => (evX G y ρ).bind fun p => match p.2[i]? with
      | some (some o) => (ixD o.d p.1.d).bind fun d => if d.fl then some (.sh d, p.2) else none
      | _ => none
    | _ => none
  | .ix x y, ρ => (evX G x ρ).bind fun p => (evX G y p.2).bind fun q => (ixD p.1.d q.1.d).map fun d => (.sh d, q.2)
  | .sl x lo hi, ρ => (evX G x ρ).bind fun p => (evXo G lo p.2).bind fun l => (evXo G hi l.2).bind fun h => (slD p.1.d l.1 h.1).map fun r => (r.o, h.2)
  | .b2 o x y, ρ => (evX G x ρ).bind fun p => (evX G y p.2).bind fun q => (o2D o p.1.d q.1.d).map fun r => (r.o, q.2)
  | .c2 o x y, ρ => (evX G x ρ).bind fun p => (evX G y p.2).bind fun q => (c2D o p.1.d q.1.d).map fun r => (.sh (.bl r), q.2)
  | .nt x, ρ => (at2 (evX G x ρ)).map fun p => (.sh (.bl (!p.1)), p.2)
  | .an xs, ρ => (evXan G xs ρ).map fun p => (.sh (.bl p.1), p.2)
  | .or xs, ρ => (evXor G xs ρ).map fun p => (.sh (.bl p.1), p.2)
  | .ife c x y, ρ => (at2 (evX G c ρ)).bind fun p => if p.1 then evX G x p.2 else evX G y p.2
  | .bi f xs, ρ => (evXs G xs ρ).bind fun p => (biD f (O.dL p.1)).map fun r => (r.o, p.2)
  | .co tg it c x, ρ => (evXt G it ρ).bind fun p =>
      (compX (fun d ρ' => (bindO tg (.sh d) ρ').bind fun ρ'' => evXc G c ρ'') (fun d ρ' => evX G x ρ') (unS tg.ids) p.1 (unS tg.ids p.2)).bind fun q =>
        if q.1.length ≤ LIM then some (.ol q.1, backS tg.ids p.2 q.2) else none
def evXs (G : Cy) : Xs → So → Option (List O × So)
  | .nil, ρ => some ([], ρ)
  | .cons x xs, ρ => (evX G x ρ).bind fun p => (evXs G xs p.2).map fun q => (p.1 :: q.1, q.2)
def evXan (G : Cy) : Xs → So → Option (Bool × So)
  | .nil, ρ => some (true, ρ)
  | .cons x xs, ρ => (at2 (evX G x ρ)).bind fun p => if p.1 then evXan G xs p.2 else some (false, p.2)
def evXor (G : Cy) : Xs → So → Option (Bool × So)
  | .nil, ρ => some (false, ρ)
  | .cons x xs, ρ => (at2 (evX G x ρ)).bind fun p => if p.1 then some (true, p.2) else evXor G xs p.2
def evXo (G : Cy) : Xo → So → Option (Option Int × So)
  | .no, ρ => some (none, ρ)
  | .so x, ρ => (evX G x ρ).bind fun p => match p.1.d with
    | .int i => some (some i, p.2)
    | _ => none
def evXc (G : Cy) : Xo → So → Option (Bool × So)
  | .no, ρ => some (true, ρ)
  | .so x, ρ => at2 (evX G x ρ)
def evXt (G : Cy) : Xt → So → Option (List D × So)
  | .sq x, ρ => (evX G x ρ).bind fun p => (itemsD p.1.d).map fun ds => (ds, p.2)
  | .r1 x, ρ => (evX G x ρ).bind fun p => match p.1.d with
    | .int i => if smallI i then some (rangeD 0 i, p.2) else none
    | _ => none
  | .r2 x y, ρ => (evX G x ρ).bind fun p => (evX G y p.2).bind fun q => match p.1.d, q.1.d with
    | .int i, .int j => if smallI i && smallI j && decide ((j - i).toNat ≤ LIM) then some (rangeD i j, q.2) else none
    | _, _ => none
  | .en x, ρ => (evX G x ρ).bind fun p => match p.1.d with
    | .lst ds => some (enumD 0 ds, p.2)
    | .tup ds => if ds.length ≤ LIM then some (enumD 0 ds, p.2) else none
    | _ => none
end

/-! ### the checker -/
structure Nx where
  m : Nm
  p : Nat
  fx : List (Str × Nat × Nat)
/-- the slots below this bear own arguments: they are never stored to -/
def namesOk (M : Nm) (sc : Scope) : List Nat → List Expr → Option (List Expr)
  | [], es => some es
  | i :: is, .Name x _ :: es => if decide (M.N[i]? = some x) && visB sc x && !(x == ("__debug__" : Str)) && !(x == ("__classdict__" : Str)) then namesOk M sc is es else none
  | _, _ => none
def enumOkX : Xt → Tg → Bool
  | .en _, t => t.isTp
  | _, _ => true
mutual
def chkX (M : Nx) : X → Scope → Expr → Bool
  | .p a, sc, e => chkE M.m a sc e
  | .q a, sc, e => chkE M.m a sc e
  | .z _ x, sc, e => chkX M x sc e
  | .mv i, sc, e => match e with
    | .Name x _ => decide (M.m.N[i]? = some x) && visB sc x && !(x == ("__debug__" : Str)) && !(x == ("__classdict__" : Str))
    | _ => false
  | .dnK, sc, e => match e with
    | .Dict [] [] _ => true
    | _ => false
  | .dnT, sc, e => match e with
    | .Dict [] [] _ => true
    | _ => false
  | .tup es, sc, e => match e with
    | .Tuple xs _ _ => chkXs M es sc xs
    | _ => false
  | .lst es, sc, e => match e with
    | .List xs _ => chkXs M es sc xs
    | _ => false
  | .io j is es, sc, e => match e with
    | .Call (.Name n _) (x :: xs) [] _ => glB sc n && !(n == ("__debug__" : Str)) && decide (is.Nodup) && match namesOk M.m sc is (x :: xs) with
      | some r => chkXs M es sc r && decide (M.fx[j]? = some (n, is.length, r.length))
      | none => false
    | _ => false
  | .pop i y, sc, e => match e with
    | .Call (.Attribute (.Name x _) n ap) [a] [] cp => decide (n = "pop") && (ap.endLine == cp.line) && decide (M.m.N[i]? = some x) && visB sc x && !(x == ("__debug__" : Str)) && !(x == ("__classdict__" : Str)) && chkX M y sc a
    | _ => false
  | .pop0 i, sc, e => match e with
    | .Call (.Attribute (.Name x _) n ap) [] [] cp => decide (n = "pop") && (ap.endLine == cp.line) && decide (M.m.N[i]? = some x) && visB sc x && !(x == ("__debug__" : Str)) && !(x == ("__classdict__" : Str))
    | _ => false
  | .ixo x k, sc, e => match e with
    | .Subscript a (.Constant (.int i) _ _) _ => decide (i = (k : Int)) && chkX M x sc a
    | _ => false
  | .ixv i y, sc, e => match e with
    | .Subscript (.Name x _) b _ => decide (M.m.N[i]? = some x) && visB sc x && !(x == ("__debug__" : Str)) && !(x == ("__classdict__" : Str)) && chkX M y sc b
    | _ => false
  | .ix x y, sc, e => match e with
    | .Subscript a b _ => chkX M x sc a && chkX M y sc b
    | _ => false
  | .sl x lo hi, sc, e => match e with
    | .Subscript a (.Slice l h none _) _ => chkX M x sc a && chkXo M lo sc l && chkXo M hi sc h
    | _ => false
  | .b2 o x y, sc, e => match e with
    | .BinOp l op r _ => decide (op = o.op) && chkX M x sc l && chkX M y sc r
    | _ => false
  | .c2 o x y, sc, e => match e with
    | .Compare l [op] [r] _ => decide (op = o.op) && chkX M x sc l && chkX M y sc r
    | _ => false
  | .nt x, sc, e => match e with
    | .UnaryOp op a _ => decide (op = .Not) && chkX M x sc a
    | _ => false
  | .an es, sc, e => match e with
    | .BoolOp op (x :: y :: xs) _ => decide (op = .And) && chkXs M es sc (x :: y :: xs)
    | _ => false
  | .or es, sc, e => match e with
    | .BoolOp op (x :: y :: xs) _ => decide (op = .Or) && chkXs M es sc (x :: y :: xs)
    | _ => false
  | .ife c x y, sc, e => match e with
    | .IfExp t a b _ => chkX M c sc t && chkX M x sc a && chkX M y sc b
    | _ => false
  | .bi f es, sc, e => match e with
    | .Call (.Name n _) (x :: xs) [] _ => decide (n = f.name) && M.m.blt sc n && chkXs M es sc (x :: xs)
    | _ => false
  | .co tg it c x, sc, e => match e with
    | .ListComp elt [⟨t, iter, ifs, 0⟩] scope _ => chkXt M it sc iter && blkC M.m.N sc scope (tg.ids.map fun i => (M.m.N.getD i "", i)) && chkT M.m (okB scope sc) tg t
      && chkXf M c (relS scope sc) ifs && chkX M x (relS scope sc) elt && enumOkX it tg
    | _ => false
def chkXs (M : Nx) : Xs → Scope → List Expr → Bool
  | .nil, _, [] => true
  | .cons x xs, sc, e :: es => chkX M x sc e && chkXs M xs sc es
  | _, _, _ => false
def chkXo (M : Nx) : Xo → Scope → Option Expr → Bool
  | .no, _, none => true
  | .so x, sc, some e => chkX M x sc e
  | _, _, _ => false
def chkXf (M : Nx) : Xo → Scope → List Expr → Bool
  | .no, _, [] => true
  | .so x, sc, [e] => chkX M x sc e
  | _, _, _ => false
def chkXt (M : Nx) : Xt → Scope → Expr → Bool
  | .sq x, sc, e => chkX M x sc e
  | .r1 x, sc, e => match e with
    | .Call (.Name n _) [a] [] _ => decide (n = "range") && M.m.blt sc n && chkX M x sc a
    | _ => false
  | .r2 x y, sc, e => match e with
    | .Call (.Name n _) [a, b] [] _ => decide (n = "range") && M.m.blt sc n && chkX M x sc a && chkX M y sc b
    | _ => false
  | .en x, sc, e => match e with
    | .Call (.Name n _) [a] [] _ => decide (n = "enumerate") && M.m.blt sc n && chkX M x sc a
    | _ => false
end
end KP
/-! KPp: what the rules ask of expressions over owned things: plain forms. -/
namespace KP
open PySem L2

/-- a def's promise, its own arguments first -/
def spF (K : PySem.W.Frag) (p n : Nat) (f : Fn) : Sp := fun vs H Q _ => vs.length = p + n ∧ ∃ W F os ds r os', Sub W H ∧ RepOL K W H F (vs.take p) os ∧ F.Nodup ∧ (∀ a ∈ F, W a = none) ∧ RepL K W (vs.drop p) ds ∧ f os ds = some (r, os') ∧ os'.length = p ∧
  ∀ v W' H' F' T, Stp W H (· ∈ F) W' H' (fun a => a ∈ F' ∨ a ∈ T) → Sub W' H' → RepOL K W' H' F' (vs.take p) os' → RepO K W' H' T v r → (F' ++ T).Nodup → (∀ a ∈ F' ++ T, W' a = none) → Q v H'
structure CallF (g : GG) (x : Str) (p n : Nat) (f : Fn) : Prop where
  ex : ∃ (a : Addr) (fd : FuncData) (ps : List Str), g.mg x = some (.ref a) ∧ PySem.W.keepIn g.K (.ref a) = true ∧ Binds g.K fd ps [] ∧ FnOk g.P g.w g.K g.mg g.base (L2.CX g.P g.w) g.k a fd ps (spF g.K p n f)
structure Factx (g : GG) (M : Nx) (G : Cy) : Prop where
  F : Facts g M.m G.G
  fx : ∀ (j : Nat) (x : Str) (p n : Nat) (f : Fn), M.fx[j]? = some (x, p, n) → G.fx[j]? = some f → CallF g x p n f

abbrev OKs (F : Addr → Prop) (T : List Addr) : Addr → Prop := fun a => F a ∨ a ∈ T
def SX (K : PySem.W.Frag) (t : TE) (f : So → Option (O × So)) : Prop := ∀ ρ σ W H φ o ρ' Q, InvO K W H ρ σ φ → f ρ = some (o, ρ') →
  (∀ v W' H' φ' T, Stp W H (Fp φ) W' H' (OKs (Fp φ') T) → InvO K W' H' ρ' σ φ' → ResO K W' H' (Fp φ') T v o → Q v H') → t σ H Q
def SXT (K : PySem.W.Frag) (t : TT) (f : So → Option (Bool × So)) : Prop := ∀ ρ σ W H φ b ρ' Q, InvO K W H ρ σ φ → f ρ = some (b, ρ') →
  (∀ W' H' φ', Stp W H (Fp φ) W' H' (Fp φ') → InvO K W' H' ρ' σ φ' → Q b H') → t σ H Q
def SXA (K : PySem.W.Frag) (t : TA) (f : So → Option (List O × So)) : Prop := ∀ ρ σ W H φ os ρ' Q, InvO K W H ρ σ φ → f ρ = some (os, ρ') →
  (∀ vs W' H' φ' T, Stp W H (Fp φ) W' H' (OKs (Fp φ') T) → InvO K W' H' ρ' σ φ' → ResOL K W' H' (Fp φ') T vs os → Q vs H') → t σ H Q
def SndX (g : GG) (M : Nx) (G : Cy) (sc : Scope) (e : Expr) (x : X) : Prop :=
  ∃ t tt, (∀ X, Ctx g M.m sc X → PE X e t ∧ PT X e tt) ∧ SX g.K t (evX G x) ∧ SXT g.K tt (fun ρ => at2 (evX G x ρ)) ∧ niceB e = true

section
variable {g : GG} {M : Nx} {G : Cy} {sc : Scope} {K : PySem.W.Frag}
theorem asBO_some {o : O} {b : Bool} (h : asBO o = some b) : o = .sh (.bl b) := by
  unfold asBO at h
  split at h <;> cases h; rfl
theorem at2_some {x : Option (O × So)} {b : Bool} {ρ : So} (h : at2 x = some (b, ρ)) : x = some (.sh (.bl b), ρ) := by
  unfold at2 at h
  obtain ⟨p, hp, h⟩ := Option.bind_eq_some_iff.mp h
  obtain ⟨c, hc, h⟩ := Option.map_eq_some_iff.mp h
  cases h
  rw [hp]
  have := asBO_some hc
  obtain ⟨o, r⟩ := p
  cases this
  rfl
/-- a result as data in the view -/
theorem sx_d {t : TE} {f : So → Option (O × So)} (s : SX K t f) {ρ : So} {σ : L2.St} {W H : Hp} {φ : Nat → List Addr} {o : O} {ρ' : So} {Q : VK} (i : InvO K W H ρ σ φ) (e : f ρ = some (o, ρ'))
    (w : ∀ v W' H' φ', Stp W H (Fp φ) W' H' (Fp φ') → InvO K W' H' ρ' σ φ' → Rep K W' v o.d → Q v H') : t σ H Q := by
  refine s ρ σ W H φ o ρ' Q i e fun v W' H' φ' T st i' r => ?_
  obtain ⟨W2, st2, i2, rep⟩ := r.freeze i'
  exact w v W2 H' φ' (st.trans st2) i2 rep
theorem sxa_d {t : TA} {f : So → Option (List O × So)} (s : SXA K t f) {ρ : So} {σ : L2.St} {W H : Hp} {φ : Nat → List Addr} {os : List O} {ρ' : So} {Q : List V → Hp → Prop} (i : InvO K W H ρ σ φ) (e : f ρ = some (os, ρ'))
    (w : ∀ vs W' H' φ', Stp W H (Fp φ) W' H' (Fp φ') → InvO K W' H' ρ' σ φ' → RepL K W' vs (O.dL os) → Q vs H') : t σ H Q := by
  refine s ρ σ W H φ os ρ' Q i e fun v W' H' φ' T st i' r => ?_
  obtain ⟨W2, st2, i2, rep⟩ := r.freeze i'
  exact w v W2 H' φ' (st.trans st2) i2 rep
theorem sxt_of {t : TE} {x : X} (s : SX K t (evX G x)) : SXT K (tB t) (fun ρ => at2 (evX G x ρ)) := fun ρ σ W H φ b ρ' Q i e w => by
  refine sx_d s i (at2_some e) fun v W' H' φ' st i' r => ?_
  exact ⟨b, rep_bl r, w W' H' φ' st i'⟩
theorem SndX.of {e : Expr} {x : X} {t : TE} (h : ∀ X, Ctx g M.m sc X → PE X e t) (s : SX g.K t (evX G x)) (n : niceB e = true) (p : plainT e = true) : SndX g M G sc e x :=
  ⟨t, tB t, fun X c => ⟨h X c, pt_val (h X c) (isTrue_of p)⟩, s, sxt_of s, n⟩
/-- what is wanted of a pure result -/
theorem wantx {ρ2 : So} {σ : L2.St} {W H W2 H2 : Hp} {φ φ2 : Nat → List Addr} {r : R} {Q : VK} (i : InvO K W2 H2 ρ2 σ φ2) (s : Stp W H (Fp φ) W2 H2 (Fp φ2))
    (w : ∀ v W' H' φ' T, Stp W H (Fp φ) W' H' (OKs (Fp φ') T) → InvO K W' H' ρ2 σ φ' → ResO K W' H' (Fp φ') T v r.o → Q v H') : Want K W2 H2 r Q := fun v W' H' g x => by
  obtain ⟨T, st, i', rr⟩ := RepR.res i g x
  exact w v W' H' φ2 T (s.trans st) i' rr
theorem Stp.nil {W H W' H' : Hp} {F F' : Addr → Prop} (s : Stp W H F W' H' F') : Stp W H F W' H' (OKs F' []) := s.weak fun a z => z.elim id fun q => (by cases q)
/-- a value that bears data, as a result without cells -/
theorem res_sh {W H : Hp} {F : Addr → Prop} {v : V} {d : D} (r : Rep K W v d) : ResO K W H F [] v (.sh d) := ⟨.sh r, List.nodup_nil, by simp, by simp⟩

/-! ### reading -/
mutual
theorem pu_rep {W H : Hp} : ∀ {F : List Addr} {v : V} {o : O} {d : D}, RepO K W H F v o → o.pu = some d → Rep K W v d
  | _, _, _, _, .sh r, e => by simp only [O.pu] at e; cases e; exact r
  | _, _, _, _, .ol .., e => by simp [O.pu] at e
  | _, _, _, _, .ot h r, e => by
    simp only [O.pu] at e
    obtain ⟨ds, hd, rfl⟩ := Option.map_eq_some_iff.mp e
    exact .tup h (puL_rep r hd)
  | _, _, _, _, .oK .., e => by simp [O.pu] at e
  | _, _, _, _, .oT .., e => by simp [O.pu] at e
theorem puL_rep {W H : Hp} : ∀ {F : List Addr} {vs : List V} {os : List O} {ds : List D}, RepOL K W H F vs os → O.puL os = some ds → RepL K W vs ds
  | _, _, _, _, .nil, e => by simp only [O.puL] at e; cases e; exact .nil
  | _, _, _, _, .cons h r, e => by
    simp only [O.puL] at e
    obtain ⟨d, hd, e⟩ := Option.bind_eq_some_iff.mp e
    obtain ⟨ds, hds, rfl⟩ := Option.map_eq_some_iff.mp e
    exact .cons (pu_rep h hd) (puL_rep r hds)
end
theorem InvO.shR {W H : Hp} {ρ : So} {σ : L2.St} {φ : Nat → List Addr} (i : InvO K W H ρ σ φ) : EnvR K W (ShR ρ) σ := by
  refine ⟨by unfold ShR; simp [i.len], fun k d e => ?_⟩
  unfold ShR at e
  rw [List.getElem?_map] at e
  obtain ⟨o, ho, e⟩ := Option.map_eq_some_iff.mp e
  unfold shS at e
  obtain ⟨o', rfl, e⟩ := Option.bind_eq_some_iff.mp e
  obtain ⟨v, h1, h2⟩ := i.rep k o' ho
  exact ⟨v, h1, pu_rep h2 e⟩
theorem InvO.alR {W H : Hp} {ρ : So} {σ : L2.St} {φ : Nat → List Addr} (i : InvO K W H ρ σ φ) : EnvR K (ovl W H (Fp φ)) (AlR ρ) σ := by
  refine ⟨by unfold AlR; simp [i.len], fun k d e => ?_⟩
  unfold AlR at e
  rw [List.getElem?_map] at e
  obtain ⟨o, ho, e⟩ := Option.map_eq_some_iff.mp e
  unfold alS at e
  obtain ⟨o', rfl, e⟩ := Option.map_eq_some_iff.mp e
  have e : o'.d = d := by simpa using e
  subst e
  obtain ⟨v, h1, h2⟩ := i.rep k o' ho
  exact ⟨v, h1, h2.frz (fun a ⟨j, hj⟩ => i.dis j a hj) fun a ha => ⟨k, ha⟩⟩
/-- a view without the own cells -/
noncomputable def cut (W : Hp) (S : Addr → Prop) : Hp := fun a => open Classical in if S a then none else W a
theorem cut_in {W : Hp} {S : Addr → Prop} {a : Addr} (h : S a) : cut W S a = none := by unfold cut; simp [h]
theorem cut_out {W : Hp} {S : Addr → Prop} {a : Addr} (h : ¬ S a) : cut W S a = W a := by unfold cut; simp [h]
/-- what was read with all own cells in view, when it is flat -/
theorem InvO.back {W H W1 H1 : Hp} {ρ : So} {σ : L2.St} {φ : Nat → List Addr} (i : InvO K W H ρ σ φ) (g : Grow (ovl W H (Fp φ)) H W1 H1) :
    Grow W H (cut W1 (Fp φ)) H1 ∧ (∀ v d, Rep K W1 v d → d.fl = true → Rep K (cut W1 (Fp φ)) v d) ∧ (∀ vs ds, RepL K W1 vs ds → D.flL ds = true → RepL K (cut W1 (Fp φ)) vs ds) := by
  have hn : ∀ a, Fp φ a → W a = none := fun a ⟨j, hj⟩ => i.dis j a hj
  have hm : ∀ a u, Fp φ a → W1 a = some u → isMut u = true := fun a u h e => by
    obtain ⟨u', e', m⟩ := i.own h
    have := g.wh a u e
    rw [g.sH.k a u' e' (mut_nt m)] at this
    cases this
    exact m
  have hc : ∀ a u, ¬ Fp φ a → W1 a = some u → cut W1 (Fp φ) a = some u := fun a u h e => by rw [cut_out h]; exact e
  refine ⟨⟨fun a u e => ?_, g.sH, g.wh.sub fun a u e => ?_, fun a u e => ?_⟩, fun v d r h => Rep.less hm hc r h, fun vs ds r h => RepL.less hm hc r h⟩
  · have h : ¬ Fp φ a := fun z => by rw [hn a z] at e; cases e
    rw [cut_out h]
    exact g.sW _ _ (by rw [ovl_out h]; exact e)
  · have h : ¬ Fp φ a := fun z => by rw [cut_in z] at e; cases e
    rw [cut_out h] at e
    exact e
  · have h : ¬ Fp φ a := fun z => by rw [cut_in z] at e; cases e
    rw [cut_out h] at e
    rcases g.nw a u e with q | q
    · rw [ovl_out h] at q; exact .inl q
    · exact .inr q
theorem InvO.backR {W H W1 H1 : Hp} {ρ : So} {σ : L2.St} {φ : Nat → List Addr} {v : V} {r : R} (i : InvO K W H ρ σ φ) (g : Grow (ovl W H (Fp φ)) H W1 H1) (x : RepR K W1 H H1 v r) (h : r.flat = true) : RepR K (cut W1 (Fp φ)) H H1 v r := by
  obtain ⟨_, h1, h2⟩ := i.back g
  have hn : ∀ a, W1 a = none → cut W1 (Fp φ) a = none := fun a e => by
    by_cases q : Fp φ a
    · exact cut_in q
    · rw [cut_out q]; exact e
  cases r with
  | sh d => exact h1 v d x h
  | fl ds =>
    obtain ⟨a, vs, e, n, w, l, q, rr⟩ := x
    exact ⟨a, vs, e, n, hn a w, l, q, h2 _ _ rr h⟩
  | fK ks ds =>
    obtain ⟨a, vs, e, n, w, l, q, q2, rr⟩ := x
    exact ⟨a, vs, e, n, hn a w, l, q, q2, h2 _ _ rr h⟩
  | fT ks ds =>
    obtain ⟨a, vs, e, n, w, l, q, q2, rr⟩ := x
    exact ⟨a, vs, e, n, hn a w, l, q, q2, h2 _ _ rr h⟩
theorem sndx_p {e : Expr} {a : E} (h : SndE g M.m G.G sc e a) : SndX g M G sc e (.p a) := by
  obtain ⟨t, tt, hp, s, st, n⟩ := h
  refine ⟨t, tt, hp, fun ρ σ W H φ o ρ' Q i e w => ?_, fun ρ σ W H φ b ρ' Q i e w => ?_, n⟩
  · simp only [evX] at e
    obtain ⟨r, er, e⟩ := Option.map_eq_some_iff.mp e
    cases e
    exact s _ σ W H r Q i.sm i.shR er (wantx (φ := φ) i Stp.refl w)
  · have e := at2_some e
    simp only [evX] at e
    obtain ⟨r, er, e⟩ := Option.map_eq_some_iff.mp e
    cases r <;> simp only [R.o, Prod.mk.injEq] at e <;> try (cases e.1; done)
    obtain ⟨e1, rfl⟩ := e
    cases e1
    exact st _ σ W H b Q i.sm i.shR (by unfold evb; rw [er]; rfl) fun W' H' gr => w W' H' φ (Grow.stp gr) (i.grow gr)
theorem sndx_q {e : Expr} {a : E} (h : SndE g M.m G.G sc e a) : SndX g M G sc e (.q a) := by
  obtain ⟨t, tt, hp, s, st, n⟩ := h
  refine ⟨t, tt, hp, fun ρ σ W H φ o ρ' Q i e w => ?_, fun ρ σ W H φ b ρ' Q i e w => ?_, n⟩
  · simp only [evX] at e
    obtain ⟨r, er, e⟩ := Option.bind_eq_some_iff.mp e
    split at e <;> try (cases e; done)
    rename_i hf
    cases e
    refine s _ σ _ H r Q (ovl_sub i.sm fun _ h => i.own h) i.alR er fun v W1 H1 gr x => ?_
    obtain ⟨T, st, i', rr⟩ := RepR.res i (i.back gr).1 (i.backR gr x hf)
    exact w v _ H1 φ T st i' rr
  · have e := at2_some e
    simp only [evX] at e
    obtain ⟨r, er, e⟩ := Option.bind_eq_some_iff.mp e
    split at e <;> try (cases e; done)
    cases r <;> simp only [R.o, Option.some.injEq, Prod.mk.injEq] at e <;> try (cases e.1; done)
    obtain ⟨e1, rfl⟩ := e
    cases e1
    exact st _ σ _ H b Q (ovl_sub i.sm fun _ h => i.own h) i.alR (by unfold evb; rw [er]; rfl) fun W' H' gr => w _ H' φ (Grow.stp (i.back gr).1) (i.grow (i.back gr).1)

/-! ### changing one slot -/
theorem InvO.change {W H W' H' : Hp} {ρ : So} {σ σ' : L2.St} {φ : Nat → List Addr} {k : Nat} {o' : O} {v' : V} {F' : List Addr} (i : InvO K W H ρ σ φ) (sW : Same W W') (sm : Sub W' H') (hk : ∀ j, j ≠ k → ∀ a ∈ φ j, (∀ u, H a = some u → H' a = some u) ∧ W' a = none)
    (hs : ∀ j, j ≠ k → σ'[j]? = σ[j]?) (hl : σ'.length = σ.length) (hv : k < σ.length → σ'[k]? = some (some v')) (r : RepO K W' H' F' v' o') (nd : F'.Nodup) (dis : ∀ a ∈ F', W' a = none) (sep : ∀ a ∈ F', ∀ j, j ≠ k → a ∉ φ j) (hlt : k < ρ.length) :
    InvO K W' H' (ρ.set k (some o')) σ' (fun j => if j = k then F' else φ j) := by
  refine ⟨by simp [i.len, hl], fun j o e => ?_, fun j e => ?_, fun j a ha => ?_, fun j j' a ha ha' => ?_, fun j => ?_, sm⟩
  · by_cases q : j = k
    · subst q
      rw [List.getElem?_set_self hlt] at e
      cases e
      simp only [if_pos]
      exact ⟨v', hv (by rw [← i.len]; exact hlt), r⟩
    · rw [List.getElem?_set_ne (fun z => q z.symm)] at e
      obtain ⟨v, h1, h2⟩ := i.rep j o e
      simp only [if_neg q]
      exact ⟨v, by rw [hs j q]; exact h1, h2.mono sW fun a ha => (hk j q a ha).1⟩
  · by_cases q : j = k
    · subst q
      exact absurd (List.getElem?_set_self hlt) (e o')
    · simp only [if_neg q]
      refine i.emp j fun o z => e o ?_
      rw [List.getElem?_set_ne (fun z => q z.symm)]
      exact z
  · by_cases q : j = k
    · simp only [if_pos q] at ha; exact dis a ha
    · simp only [if_neg q] at ha; exact (hk j q a ha).2
  · by_cases q : j = k <;> by_cases q' : j' = k
    · rw [q, q']
    · simp only [if_pos q] at ha
      simp only [if_neg q'] at ha'
      exact absurd ha' (sep a ha j' q')
    · simp only [if_neg q] at ha
      simp only [if_pos q'] at ha'
      exact absurd ha (sep a ha' j q)
    · simp only [if_neg q] at ha
      simp only [if_neg q'] at ha'
      exact i.sep j j' a ha ha'
  · by_cases q : j = k
    · simp only [if_pos q]; exact nd
    · simp only [if_neg q]; exact i.nd j
theorem fp_change {φ : Nat → List Addr} {k : Nat} {F' : List Addr} {a : Addr} (h : Fp (fun j => if j = k then F' else φ j) a) : a ∈ F' ∨ ∃ j, j ≠ k ∧ a ∈ φ j := by
  obtain ⟨j, hj⟩ := h
  by_cases q : j = k
  · simp only [if_pos q] at hj; exact .inl hj
  · simp only [if_neg q] at hj; exact .inr ⟨j, q, hj⟩
/-- a slot's value leaves it -/
theorem InvO.drop {W H : Hp} {ρ : So} {σ : L2.St} {φ : Nat → List Addr} (i : InvO K W H ρ σ φ) (k : Nat) : InvO K W H (ρ.set k none) σ (fun j => if j = k then [] else φ j) := by
  refine ⟨by simp [i.len], fun j o e => ?_, fun j e => ?_, fun j a ha => ?_, fun j j' a ha ha' => ?_, fun j => ?_, i.sm⟩
  · by_cases q : j = k
    · subst q
      by_cases hl : j < ρ.length
      · rw [List.getElem?_set_self hl] at e; cases e
      · rw [List.getElem?_eq_none (by simpa using hl)] at e; cases e
    · rw [List.getElem?_set_ne (fun z => q z.symm)] at e
      simp only [if_neg q]
      exact i.rep j o e
  · by_cases q : j = k
    · simp only [if_pos q]
    · simp only [if_neg q]
      refine i.emp j fun o z => e o ?_
      rw [List.getElem?_set_ne (fun z => q z.symm)]
      exact z
  · by_cases q : j = k
    · simp only [if_pos q] at ha; cases ha
    · simp only [if_neg q] at ha; exact i.dis j a ha
  · by_cases q : j = k
    · simp only [if_pos q] at ha; cases ha
    · by_cases q' : j' = k
      · simp only [if_pos q'] at ha'; cases ha'
      · simp only [if_neg q] at ha
        simp only [if_neg q'] at ha'
        exact i.sep j j' a ha ha'
  · by_cases q : j = k
    · simp only [if_pos q]; exact List.nodup_nil
    · simp only [if_neg q]; exact i.nd j
theorem fp_drop {φ : Nat → List Addr} {k : Nat} {a : Addr} (h : Fp (fun j => if j = k then [] else φ j) a) : ∃ j, j ≠ k ∧ a ∈ φ j := by
  rcases fp_change h with h | h
  · cases h
  · exact h
theorem sndx_mv {e : Expr} {j : Nat} (h : chkX M (.mv j) sc e = true) : SndX g M G sc e (.mv j) := by
  unfold chkX at h
  split at h <;> try (cases h; done)
  rename_i x p
  simp only [Bool.and_eq_true, decide_eq_true_eq, Bool.not_eq_true'] at h
  obtain ⟨⟨⟨h1, h2⟩, h3⟩, h4⟩ := h
  refine .of (t := tVar j) (fun X c => pe_var (by rw [c.N]; exact h1) (by rw [c.scope]; exact vis_of h2) h3 h4) (fun ρ σ W H φ o ρ' Q i e w => ?_) rfl rfl
  simp only [evX] at e
  split at e <;> cases e
  rename_i ho
  obtain ⟨v, hv, rp⟩ := i.rep j o ho
  refine ⟨v, hv, w v W H _ (φ j) ?_ (i.drop j) ⟨rp, i.nd j, fun a ha => i.dis j a ha, fun a ha z => ?_⟩⟩
  · refine Stp.refl.weak fun a z => ?_
    rcases z with z | z
    · obtain ⟨k, _, hk⟩ := fp_drop z
      exact ⟨k, hk⟩
    · exact ⟨j, z⟩
  · obtain ⟨k, hk, hk'⟩ := fp_drop z
    exact hk (i.sep k j a hk' ha)
/-- a slot's cells go into the view -/
theorem InvO.frz1 {W H : Hp} {ρ : So} {σ : L2.St} {φ : Nat → List Addr} (i : InvO K W H ρ σ φ) (k : Nat) : ∃ W' φ', Stp W H (Fp φ) W' H (Fp φ') ∧ InvO K W' H (KP.frz1 ρ k) σ φ' := by
  unfold KP.frz1
  split
  · rename_i o ho
    obtain ⟨v, hv, rp⟩ := i.rep k o ho
    have hS : ∀ a, a ∈ φ k → W a = none := fun a ha => i.dis k a ha
    have hlt : k < ρ.length := (List.getElem?_eq_some_iff.mp ho).1
    refine ⟨ovl W H (· ∈ φ k), fun j => if j = k then [] else φ j, ⟨ovl_same hS, fun a u e _ _ => e, fun a z => ?_, fun a u e => ?_, fun a ps e => .inr ⟨ps, e⟩, id⟩, ?_⟩
    · obtain ⟨j, _, hj⟩ := fp_drop z
      exact .inl ⟨j, hj⟩
    · by_cases q : a ∈ φ k
      · exact .inr (.inl ⟨k, q⟩)
      · rw [ovl_out q] at e; exact .inl e
    · refine i.change (v' := v) (ovl_same hS) (ovl_sub i.sm rp.dom) (fun j hj a ha => ⟨fun u e => e, ?_⟩) (fun j _ => rfl) rfl (fun _ => hv) (.sh (rp.frz hS fun a ha => ha)) List.nodup_nil (by simp) (by simp) hlt
      rw [ovl_out fun z => hj (i.sep j k a ha z)]
      exact i.dis j a ha
  · exact ⟨W, φ, Stp.refl, i⟩
theorem InvO.frzS {H : Hp} {σ : L2.St} : ∀ (is : List Nat) {W : Hp} {ρ : So} {φ : Nat → List Addr}, InvO K W H ρ σ φ → ∃ W' φ', Stp W H (Fp φ) W' H (Fp φ') ∧ InvO K W' H (KP.frzS is ρ) σ φ'
  | [], W, ρ, φ, i => ⟨W, φ, Stp.refl, i⟩
  | k :: is, W, ρ, φ, i => by
    obtain ⟨W1, φ1, s1, i1⟩ := i.frz1 k
    obtain ⟨W2, φ2, s2, i2⟩ := InvO.frzS is i1
    exact ⟨W2, φ2, s1.trans s2, i2⟩
theorem sndx_z {e : Expr} {is : List Nat} {x : X} (h : SndX g M G sc e x) : SndX g M G sc e (.z is x) := by
  obtain ⟨t, tt, hp, s, st, n⟩ := h
  refine ⟨t, tt, hp, fun ρ σ W H φ o ρ' Q i e w => ?_, fun ρ σ W H φ b ρ' Q i e w => ?_, n⟩
  · simp only [evX] at e
    obtain ⟨W1, φ1, s1, i1⟩ := i.frzS is
    exact s _ σ W1 H φ1 o ρ' Q i1 e fun v W' H' φ' T st => w v W' H' φ' T (s1.trans st)
  · simp only [evX] at e
    obtain ⟨W1, φ1, s1, i1⟩ := i.frzS is
    exact st _ σ W1 H φ1 b ρ' Q i1 e fun W' H' φ' st => w W' H' φ' (s1.trans st)
end
end KP
/-! KPq: .. the composite forms. -/
namespace KP
open PySem L2

section
variable {g : GG} {M : Nx} {G : Cy} {sc : Scope} {K : PySem.W.Frag}
structure SndXs (g : GG) (M : Nx) (G : Cy) (sc : Scope) (es : List Expr) (xs : Xs) : Prop where
  pa : ∃ ta, (∀ X, Ctx g M.m sc X → PA X es ta) ∧ SXA g.K ta (evXs G xs)
  nice : ∀ e ∈ es, niceB e = true
  nil : es = [] → xs = .nil
  len : ∀ ρ p, evXs G xs ρ = some p → p.1.length = es.length
  an : es ≠ [] → ∀ p, ∃ t tt, (∀ X, Ctx g M.m sc X → PE X (.BoolOp .And es p) t ∧ PW X (.BoolOp .And es p) tt) ∧ SX g.K t (fun ρ => (evXan G xs ρ).map fun p => (.sh (.bl p.1), p.2)) ∧ SXT g.K tt (evXan G xs)
  or : es ≠ [] → ∀ p, ∃ t tt, (∀ X, Ctx g M.m sc X → PE X (.BoolOp .Or es p) t ∧ PW X (.BoolOp .Or es p) tt) ∧ SX g.K t (fun ρ => (evXor G xs ρ).map fun p => (.sh (.bl p.1), p.2)) ∧ SXT g.K tt (evXor G xs)
theorem ResO.cons {W1 H1 W2 H2 : Hp} {F1 F2 : Addr → Prop} {T1 T2 : List Addr} {v : V} {vs : List V} {o : O} {os : List O} (r : ResO K W1 H1 F1 T1 v o) (y : Stp W1 H1 F1 W2 H2 (OKs F2 T2)) (rs : ResOL K W2 H2 F2 T2 vs os) : ResOL K W2 H2 F2 (T1 ++ T2) (v :: vs) (o :: os) := by
  have r2 := r.held (y.weak fun a z => .inl z)
  refine ⟨.cons r2.rep rs.rep, List.nodup_append.mpr ⟨r2.nd, rs.nd, fun a ha b hb => ?_⟩, fun a ha => ?_, fun a ha => ?_⟩
  · rintro rfl
    obtain ⟨u, hu, _⟩ := r.rep.dom a ha
    rcases y.nf a (.inr hb) with q | q
    · exact r.sep a ha q
    · rw [hu] at q; cases q
  · rcases List.mem_append.mp ha with h | h
    · exact r2.dis a h
    · exact rs.dis a h
  · rcases List.mem_append.mp ha with h | h
    · exact r2.sep a h
    · exact rs.sep a h
theorem stp_held {W H W1 H1 W2 H2 : Hp} {F F1 F2 : Addr → Prop} {T1 T2 : List Addr} (x : Stp W H F W1 H1 (OKs F1 T1)) (y : Stp W1 H1 F1 W2 H2 (OKs F2 T2)) : Stp W H F W2 H2 (OKs F2 (T1 ++ T2)) :=
  (x.trans2 y).weak fun a z => by
    rcases z with z | z
    · exact .inl (.inl z)
    · rcases List.mem_append.mp z with z | z
      · exact .inr z
      · exact .inl (.inr z)
theorem sndxs_nil : SndXs g M G sc [] .nil := by
  refine ⟨⟨tNil, fun X c => pa_nil, fun ρ σ W H φ os ρ' Q i e w => ?_⟩, fun e h => (by cases h), fun _ => rfl, fun ρ p e => (by simp only [evXs] at e; cases e; rfl), fun h => absurd rfl h, fun h => absurd rfl h⟩
  simp only [evXs] at e; cases e
  exact w [] W H φ [] Stp.refl.nil i ⟨.nil, List.nodup_nil, by simp, by simp⟩
theorem sxt_at {tt : TT} {x : X} (s : SXT g.K tt (fun ρ => at2 (evX G x ρ))) {ρ : So} {σ : L2.St} {W H : Hp} {φ : Nat → List Addr} {b : Bool} {ρ' : So} {Q : Bool → Hp → Prop} (i : InvO g.K W H ρ σ φ) (e : at2 (evX G x ρ) = some (b, ρ'))
    (w : ∀ W' H' φ', Stp W H (Fp φ) W' H' (Fp φ') → InvO g.K W' H' ρ' σ φ' → Q b H') : tt σ H Q := s ρ σ W H φ b ρ' Q i e w
theorem sndxs_cons {e : Expr} {es : List Expr} {x : X} {xs : Xs} (h : SndX g M G sc e x) (hs : SndXs g M G sc es xs) : SndXs g M G sc (e :: es) (.cons x xs) := by
  obtain ⟨ta, tt, ha, sa, st, na⟩ := h
  refine ⟨?_, fun y hy => ?_, fun z => (by cases z), fun ρ p e => ?_, fun _ p => ?_, fun _ p => ?_⟩
  · obtain ⟨tr, hr, sr⟩ := hs.pa
    refine ⟨tCons ta tr, fun X c => pa_cons (ha X c).1 (hr X c) (star_of na), fun ρ σ W H φ os ρ' Q i e w => ?_⟩
    simp only [evXs] at e
    obtain ⟨⟨o, ρ1⟩, ex, e⟩ := Option.bind_eq_some_iff.mp e
    obtain ⟨⟨os', ρ2⟩, exs, e⟩ := Option.map_eq_some_iff.mp e
    cases e
    refine sa ρ σ W H φ o ρ1 _ i ex fun v W1 H1 φ1 T1 s1 i1 r1 => ?_
    refine sr ρ1 σ W1 H1 φ1 os' ρ2 _ i1 exs fun vs W2 H2 φ2 T2 s2 i2 r2 => ?_
    exact w _ W2 H2 φ2 (T1 ++ T2) (stp_held s1 s2) i2 (r1.cons s2 r2)
  · rcases List.mem_cons.mp hy with rfl | hy
    · exact na
    · exact hs.nice y hy
  · simp only [evXs] at e
    obtain ⟨⟨o, ρ1⟩, ex, e⟩ := Option.bind_eq_some_iff.mp e
    obtain ⟨⟨os', ρ2⟩, exs, e⟩ := Option.map_eq_some_iff.mp e
    subst e
    have := hs.len _ _ exs
    simpa using this
  · cases es with
    | nil =>
      have := hs.nil rfl; subst this
      have e1 : ∀ {ρ : So} {b : Bool} {ρ' : So}, evXan G (.cons x .nil) ρ = some (b, ρ') → at2 (evX G x ρ) = some (b, ρ') := fun {ρ b ρ'} h => by
        simp only [evXan] at h
        obtain ⟨⟨c, ρ1⟩, h1, h2⟩ := Option.bind_eq_some_iff.mp h
        cases c <;> simp at h2 <;> (obtain ⟨rfl, rfl⟩ := h2; exact h1)
      refine ⟨ta, tt, fun X c => ⟨pe_one (ha X c).1, pw_and1 (ha X c).2⟩, fun ρ σ W H φ o ρ' Q i e w => ?_, fun ρ σ W H φ b ρ' Q i e w => sxt_at st i (e1 e) w⟩
      obtain ⟨⟨b, ρ1⟩, eb, e⟩ := Option.map_eq_some_iff.mp e
      cases e
      exact sa ρ σ W H φ _ _ Q i (at2_some (e1 eb)) w
    | cons y ys =>
      obtain ⟨tr, tw, hr, sr, swr⟩ := hs.an (by simp) p
      refine ⟨tAndV ta tr, tAnd tt tw, fun X c => ⟨pe_and (ha X c).1 (hr X c).1, pw_and (ha X c).2 (hr X c).2⟩, fun ρ σ W H φ o ρ' Q i e w => ?_, fun ρ σ W H φ b ρ' Q i e w => ?_⟩
      · obtain ⟨⟨b, ρ2⟩, eb, e⟩ := Option.map_eq_some_iff.mp e
        cases e
        simp only [evXan] at eb
        obtain ⟨⟨c, ρ1⟩, h1, h2⟩ := Option.bind_eq_some_iff.mp eb
        refine sx_d sa i (at2_some h1) fun v W1 H1 φ1 s1 i1 r1 => ⟨c, rep_bl r1, ?_⟩
        cases c with
        | false =>
          simp at h2; obtain ⟨rfl, rfl⟩ := h2
          exact iteF (w _ W1 H1 φ1 [] s1.nil i1 (res_sh (.bl _)))
        | true =>
          rw [if_pos rfl] at h2
          exact iteT (sr ρ1 σ W1 H1 φ1 _ _ Q i1 (by show Option.map _ (evXan G xs ρ1) = _; rw [h2]; rfl) fun v W' H' φ' T s' => w v W' H' φ' T (s1.trans s'))
      · simp only [evXan] at e
        obtain ⟨⟨c, ρ1⟩, h1, h2⟩ := Option.bind_eq_some_iff.mp e
        refine sxt_at st i h1 fun W1 H1 φ1 s1 i1 => ?_
        cases c with
        | false =>
          simp at h2; obtain ⟨rfl, rfl⟩ := h2
          exact iteF (w W1 H1 φ1 s1 i1)
        | true =>
          rw [if_pos rfl] at h2
          exact iteT (swr ρ1 σ W1 H1 φ1 _ _ Q i1 h2 fun W2 H2 φ2 s2 => w W2 H2 φ2 (s1.trans s2))
  · cases es with
    | nil =>
      have := hs.nil rfl; subst this
      have e1 : ∀ {ρ : So} {b : Bool} {ρ' : So}, evXor G (.cons x .nil) ρ = some (b, ρ') → at2 (evX G x ρ) = some (b, ρ') := fun {ρ b ρ'} h => by
        simp only [evXor] at h
        obtain ⟨⟨c, ρ1⟩, h1, h2⟩ := Option.bind_eq_some_iff.mp h
        cases c <;> simp at h2 <;> (obtain ⟨rfl, rfl⟩ := h2; exact h1)
      refine ⟨ta, tt, fun X c => ⟨pe_one (ha X c).1, pw_or1 (ha X c).2⟩, fun ρ σ W H φ o ρ' Q i e w => ?_, fun ρ σ W H φ b ρ' Q i e w => sxt_at st i (e1 e) w⟩
      obtain ⟨⟨b, ρ1⟩, eb, e⟩ := Option.map_eq_some_iff.mp e
      cases e
      exact sa ρ σ W H φ _ _ Q i (at2_some (e1 eb)) w
    | cons y ys =>
      obtain ⟨tr, tw, hr, sr, swr⟩ := hs.or (by simp) p
      refine ⟨tOrV ta tr, tOr tt tw, fun X c => ⟨pe_or (ha X c).1 (hr X c).1, pw_or (ha X c).2 (hr X c).2⟩, fun ρ σ W H φ o ρ' Q i e w => ?_, fun ρ σ W H φ b ρ' Q i e w => ?_⟩
      · obtain ⟨⟨b, ρ2⟩, eb, e⟩ := Option.map_eq_some_iff.mp e
        cases e
        simp only [evXor] at eb
        obtain ⟨⟨c, ρ1⟩, h1, h2⟩ := Option.bind_eq_some_iff.mp eb
        refine sx_d sa i (at2_some h1) fun v W1 H1 φ1 s1 i1 r1 => ⟨c, rep_bl r1, ?_⟩
        cases c with
        | true =>
          simp at h2; obtain ⟨rfl, rfl⟩ := h2
          exact iteT (w _ W1 H1 φ1 [] s1.nil i1 (res_sh (.bl _)))
        | false =>
          rw [if_neg (by simp)] at h2
          exact iteF (sr ρ1 σ W1 H1 φ1 _ _ Q i1 (by show Option.map _ (evXor G xs ρ1) = _; rw [h2]; rfl) fun v W' H' φ' T s' => w v W' H' φ' T (s1.trans s'))
      · simp only [evXor] at e
        obtain ⟨⟨c, ρ1⟩, h1, h2⟩ := Option.bind_eq_some_iff.mp e
        refine sxt_at st i h1 fun W1 H1 φ1 s1 i1 => ?_
        cases c with
        | true =>
          simp at h2; obtain ⟨rfl, rfl⟩ := h2
          exact iteT (w W1 H1 φ1 s1 i1)
        | false =>
          rw [if_neg (by simp)] at h2
          exact iteF (swr ρ1 σ W1 H1 φ1 _ _ Q i1 h2 fun W2 H2 φ2 s2 => w W2 H2 φ2 (s1.trans s2))

/-! ### displays -/
theorem InvO.new {W H : Hp} {ρ : So} {σ : L2.St} {φ : Nat → List Addr} {p : Addr} (i : InvO K W H ρ σ φ) (hp : H p = none) : ¬ Fp φ p := fun z => by
  obtain ⟨u, hu, _⟩ := i.own z
  rw [hp] at hu; cases hu
theorem stp_new {W H W1 H1 W2 H2 : Hp} {F F1 : Addr → Prop} {T T' : List Addr} {p : Addr} (s : Stp W H F W1 H1 (OKs F1 T)) (g : Grow W1 H1 W2 H2) (hT : ∀ a ∈ T', a ∈ T ∨ H1 a = none) : Stp W H F W2 H2 (OKs F1 T') := by
  refine s.trans ⟨g.sW, fun a u e _ => g.sH.k a u e, fun a z => ?_, fun a u e => ?_, fun a ps e => .inr (g.sH.tt a ps e), g.sH.t⟩
  · rcases z with z | z
    · exact .inl (.inl z)
    · rcases hT a z with q | q
      · exact .inl (.inr q)
      · exact .inr q
  · rcases g.nw a u e with q | q
    · exact .inl q
    · exact .inr (.inr q)
theorem ResOL.new {W H W1 H1 : Hp} {ρ : So} {σ : L2.St} {φ : Nat → List Addr} {T : List Addr} {vs : List V} {os : List O} (i : InvO K W H ρ σ φ) (r : ResOL K W H (Fp φ) T vs os) (g : Grow W H W1 H1) : ResOL K W1 H1 (Fp φ) T vs os := by
  refine ⟨r.rep.mono g.sW fun a ha u e => g.sH.k a u e (by obtain ⟨u', h', hm'⟩ := r.rep.dom a ha; rw [e] at h'; cases h'; exact mut_nt hm'), r.nd, fun a ha => ?_, r.sep⟩
  cases e : W1 a with
  | none => rfl
  | some u =>
    obtain ⟨u', h', hm'⟩ := r.rep.dom a ha
    rcases g.nw a u e with q | q
    · rw [r.dis a ha] at q; cases q
    · exact (q.no h' (mut_no hm')).elim
theorem sndx_tup {xs : Xs} {es : List Expr} {k : Nat} {p : Pos} (h : SndXs g M G sc es xs) : SndX g M G sc (.Tuple es k p) (.tup xs) := by
  obtain ⟨ta, ha, sa⟩ := h.pa
  refine .of (t := tTup ta) (fun X c => pe_tup (ha X c)) (fun ρ σ W H φ o ρ' Q i e w => ?_) rfl rfl
  simp only [evX] at e
  obtain ⟨⟨os, ρ1⟩, eo, e⟩ := Option.bind_eq_some_iff.mp e
  split at e <;> cases e
  rename_i l
  refine sa ρ σ W H φ os _ _ i eo fun vs W1 H1 φ1 T s1 i1 r1 => ⟨by rw [r1.rep.length]; exact Nat.le_trans l lim_line, fun q hq => ?_⟩
  have gr : Grow W1 H1 (upd W1 q (.tup vs)) (upd H1 q (.tup vs)) := Grow.new i1.sm hq
  have r2 := r1.new i1 gr
  refine w _ _ _ φ1 T (stp_new (p := q) s1 gr fun a ha => .inl ha) (i1.grow gr) ⟨.ot upd_same r2.rep, r2.nd, r2.dis, r2.sep⟩
theorem sndx_lst {xs : Xs} {es : List Expr} {p : Pos} (h : SndXs g M G sc es xs) : SndX g M G sc (.List es p) (.lst xs) := by
  obtain ⟨ta, ha, sa⟩ := h.pa
  refine .of (t := tLst ta) (fun X c => pe_lst (ha X c)) (fun ρ σ W H φ o ρ' Q i e w => ?_) rfl rfl
  simp only [evX] at e
  obtain ⟨⟨os, ρ1⟩, eo, e⟩ := Option.bind_eq_some_iff.mp e
  split at e <;> cases e
  rename_i l
  refine sa ρ σ W H φ os _ _ i eo fun vs W1 H1 φ1 T s1 i1 r1 => ⟨by rw [r1.rep.length]; exact Nat.le_trans l lim_line, fun q hq => ?_⟩
  have gr : Grow W1 H1 W1 (upd H1 q (.lst vs)) := Grow.new0 i1.sm hq
  have r2 := r1.new i1 gr
  refine w _ _ _ φ1 (q :: T) (stp_new (p := q) s1 gr fun a ha => (List.mem_cons.mp ha).elim (fun z => .inr (z ▸ hq)) .inl) (i1.grow gr) ⟨.ol upd_same l r2.rep, List.nodup_cons.mpr ⟨fun z => ?_, r2.nd⟩, fun a ha => ?_, fun a ha => ?_⟩
  · obtain ⟨u, hu, _⟩ := r1.rep.dom q z
    rw [hq] at hu; cases hu
  · rcases List.mem_cons.mp ha with rfl | ha
    · exact i1.sm.free hq
    · exact r2.dis a ha
  · rcases List.mem_cons.mp ha with rfl | ha
    · exact i1.new hq
    · exact r2.sep a ha

/-! ### plain operators -/
theorem sndx_b2 {o : O2} {x y : X} {l r : Expr} {p : Pos} (hx : SndX g M G sc l x) (hy : SndX g M G sc r y) : SndX g M G sc (.BinOp l o.op r p) (.b2 o x y) := by
  obtain ⟨ta, _, ha, sa, _, na⟩ := hx
  obtain ⟨tb, _, hb, sb, _, nb⟩ := hy
  refine .of (t := tOp (rO2 g.K o) ta tb) (fun X c => by rw [← c.K]; exact pe_op (o2_ok o) (ha X c).1 (hb X c).1) (fun ρ σ W H φ o' ρ' Q i e w => ?_) rfl rfl
  simp only [evX] at e
  obtain ⟨⟨a, ρ1⟩, ex, e⟩ := Option.bind_eq_some_iff.mp e
  obtain ⟨⟨b, ρ2⟩, ey, e⟩ := Option.bind_eq_some_iff.mp e
  obtain ⟨r, er, e⟩ := Option.map_eq_some_iff.mp e
  cases e
  refine sx_d sa i ex fun v W1 H1 φ1 s1 i1 r1 => ?_
  refine sx_d sb i1 ey fun u W2 H2 φ2 s2 i2 r2 => ?_
  exact o2_sem i2.sm (r1.mono s2.sW) r2 er (wantx i2 (s1.trans s2) w)
theorem sndx_c2 {o : C2} {x y : X} {l r : Expr} {p : Pos} (hx : SndX g M G sc l x) (hy : SndX g M G sc r y) : SndX g M G sc (.Compare l [o.op] [r] p) (.c2 o x y) := by
  obtain ⟨ta, _, ha, sa, _, na⟩ := hx
  obtain ⟨tb, _, hb, sb, _, nb⟩ := hy
  have sem : ∀ {ρ : So} {σ : L2.St} {W H : Hp} {φ : Nat → List Addr} {r : Bool} {ρ' : So} {Q : VK}, InvO g.K W H ρ σ φ → evX G (.c2 o x y) ρ = some (.sh (.bl r), ρ') → (∀ W' H' φ', Stp W H (Fp φ) W' H' (Fp φ') → InvO g.K W' H' ρ' σ φ' → Q (.bl r) H') → tOp (rC2 g.K o) ta tb σ H Q := fun {ρ σ W H φ r ρ' Q} i e w => by
    simp only [evX] at e
    obtain ⟨⟨a, ρ1⟩, ex, e⟩ := Option.bind_eq_some_iff.mp e
    obtain ⟨⟨b, ρ2⟩, ey, e⟩ := Option.bind_eq_some_iff.mp e
    obtain ⟨z, ez, e⟩ := Option.map_eq_some_iff.mp e
    cases e
    refine sx_d sa i ex fun v W1 H1 φ1 s1 i1 r1 => ?_
    refine sx_d sb i1 ey fun u W2 H2 φ2 s2 i2 r2 => ?_
    exact c2_sem i2.sm (r1.mono s2.sW) r2 ez (w W2 H2 φ2 (s1.trans s2) i2)
  refine ⟨tOp (rC2 g.K o) ta tb, tTest (tOp (rC2 g.K o) ta tb), fun X c => ?_, fun ρ σ W H φ o' ρ' Q i e w => ?_, fun ρ σ W H φ b' ρ' Q i e w => ?_, rfl⟩
  · rw [← c.K]
    exact ⟨pe_cmpR (c2_ok (room65 c.room) o) (ha X c).1 (hb X c).1 (behind_of nb), pt_cmpR (c2_ok (room65 c.room) o) (ha X c).1 (hb X c).1 (behind_of nb)⟩
  · have e0 := e
    simp only [evX] at e
    obtain ⟨⟨a, ρ1⟩, ex, e⟩ := Option.bind_eq_some_iff.mp e
    obtain ⟨⟨b, ρ2⟩, ey, e⟩ := Option.bind_eq_some_iff.mp e
    obtain ⟨z, ez, e⟩ := Option.map_eq_some_iff.mp e
    cases e
    exact sem i e0 fun W' H' φ' st i' => w (.bl z) W' H' φ' [] st.nil i' (res_sh (.bl z))
  · exact sem i (at2_some e) fun W' H' φ' st i' => ⟨b', rfl, w W' H' φ' st i'⟩
theorem sndx_nt {x : X} {e : Expr} {p : Pos} (hx : SndX g M G sc e x) : SndX g M G sc (.UnaryOp .Not e p) (.nt x) := by
  obtain ⟨ta, tt, ha, sa, st, na⟩ := hx
  refine ⟨tNotV ta, tNot tt, fun X c => ⟨pe_not (ha X c).1, pt_not (ha X c).2⟩, fun ρ σ W H φ o' ρ' Q i e w => ?_, fun ρ σ W H φ b ρ' Q i e w => ?_, rfl⟩
  · simp only [evX] at e
    obtain ⟨⟨b, ρ1⟩, eb, e⟩ := Option.map_eq_some_iff.mp e
    cases e
    refine sx_d sa i (at2_some eb) fun v W1 H1 φ1 s1 i1 r1 => ?_
    exact ⟨b, rep_bl r1, w _ W1 H1 φ1 [] s1.nil i1 (res_sh (.bl _))⟩
  · have e := at2_some e
    simp only [evX] at e
    obtain ⟨⟨c, ρ1⟩, ec, e⟩ := Option.map_eq_some_iff.mp e
    cases e
    exact sxt_at st i ec fun W' H' φ' st i' => w W' H' φ' st i'
theorem sndx_ife {c x y : X} {t a b : Expr} {p : Pos} (hc : SndX g M G sc t c) (hx : SndX g M G sc a x) (hy : SndX g M G sc b y) : SndX g M G sc (.IfExp t a b p) (.ife c x y) := by
  obtain ⟨tc, tt, hc, s_c, stc, nc⟩ := hc
  obtain ⟨ta, tta, ha, sa, sta, na⟩ := hx
  obtain ⟨tb, ttb, hb, sb, stb, nb⟩ := hy
  refine ⟨tIf tt ta tb, fun σ H Q => tt σ H fun c H1 => if c = true then tta σ H1 Q else ttb σ H1 Q, fun X k => ⟨pe_ifExp (hc X k).2 (ha X k).1 (hb X k).1, ⟨fun pins s σ H Q I h => ?_⟩⟩, fun ρ σ W H φ o' ρ' Q i e w => ?_, fun ρ σ W H φ b ρ' Q i e w => ?_, rfl⟩
  · refine PyProof.Rows.isTrue_IfExp (thn ((hc X k).2.run pins s σ H _ I h) fun d s1 ⟨H1, I1, q1⟩ => ?_)
    cases d with
    | true => exact (ha X k).2.run pins s1 σ H1 Q I1 (by simpa using q1)
    | false => exact (hb X k).2.run pins s1 σ H1 Q I1 (by simpa using q1)
  · simp only [evX] at e
    obtain ⟨⟨d, ρ1⟩, ed, e⟩ := Option.bind_eq_some_iff.mp e
    refine sxt_at stc i ed fun W1 H1 φ1 s1 i1 => ?_
    cases d with
    | true => exact iteT (sa ρ1 σ W1 H1 φ1 o' ρ' Q i1 (by simpa using e) fun v W' H' φ' T s' => w v W' H' φ' T (s1.trans s'))
    | false => exact iteF (sb ρ1 σ W1 H1 φ1 o' ρ' Q i1 (by simpa using e) fun v W' H' φ' T s' => w v W' H' φ' T (s1.trans s'))
  · have e := at2_some e
    simp only [evX] at e
    obtain ⟨⟨d, ρ1⟩, ed, e⟩ := Option.bind_eq_some_iff.mp e
    refine sxt_at stc i ed fun W1 H1 φ1 s1 i1 => ?_
    cases d with
    | true => exact iteT (sxt_at sta i1 (by simp at e; rw [e]; rfl) fun W2 H2 φ2 s2 => w W2 H2 φ2 (s1.trans s2))
    | false => exact iteF (sxt_at stb i1 (by simp at e; rw [e]; rfl) fun W2 H2 φ2 s2 => w W2 H2 φ2 (s1.trans s2))
theorem sndx_bi {f : Bi} {xs : Xs} {e : Expr} {es : List Expr} {p pos : Pos} (F : Factx g M G) (h : SndXs g M G sc (e :: es) xs) (hb : M.m.blt sc f.name = true) : SndX g M G sc (.Call (.Name f.name p) (e :: es) [] pos) (.bi f xs) := by
  obtain ⟨ta, ha, sa⟩ := h.pa
  have hx := h.nice e List.mem_cons_self
  have hxs : ∀ a ∈ es, niceB a = true := fun a he => h.nice a (List.mem_cons_of_mem _ he)
  refine .of (t := tCB (rBi g.K f) ta) (fun X c => ?_) (fun ρ σ W H φ o' ρ' Q i e w => ?_) rfl rfl
  · obtain ⟨h1, h2⟩ := c.blt F.F hb
    rw [← c.K]
    exact pe_bi f (bi_ok c.calm f) h1 h2 (ha X c) (star_of hx) (star_any hxs)
  · simp only [evX] at e
    obtain ⟨⟨os, ρ1⟩, ed, e⟩ := Option.bind_eq_some_iff.mp e
    obtain ⟨r, er, e⟩ := Option.map_eq_some_iff.mp e
    cases e
    refine sxa_d sa i ed fun vs W1 H1 φ1 s1 i1 r1 => ?_
    exact bi_sem i1.sm r1 er (wantx i1 s1 w)
theorem sndx_ix {x y : X} {a b : Expr} {p : Pos} (hx : SndX g M G sc a x) (hy : SndX g M G sc b y) : SndX g M G sc (.Subscript a b p) (.ix x y) := by
  obtain ⟨ta, _, ha, sa, _, na⟩ := hx
  obtain ⟨tb, _, hb, sb, _, nb⟩ := hy
  refine .of (t := tOp (rIxA g.K) ta tb) (fun X c => by rw [← c.K]; exact pe_ix (ix_ok (room1 c.room)) (ha X c).1 (hb X c).1 (plainIx_of nb)) (fun ρ σ W H φ o' ρ' Q i e w => ?_) rfl rfl
  simp only [evX] at e
  obtain ⟨⟨oa, ρ1⟩, ex, e⟩ := Option.bind_eq_some_iff.mp e
  obtain ⟨⟨ob, ρ2⟩, ey, e⟩ := Option.bind_eq_some_iff.mp e
  obtain ⟨d, ed, e⟩ := Option.map_eq_some_iff.mp e
  cases e
  refine sx_d sa i ex fun v W1 H1 φ1 s1 i1 r1 => ?_
  refine sx_d sb i1 ey fun u W2 H2 φ2 s2 i2 r2 => ?_
  exact ix_sem i2.sm (r1.mono s2.sW) r2 ed fun z hz => w z W2 H2 φ2 [] (s1.trans s2).nil i2 (res_sh hz)
def SndXo (g : GG) (M : Nx) (G : Cy) (sc : Scope) (e : Option Expr) (x : Xo) : Prop :=
  ∃ t : TO, (∀ X, Ctx g M.m sc X → PO X e t) ∧ ∀ ρ σ W H φ o ρ' (Q : Option Int → Hp → Prop), InvO g.K W H ρ σ φ → evXo G x ρ = some (o, ρ') → (∀ W' H' φ', Stp W H (Fp φ) W' H' (Fp φ') → InvO g.K W' H' ρ' σ φ' → Q o H') → t σ H Q
theorem sndxo_no : SndXo g M G sc none .no :=
  ⟨tNoPart, fun X c => po_none, fun ρ σ W H φ o ρ' Q i e w => by simp only [evXo] at e; cases e; exact w W H φ Stp.refl i⟩
theorem sndxo_so {e : Expr} {x : X} (hx : SndX g M G sc e x) : SndXo g M G sc (some e) (.so x) := by
  obtain ⟨ta, _, ha, sa, _, na⟩ := hx
  refine ⟨tPart ta, fun X c => po_some (ha X c).1, fun ρ σ W H φ o ρ' Q i e w => ?_⟩
  simp only [evXo] at e
  obtain ⟨⟨oa, ρ1⟩, ex, e⟩ := Option.bind_eq_some_iff.mp e
  split at e <;> cases e
  rename_i k hi
  refine sx_d sa i ex fun v W1 H1 φ1 s1 i1 r1 => ?_
  rw [hi] at r1
  exact ⟨k, rep_int r1, w W1 H1 φ1 s1 i1⟩
theorem sndx_sl {x : X} {lo hi : Xo} {a : Expr} {l h : Option Expr} {p p2 : Pos} (hx : SndX g M G sc a x) (hl : SndXo g M G sc l lo) (hh : SndXo g M G sc h hi) : SndX g M G sc (.Subscript a (.Slice l h none p2) p) (.sl x lo hi) := by
  obtain ⟨ta, _, ha, sa, _, na⟩ := hx
  obtain ⟨tl, hl, s_l⟩ := hl
  obtain ⟨th, hh, s_h⟩ := hh
  refine .of (t := tSl (rSlA g.K) ta tl th) (fun X c => by rw [← c.K]; exact pe_slice sl_ok (ha X c).1 (hl X c) (hh X c)) (fun ρ σ W H φ o' ρ' Q i e w => ?_) rfl rfl
  simp only [evX] at e
  obtain ⟨⟨oa, ρ1⟩, ex, e⟩ := Option.bind_eq_some_iff.mp e
  obtain ⟨⟨j, ρ2⟩, ei, e⟩ := Option.bind_eq_some_iff.mp e
  obtain ⟨⟨k, ρ3⟩, ej, e⟩ := Option.bind_eq_some_iff.mp e
  obtain ⟨r, er, e⟩ := Option.map_eq_some_iff.mp e
  cases e
  refine sx_d sa i ex fun v W1 H1 φ1 s1 i1 r1 => ?_
  refine s_l ρ1 σ W1 H1 φ1 j _ _ i1 ei fun W2 H2 φ2 s2 i2 => ?_
  refine s_h ρ2 σ W2 H2 φ2 k _ _ i2 ej fun W3 H3 φ3 s3 i3 => ?_
  exact sl_sem i3.sm ((r1.mono s2.sW).mono s3.sW) er (wantx i3 ((s1.trans s2).trans s3) w)
/-- a component of an owned thing -/
theorem RepOL.split {W H : Hp} : ∀ {F : List Addr} {vs : List V} {os : List O} {k : Nat} {o : O}, RepOL K W H F vs os → os[k]? = some o → ∃ F1 F2 F3 v, F = F1 ++ (F2 ++ F3) ∧ vs[k]? = some v ∧ RepO K W H F2 v o ∧ RepOL K W H (F1 ++ F3) (vs.eraseIdx k) (os.eraseIdx k) ∧
    ∀ F' v' o', RepO K W H F' v' o' → RepOL K W H (F1 ++ (F' ++ F3)) (vs.set k v') (os.set k o')
  | _, _, _, _, _, .nil, e => by simp at e
  | _, _, _, 0, _, .cons (F := F) (F' := F') h r, e => by
    simp at e; subst e
    exact ⟨[], F, F', _, rfl, rfl, h, r, fun F2 v' o' h' => by simpa using RepOL.cons h' r⟩
  | _, _, _, k + 1, _, .cons (F := F) (F' := F') h r, e => by
    obtain ⟨F1, F2, F3, v, rfl, hv, ho, hr, hs⟩ := RepOL.split (k := k) r (by simpa using e)
    refine ⟨F ++ F1, F2, F3, v, by simp, by simpa using hv, ho, ?_, fun F2' v' o' h' => ?_⟩
    · rw [List.append_assoc]; exact .cons h hr
    · rw [List.append_assoc]; exact .cons h (hs F2' v' o' h')
theorem ResO.part {W H : Hp} {F : Addr → Prop} {T F1 F2 F3 : List Addr} {v v' : V} {o o' : O} (r : ResO K W H F T v o) (e : ∀ a ∈ F2, a ∈ T) (n : F2.Nodup) (h : RepO K W H F2 v' o') : ResO K W H F F2 v' o' :=
  ⟨h, n, fun a ha => r.dis a (e a ha), fun a ha => r.sep a (e a ha)⟩
theorem atI_natC {α : Type} {xs : List α} {k : Nat} {x : α} (h : xs[k]? = some x) : L2.atI xs (k : Int) = some x := by
  unfold L2.atI ixN
  have hl : k < xs.length := (List.getElem?_eq_some_iff.mp h).1
  rw [if_pos (by omega), if_pos (by omega)]
  simpa using h
theorem sndx_ixo {x : X} {k : Nat} {a : Expr} {j : Nat} {p pos : Pos} (hx : SndX g M G sc a x) : SndX g M G sc (.Subscript a (.Constant (.int (k : Int)) j p) pos) (.ixo x k) := by
  obtain ⟨ta, _, ha, sa, _, na⟩ := hx
  refine .of (t := tOp (rIxA g.K) ta (tC (.int (k : Int)))) (fun X c => by rw [← c.K]; exact pe_ix (ix_ok (room1 c.room)) (ha X c).1 pe_int (plainIx_of rfl)) (fun ρ σ W H φ o' ρ' Q i e w => ?_) rfl rfl
  simp only [evX] at e
  obtain ⟨⟨oa, ρ1⟩, ex, e⟩ := Option.bind_eq_some_iff.mp e
  refine sa ρ σ W H φ oa ρ1 _ i ex fun v W1 H1 φ1 T s1 i1 r1 => ?_
  show rIxA g.K v (.int (k : Int)) H1 Q
  have fin : ∀ {F1 F2 F3 : List Addr} {v' : V}, (∀ a ∈ F1 ++ (F2 ++ F3), a ∈ T) → (F1 ++ (F2 ++ F3)).Nodup → RepO g.K W1 H1 F2 v' o' → ρ' = ρ1 → Q v' H1 := fun {F1 F2 F3 v'} h1 h2 h3 h4 => by
    subst h4
    have n2 : F2.Nodup := (List.nodup_append.mp (List.nodup_append.mp h2).2.1).1
    exact w v' W1 H1 φ1 F2 (s1.weak fun a z => z.elim .inl fun z => .inr (h1 a (by simp [z]))) i1 (r1.part (F1 := F1) (F3 := F3) (fun a ha => h1 a (by simp [ha])) n2 h3)
  obtain ⟨rep, nd, dis, sep⟩ := r1
  cases rep with
  | sh r =>
    simp only at e
    obtain ⟨d, ed, e⟩ := Option.map_eq_some_iff.mp e
    cases e
    exact ix_sem i1.sm r (.int _) ed fun z hz => w z W1 H1 φ1 [] (s1.weak fun a z => z.elim .inl fun q => (by cases q)) i1 (res_sh hz)
  | ol h l r =>
    simp only at e
    obtain ⟨z, ez, e⟩ := Option.map_eq_some_iff.mp e
    cases e
    obtain ⟨F1, F2, F3, v', rfl, hv, ho, _⟩ := r.split ez
    exact .inl ⟨_, _, _, v', rfl, rfl, .of h, atI_natC hv, fin (fun a ha => List.mem_cons_of_mem _ ha) (List.nodup_cons.mp nd).2 ho rfl⟩
  | ot h r =>
    simp only at e
    obtain ⟨z, ez, e⟩ := Option.map_eq_some_iff.mp e
    cases e
    obtain ⟨F1, F2, F3, v', rfl, hv, ho, _⟩ := r.split ez
    exact .inr (.inl ⟨_, _, _, v', rfl, rfl, .of (i1.sm _ _ h), atI_natC hv, fin (fun a ha => ha) nd ho rfl⟩)
  | oK _ _ _ _ => simp at e
  | oT _ _ _ _ => simp at e
theorem sndx_ixv {y : X} {k : Nat} {x : Str} {b : Expr} {p pos : Pos} (hy : SndX g M G sc b y) (h1 : M.m.N[k]? = some x) (h2 : visB sc x = true) (h3 : (x == ("__debug__" : Str)) = false) (h4 : (x == ("__classdict__" : Str)) = false) : SndX g M G sc (.Subscript (.Name x p) b pos) (.ixv k y) := by
  obtain ⟨tb, _, hb, sb, _, nb⟩ := hy
  refine .of (t := tOp (rIxA g.K) (tVar k) tb) (fun X c => by rw [← c.K]; exact pe_ix (ix_ok (room1 c.room)) (pe_var (by rw [c.N]; exact h1) (by rw [c.scope]; exact vis_of h2) h3 h4) (hb X c).1 (plainIx_of nb)) (fun ρ σ W H φ o' ρ' Q i e w => ?_) rfl rfl
  simp only [evX] at e
  split at e <;> try (cases e; done)
  rename_i o0 ho0
  obtain ⟨v0, hv0, _⟩ := i.rep k o0 ho0
  obtain ⟨⟨ob, ρ1⟩, ey, e⟩ := Option.bind_eq_some_iff.mp e
  split at e <;> try (cases e; done)
  rename_i o ho
  obtain ⟨d, ed, e⟩ := Option.bind_eq_some_iff.mp e
  split at e
  case isFalse => cases e
  rename_i hf
  cases e
  refine ⟨v0, hv0, ?_⟩
  refine sx_d sb i ey fun u W1 H1 φ1 s1 i1 r1 => ?_
  obtain ⟨v, hv, rp⟩ := i1.rep k o ho
  rw [hv0] at hv
  cases hv
  have hS : ∀ a, Fp φ1 a → W1 a = none := fun a ⟨j, hj⟩ => i1.dis j a hj
  have sm := ovl_sub (S := Fp φ1) i1.sm fun _ h => i1.own h
  refine ix_sem sm (rp.frz hS fun a ha => ⟨k, ha⟩) (r1.mono (ovl_same hS)) ed fun z hz => ?_
  have bk := i1.back (Grow.refl sm)
  exact w z _ H1 φ1 [] (s1.trans (Grow.stp bk.1)).nil (i1.grow bk.1) (res_sh (bk.2.1 z d hz hf))
end
end KP
/-! KPr: .. pop, calls, comprehensions. -/
namespace KP
open PySem L2

section
variable {g : GG} {M : Nx} {G : Cy} {sc : Scope} {K : PySem.W.Frag}
/-- a slot's own list changes: a component goes out -/
theorem InvO.take {W H : Hp} {ρ : So} {σ : L2.St} {φ : Nat → List Addr} (i : InvO K W H ρ σ φ) {k : Nat} {os os' : List O} {v : V} (hk : ρ[k]? = some (some (.ol os))) (hv : σ[k]? = some (some v)) {a : Addr} {F F' T : List Addr} {vs vs' : List V}
    (ea : v = .ref a) (eF : φ k = a :: F) (hH : H a = some (.lst vs)) (hsub : ∀ b, b ∈ F' ∨ b ∈ T → b ∈ F) (nF : F'.Nodup) (dj : ∀ b ∈ T, b ∉ F') (rep : RepOL K W H F' vs' os') (hl : os'.length ≤ LIM) :
    Stp W H (Fp φ) W (upd H a (.lst vs')) (OKs (Fp (fun j => if j = k then a :: F' else φ j)) T) ∧ InvO K W (upd H a (.lst vs')) (ρ.set k (some (.ol os'))) σ (fun j => if j = k then a :: F' else φ j) ∧ (∀ b ∈ T, b ≠ a ∧ W b = none ∧ ¬ Fp (fun j => if j = k then a :: F' else φ j) b) := by
  have hak : a ∈ φ k := by rw [eF]; exact List.mem_cons_self
  have nd := i.nd k
  rw [eF] at nd
  have naF : a ∉ F := (List.nodup_cons.mp nd).1
  have inF : ∀ b ∈ F, b ∈ φ k := fun b hb => by rw [eF]; exact List.mem_cons_of_mem _ hb
  have hne : ∀ b, b ∈ F' ∨ b ∈ T → b ≠ a := fun b hb z => naF (z ▸ hsub b hb)
  have sm : Sub W (upd H a (.lst vs')) := i.sm.wr (i.dis k a hak) hH
  refine ⟨⟨Same.refl _, fun b u e n _ => ?_, fun b z => ?_, fun b u e => .inl e, tt_upd hH, t_upd hH⟩, ?_, fun b hb => ⟨hne b (.inr hb), i.dis k b (inF b (hsub b (.inr hb))), fun z => ?_⟩⟩
  · rw [upd_ne fun z => n ⟨k, by rw [z]; exact hak⟩]; exact e
  · rcases z with z | z
    · rcases fp_change z with z | ⟨j, _, z⟩
      · rcases List.mem_cons.mp z with rfl | z
        · exact .inl ⟨k, hak⟩
        · exact .inl ⟨k, inF b (hsub b (.inl z))⟩
      · exact .inl ⟨j, z⟩
    · exact .inl ⟨k, inF b (hsub b (.inr z))⟩
  · refine i.change (v' := v) (Same.refl _) sm (fun j hj b hb => ⟨fun u e => ?_, i.dis j b hb⟩) (fun _ _ => rfl) rfl (fun _ => hv) ?_ (List.nodup_cons.mpr ⟨fun z => naF (hsub a (.inl z)), nF⟩) (fun b hb => ?_) (fun b hb j hj z => ?_) (List.getElem?_eq_some_iff.mp hk).1
    · rw [upd_ne fun z => hj (i.sep j k a (by rw [← z]; exact hb) hak)]; exact e
    · rw [ea]
      exact .ol upd_same hl (rep.mono (Same.refl _) fun b hb u e => by rw [upd_ne (hne b (.inl hb))]; exact e)
    · rcases List.mem_cons.mp hb with rfl | hb
      · exact i.dis k _ hak
      · exact i.dis k b (inF b (hsub b (.inl hb)))
    · rcases List.mem_cons.mp hb with rfl | hb
      · exact hj (i.sep j k _ z hak)
      · exact hj (i.sep j k b z (inF b (hsub b (.inl hb))))
  · rcases fp_change z with z | ⟨j, hj, z⟩
    · rcases List.mem_cons.mp z with rfl | z
      · exact hne _ (.inr hb) rfl
      · exact dj b hb z
    · exact hj (i.sep j k b z (inF b (hsub b (.inr hb))))
theorem ol_inv {W H : Hp} {F : List Addr} {v : V} {os : List O} (r : RepO K W H F v (.ol os)) : ∃ a F' vs, v = .ref a ∧ F = a :: F' ∧ H a = some (.lst vs) ∧ os.length ≤ LIM ∧ RepOL K W H F' vs os := by
  cases r with | ol h l r => exact ⟨_, _, _, rfl, rfl, h, l, r⟩
theorem sndx_pop {y : X} {k : Nat} {x : Str} {b : Expr} {p ap cp : Pos} (hy : SndX g M G sc b y) (hl : (ap.endLine == cp.line) = true) (h1 : M.m.N[k]? = some x) (h2 : visB sc x = true) (h3 : (x == ("__debug__" : Str)) = false) (h4 : (x == ("__classdict__" : Str)) = false) :
    SndX g M G sc (.Call (.Attribute (.Name x p) "pop" ap) [b] [] cp) (.pop k y) := by
  obtain ⟨tb, _, hb, sb, _, nb⟩ := hy
  refine .of (t := tBM g.K "list" rPopAt (tVar k) (tCons tb tNil)) (fun X c => ?_) (fun ρ σ W H φ o' ρ' Q i e w => ?_) rfl rfl
  · rw [← c.K]
    exact pe_bm PySem.F.plainAttrs_list PySem.F.slot_list_pop PySem.F.type_list_pop mt_popAt (pe_var (by rw [c.N]; exact h1) (by rw [c.scope]; exact vis_of h2) h3 h4) (pa_cons (hb X c).1 pa_nil (star_of nb)) rfl (few_of (by simpa using nb) (by simp)) hl (star_of nb) rfl
  · simp only [evX] at e
    split at e <;> try (cases e; done)
    rename_i os0 ho0
    obtain ⟨v, hv, rp0⟩ := i.rep k _ ho0
    obtain ⟨a, F0, vs0, rfl, _, hH0, _, _⟩ := ol_inv rp0
    obtain ⟨⟨ob, ρ1⟩, ey, e⟩ := Option.bind_eq_some_iff.mp e
    split at e <;> try (cases e; done)
    rename_i z os hz ho
    obtain ⟨j, hj, e⟩ := Option.bind_eq_some_iff.mp e
    obtain ⟨o1, hoj, e⟩ := Option.map_eq_some_iff.mp e
    cases e
    refine ⟨_, hv, .inl ⟨rfl, _, .of hH0⟩, ?_⟩
    refine sx_d sb i ey fun u W1 H1 φ1 s1 i1 r1 => ?_
    have hz' : ob.d = .int z := hz
    rw [hz'] at r1
    obtain ⟨v1, hv1, rp⟩ := i1.rep k _ ho
    rw [hv] at hv1
    cases hv1
    obtain ⟨a', F, vs, ea, eF, hH, hlen, rr⟩ := ol_inv rp
    cases ea
    obtain ⟨F1, F2, F3, vj, rfl, hvj, hoj', hrest, _⟩ := rr.split hoj
    have hix := ixN_seq hj
    have hlv := rr.length
    have nd := i1.nd k
    rw [eF] at nd
    have nd' := (List.nodup_cons.mp nd).2
    obtain ⟨n1, n23, d1⟩ := List.nodup_append.mp nd'
    obtain ⟨n2, n3, d2⟩ := List.nodup_append.mp n23
    obtain ⟨st, i2, hT⟩ := i1.take (T := F2) ho hv rfl eF hH (F' := F1 ++ F3) (vs' := vs.eraseIdx j) (os' := os.eraseIdx j) (fun b hb => by
        rcases hb with hb | hb
        · rcases List.mem_append.mp hb with q | q <;> simp [q]
        · simp [hb]) (List.nodup_append.mpr ⟨n1, n3, fun a ha b hb => d1 a ha b (List.mem_append_right _ hb)⟩) (fun b hb z => by
        rcases List.mem_append.mp z with q | q
        · exact d1 b q b (List.mem_append_left _ hb) rfl
        · exact d2 b hb b q rfl) hrest (by have := List.length_eraseIdx_le os j; omega)
    have h5 : os.length ≤ 100000 := hlen
    refine ⟨a, vs, z, j, vj, rfl, by rw [rep_int r1], hH, by omega, by omega, by rw [hlv]; exact hix.1, hvj, ?_⟩
    exact w vj W1 _ _ F2 (s1.trans st) i2 ⟨hoj'.mono (Same.refl _) fun b hb u e => by rw [upd_ne (hT b hb).1]; exact e, n2, fun b hb => (hT b hb).2.1, fun b hb => (hT b hb).2.2⟩
theorem sndx_pop0 {k : Nat} {x : Str} {p ap cp : Pos} (hl : (ap.endLine == cp.line) = true) (h1 : M.m.N[k]? = some x) (h2 : visB sc x = true) (h3 : (x == ("__debug__" : Str)) = false) (h4 : (x == ("__classdict__" : Str)) = false) :
    SndX g M G sc (.Call (.Attribute (.Name x p) "pop" ap) [] [] cp) (.pop0 k) := by
  refine .of (t := tBM0 g.K "list" rPop (tVar k)) (fun X c => ?_) (fun ρ σ W H φ o' ρ' Q i e w => ?_) rfl rfl
  · rw [← c.K]
    exact pe_bm0 PySem.F.plainAttrs_list PySem.F.slot_list_pop PySem.F.type_list_pop mt_pop (pe_var (by rw [c.N]; exact h1) (by rw [c.scope]; exact vis_of h2) h3 h4) rfl hl
  · simp only [evX] at e
    split at e <;> try (cases e; done)
    rename_i os ho
    obtain ⟨o1, hoj, e⟩ := Option.map_eq_some_iff.mp e
    cases e
    obtain ⟨v, hv, rp⟩ := i.rep k _ ho
    obtain ⟨a, F, vs, rfl, eF, hH, hlen, rr⟩ := ol_inv rp
    obtain ⟨F1, F2, F3, vj, rfl, hvj, hoj', hrest, _⟩ := rr.split hoj
    have hlv := rr.length
    have nd := i.nd k
    rw [eF] at nd
    have nd' := (List.nodup_cons.mp nd).2
    obtain ⟨n1, n23, d1⟩ := List.nodup_append.mp nd'
    obtain ⟨n2, n3, d2⟩ := List.nodup_append.mp n23
    have el : ∀ {α : Type} (l : List α), l.eraseIdx (l.length - 1) = l.dropLast := fun l => by
      exact PyProof.Rows.Copied.eraseIdx_last l
    rw [el os, ← hlv, el vs] at hrest
    obtain ⟨st, i2, hT⟩ := i.take (T := F2) ho hv rfl eF hH (F' := F1 ++ F3) (vs' := vs.dropLast) (os' := os.dropLast) (fun b hb => by
        rcases hb with hb | hb
        · rcases List.mem_append.mp hb with q | q <;> simp [q]
        · simp [hb]) (List.nodup_append.mpr ⟨n1, n3, fun a ha b hb => d1 a ha b (List.mem_append_right _ hb)⟩) (fun b hb z => by
        rcases List.mem_append.mp z with q | q
        · exact d1 b q b (List.mem_append_left _ hb) rfl
        · exact d2 b hb b q rfl) hrest (by rw [List.length_dropLast]; omega)
    refine ⟨_, hv, .inl ⟨rfl, _, .of hH⟩, a, vs, vj, rfl, rfl, hH, by rw [hlv]; exact hvj, ?_⟩
    exact w vj W _ _ F2 st i2 ⟨hoj'.mono (Same.refl _) fun b hb u e => by rw [upd_ne (hT b hb).1]; exact e, n2, fun b hb => (hT b hb).2.1, fun b hb => (hT b hb).2.2⟩

/-! ### calls of defs with own arguments -/
theorem getAll_rep {W H : Hp} {ρ : So} {σ : L2.St} {φ : Nat → List Addr} (i : InvO K W H ρ σ φ) : ∀ {is : List Nat} {ios : List O}, getAll ρ is = some ios → ∃ vis : List V, vis.length = is.length ∧ (∀ (k : Nat) j, is[k]? = some j → ∃ v, vis[k]? = some v ∧ σ[j]? = some (some v)) ∧ RepOL K W H (is.flatMap φ) vis ios
  | [], ios, e => by simp only [getAll] at e; cases e; exact ⟨[], rfl, fun k j h => by simp at h, .nil⟩
  | j :: is, ios, e => by
    simp only [getAll] at e
    split at e <;> try (cases e; done)
    rename_i o ho
    obtain ⟨ios', h1, rfl⟩ := Option.map_eq_some_iff.mp e
    obtain ⟨vis, hl, hs, hr⟩ := getAll_rep i h1
    obtain ⟨v, hv, rp⟩ := i.rep j o ho
    refine ⟨v :: vis, by simp [hl], fun k j' h => ?_, by rw [List.flatMap_cons]; exact .cons rp hr⟩
    cases k with
    | zero => simp at h; subst h; exact ⟨v, rfl, hv⟩
    | succ k => exact hs k j' (by simpa using h)
def tNms (ta : TA) : List Nat → TA
  | [] => ta
  | j :: is => tCons (tVar j) (tNms ta is)
theorem names_pa {X : Cx} (c : Ctx g M.m sc X) {ta : TA} : ∀ {is : List Nat} {es r : List Expr}, namesOk M.m sc is es = some r → PA X r ta → PA X es (tNms ta is)
  | [], es, r, h, hp => by simp only [namesOk] at h; cases h; exact hp
  | j :: is, [], r, h, hp => by simp [namesOk] at h
  | j :: is, e :: es, r, h, hp => by
    unfold namesOk at h
    split at h
    · rename_i h0; cases h0
    · rename_i i' is' x p es' e1 e2
      cases e1; cases e2
      split at h <;> try (cases h; done)
      rename_i hc
      simp only [Bool.and_eq_true, decide_eq_true_eq, Bool.not_eq_true'] at hc
      obtain ⟨⟨⟨h1, h2⟩, h3⟩, h4⟩ := hc
      exact pa_cons (pe_var (by rw [c.N]; exact h1) (by rw [c.scope]; exact vis_of h2) h3 h4) (names_pa c h hp) (star_of rfl)
    · cases h
theorem names_sem {ta : TA} : ∀ {is : List Nat} {σ : L2.St} {H : Hp} {vis : List V} {Q : List V → Hp → Prop}, vis.length = is.length → (∀ (k : Nat) j, is[k]? = some j → ∃ v, vis[k]? = some v ∧ σ[j]? = some (some v)) → ta σ H (fun vs H' => Q (vis ++ vs) H') → tNms ta is σ H Q
  | [], σ, H, vis, Q, hl, hs, h => by
    have : vis = [] := List.eq_nil_of_length_eq_zero hl
    subst this; exact h
  | j :: is, σ, H, [], Q, hl, hs, h => by cases hl
  | j :: is, σ, H, v :: vis, Q, hl, hs, h => by
    obtain ⟨v', h1, h2⟩ := hs 0 j rfl
    simp at h1; subst h1
    exact ⟨v, h2, names_sem (Q := fun xs H' => Q (v :: xs) H') (by simpa using hl) (fun k j' e => hs (k + 1) j' (by simpa using e)) h⟩
theorem names_len {M : Nm} : ∀ {is : List Nat} {es r : List Expr}, namesOk M sc is es = some r → es.length = is.length + r.length ∧ ((∀ e ∈ r, niceB e = true) → ∀ e ∈ es, niceB e = true)
  | [], es, r, h => by simp only [namesOk] at h; cases h; exact ⟨by simp, fun h => h⟩
  | j :: is, [], r, h => by simp [namesOk] at h
  | j :: is, e :: es, r, h => by
    unfold namesOk at h
    split at h
    · rename_i h0; cases h0
    · rename_i i' is' x p es' e1 e2
      cases e1; cases e2
      split at h <;> try (cases h; done)
      obtain ⟨h1, h2⟩ := names_len h
      refine ⟨by simp [h1]; omega, fun hr e he => ?_⟩
      rcases List.mem_cons.mp he with rfl | he
      · rfl
      · exact h2 hr e he
    · cases h
theorem InvO.unS {W H : Hp} {σ : L2.St} : ∀ (is : List Nat) {ρ : So} {φ : Nat → List Addr}, InvO K W H ρ σ φ → ∃ φ', InvO K W H (KP.unS is ρ) σ φ' ∧ (∀ j, j ∈ is → φ' j = []) ∧ ∀ j, j ∉ is → φ' j = φ j
  | [], ρ, φ, i => ⟨φ, i, fun j h => (by cases h), fun j _ => rfl⟩
  | k :: is, ρ, φ, i => by
    obtain ⟨φ', i', h1, h2⟩ := InvO.unS is (i.drop k)
    refine ⟨φ', i', fun j hj => ?_, fun j hj => ?_⟩
    · by_cases q : j ∈ is
      · exact h1 j q
      · rw [h2 j q, if_pos ((List.mem_cons.mp hj).resolve_right q)]
    · rw [h2 j fun z => hj (List.mem_cons_of_mem _ z), if_neg fun z => hj (by rw [z]; exact List.mem_cons_self)]
theorem InvO.move {W H W' H' : Hp} {ρ : So} {σ : L2.St} {φ : Nat → List Addr} (i : InvO K W H ρ σ φ) (sW : Same W W') (sm : Sub W' H') (hk : ∀ a, Fp φ a → (∀ u, H a = some u → H' a = some u) ∧ W' a = none) : InvO K W' H' ρ σ φ :=
  ⟨i.len, fun k o e => let ⟨v, h1, h2⟩ := i.rep k o e; ⟨v, h1, h2.mono sW fun a ha => (hk a ⟨k, ha⟩).1⟩, i.emp, fun k a ha => (hk a ⟨k, ha⟩).2, i.sep, i.nd, sm⟩
theorem unS_length : ∀ (is : List Nat) (ρ : So), (KP.unS is ρ).length = ρ.length
  | [], ρ => rfl
  | k :: is, ρ => by
    show (KP.unS is (ρ.set k none)).length = _
    rw [unS_length is]; simp
/-- own arguments come back into their slots -/
theorem InvO.setAll {W H : Hp} {σ : L2.St} : ∀ {is : List Nat} {os : List O} {vis : List V} {F : List Addr} {ρ : So} {φ : Nat → List Addr}, InvO K W H ρ σ φ → (∀ j ∈ is, φ j = [] ∧ j < ρ.length) → is.Nodup → (∀ (k : Nat) j, is[k]? = some j → ∃ v, vis[k]? = some v ∧ σ[j]? = some (some v)) →
    RepOL K W H F vis os → F.Nodup → (∀ a ∈ F, W a = none) → (∀ a ∈ F, ¬ Fp φ a) → ∃ φ', InvO K W H (KP.setAll ρ is os) σ φ' ∧ ∀ a, Fp φ' a → Fp φ a ∨ a ∈ F
  | [], os, vis, F, ρ, φ, i, _, _, _, _, _, _, _ => ⟨φ, by unfold KP.setAll; exact i, fun a h => .inl h⟩
  | j :: is, [], vis, F, ρ, φ, i, _, _, _, _, _, _, _ => ⟨φ, by unfold KP.setAll; exact i, fun a h => .inl h⟩
  | j :: is, o :: os, vis, F, ρ, φ, i, hj, nd, hs, hr, nF, dF, sF => by
    cases hr with | cons h r =>
    rename_i F1 F2 v vs
    obtain ⟨v', e1, e2⟩ := hs 0 j rfl
    simp at e1; subst e1
    obtain ⟨n1, n2, d12⟩ := List.nodup_append.mp nF
    obtain ⟨hjn, hjl⟩ := hj j List.mem_cons_self
    obtain ⟨nj, nis⟩ := List.nodup_cons.mp nd
    have i1 := i.change (k := j) (σ' := σ) (o' := o) (F' := F1) (Same.refl _) i.sm (fun j' _ a ha => ⟨fun u e => e, i.dis j' a ha⟩) (fun _ _ => rfl) rfl (fun _ => e2) h n1 (fun a ha => dF a (List.mem_append_left _ ha)) (fun a ha j' _ z => sF a (List.mem_append_left _ ha) ⟨j', z⟩) hjl
    have hj2 : ∀ j' ∈ is, (fun q => if q = j then F1 else φ q) j' = [] ∧ j' < (ρ.set j (some o)).length := fun j' h' => by
      have hne : j' ≠ j := fun z => nj (z ▸ h')
      obtain ⟨z1, z2⟩ := hj j' (List.mem_cons_of_mem _ h')
      exact ⟨by simp only [if_neg hne]; exact z1, by simpa using z2⟩
    obtain ⟨φ', i2, hF⟩ := InvO.setAll i1 hj2 nis (fun k j' e => hs (k + 1) j' (by simpa using e)) r n2 (fun a ha => dF a (List.mem_append_right _ ha)) (fun a ha z => by
      rcases fp_change z with z | ⟨j', _, z⟩
      · exact d12 a z a ha rfl
      · exact sF a (List.mem_append_right _ ha) ⟨j', z⟩)
    refine ⟨φ', by unfold KP.setAll; exact i2, fun a z => ?_⟩
    rcases hF a z with z | z
    · rcases fp_change z with z | ⟨j', _, z⟩
      · exact .inr (List.mem_append_left _ z)
      · exact .inl ⟨j', z⟩
    · exact .inr (List.mem_append_right _ z)
theorem getAll_len {ρ : So} : ∀ {is : List Nat} {os : List O}, getAll ρ is = some os → ∀ j ∈ is, j < ρ.length
  | [], _, _, j, h => by cases h
  | k :: is, os, e, j, h => by
    simp only [getAll] at e
    split at e <;> try (cases e; done)
    rename_i o ho
    obtain ⟨os', h1, _⟩ := Option.map_eq_some_iff.mp e
    rcases List.mem_cons.mp h with rfl | h
    · exact (List.getElem?_eq_some_iff.mp ho).1
    · exact getAll_len h1 j h
theorem sndx_io {j : Nat} {is : List Nat} {xs : Xs} {n : Str} {e0 : Expr} {es r : List Expr} {p pos : Pos} (F : Factx g M G) (h2 : glB sc n = true) (h3 : (n == ("__debug__" : Str)) = false) (hnd : is.Nodup) (hn : namesOk M.m sc is (e0 :: es) = some r) (hs : SndXs g M G sc r xs)
    (h1 : M.fx[j]? = some (n, is.length, r.length)) : SndX g M G sc (.Call (.Name n p) (e0 :: es) [] pos) (.io j is xs) := by
  obtain ⟨ta, ha, sa⟩ := hs.pa
  obtain ⟨hlen, hnice⟩ := names_len hn
  have hnice := hnice hs.nice
  cases hf : G.fx[j]? with
  | none =>
    exact .of (t := fun _ _ _ => False) (fun X c => ⟨fun _ _ _ _ _ _ z => z.elim⟩) (fun ρ σ W H φ o ρ' Q i e w => by
      simp only [evX, hf] at e
      obtain ⟨_, _, e⟩ := Option.bind_eq_some_iff.mp e
      obtain ⟨_, _, e⟩ := Option.bind_eq_some_iff.mp e
      obtain ⟨_, _, e⟩ := Option.bind_eq_some_iff.mp e
      cases e) rfl rfl
  | some f =>
    obtain ⟨a, fd, ps, hm, hk, hb, ok⟩ := (F.fx j n _ _ f h1 hf).ex
    refine .of (t := tCall (spF g.K is.length r.length f) [] E0 (tNms ta is)) (fun X c => ?_) (fun ρ σ W H φ o ρ' Q i e w => ?_) rfl rfl
    · exact pe_call (c.fnOk ok) c.room (c.gl h2) (by rw [c.mg]; exact hm) (by rw [c.K]; exact hk) (by rw [c.K]; exact hb) .nil passL (names_pa c hn (ha X c)) h3 (star_of (hnice e0 List.mem_cons_self)) (star_any fun e he => hnice e (List.mem_cons_of_mem _ he))
    · simp only [evX, hf] at e
      obtain ⟨ios0, eg0, e⟩ := Option.bind_eq_some_iff.mp e
      obtain ⟨⟨os, ρ1⟩, ex, e⟩ := Option.bind_eq_some_iff.mp e
      obtain ⟨ios, eg, e⟩ := Option.bind_eq_some_iff.mp e
      obtain ⟨⟨q, os'⟩, ef, e⟩ := Option.bind_eq_some_iff.mp e
      split at e <;> try (cases e; done)
      rename_i hl
      cases e
      obtain ⟨vis, hvl, hvs, _⟩ := getAll_rep i eg0
      show tNms ta is σ H fun vs H1 => spF g.K is.length r.length f (vs ++ []) H1 Q E0
      refine names_sem hvl hvs ?_
      refine sxa_d sa i ex fun vs W1 H1 φ1 s1 i1 r1 => ?_
      obtain ⟨vis', hvl', hvs', hr⟩ := getAll_rep i1 eg
      have hvv : vis' = vis := by
        apply List.ext_getElem?
        intro k
        cases hk' : is[k]? with
        | none =>
          rw [List.getElem?_eq_none_iff] at hk'
          rw [List.getElem?_eq_none (by omega), List.getElem?_eq_none (by omega)]
        | some j' =>
          obtain ⟨v1, e1, e2⟩ := hvs k j' hk'
          obtain ⟨v2, e3, e4⟩ := hvs' k j' hk'
          rw [e2] at e4
          cases e4
          rw [e1, e3]
      subst hvv
      have hlr : vs.length = r.length := by
        rw [r1.length, O.dL_eq, List.length_map]; exact hs.len ρ _ ex
      rw [List.append_nil]
      have htake : (vis' ++ vs).take is.length = vis' := by rw [← hvl']; exact List.take_left
      have hdrop : (vis' ++ vs).drop is.length = vs := by rw [← hvl']; exact List.drop_left
      have flat : ∀ b, b ∈ is.flatMap φ1 → ∃ j' ∈ is, b ∈ φ1 j' := fun b hb => List.mem_flatMap.mp hb
      have ndF : ∀ {l : List Nat}, l.Nodup → (l.flatMap φ1).Nodup := fun {l} => by
        induction l with
        | nil => intro _; simp
        | cons x l ih =>
          intro h
          obtain ⟨a1, a2⟩ := List.nodup_cons.mp h
          rw [List.flatMap_cons]
          refine List.nodup_append.mpr ⟨i1.nd x, ih a2, fun b hb c hc z => ?_⟩
          subst z
          obtain ⟨y, hy, hb2⟩ := List.mem_flatMap.mp hc
          exact a1 ((i1.sep x y b hb hb2) ▸ hy)
      refine ⟨by rw [List.length_append, hvl', hlr], W1, is.flatMap φ1, ios, O.dL os, _, os', i1.sm, by rw [htake]; exact hr, ndF hnd, fun b hb => ?_, by rw [hdrop]; exact r1, ef, hl, ?_⟩
      · obtain ⟨j', _, hb'⟩ := flat b hb
        exact i1.dis j' b hb'
      · intro v W' H' F' T st sm' rl rv nd' dis'
        rw [htake] at rl
        obtain ⟨nF', nT, dFT⟩ := List.nodup_append.mp nd'
        obtain ⟨φ2, i2, hz, hnz⟩ := i1.unS is
        have φ2sub : ∀ b, Fp φ2 b → ∃ j', j' ∉ is ∧ b ∈ φ1 j' := fun b ⟨j', hb⟩ => by
          by_cases q : j' ∈ is
          · rw [hz j' q] at hb; cases hb
          · rw [hnz j' q] at hb; exact ⟨j', q, hb⟩
        have nin : ∀ b, Fp φ2 b → b ∉ is.flatMap φ1 := fun b hb hc => by
          obtain ⟨j', q, hb⟩ := φ2sub b hb
          obtain ⟨j2, q2, hb2⟩ := flat b hc
          exact q ((i1.sep j' j2 b hb hb2) ▸ q2)
        have nouts : ∀ b, Fp φ2 b → ¬ (b ∈ F' ∨ b ∈ T) := fun b hb hc => by
          rcases st.nf b hc with z | z
          · exact nin b hb z
          · obtain ⟨u, hu, _⟩ := i2.own hb
            rw [z] at hu; cases hu
        have i3 : InvO g.K W' H' (KP.unS is ρ1) σ φ2 := i2.move st.sW sm' fun b hb => ⟨fun u e => st.pr b u e (nin b hb) (by obtain ⟨u', h', hm'⟩ := i2.own hb; rw [e] at h'; cases h'; exact mut_nt hm'), by
          cases eW : W' b with
          | none => rfl
          | some u =>
            rcases st.nw b u eW with z | z | z
            · obtain ⟨j', hj'⟩ := hb
              rw [i2.dis j' b hj'] at z; cases z
            · exact absurd z (nin b hb)
            · obtain ⟨u', hu, hm'⟩ := i2.own hb
              exact (z.no hu (mut_no hm')).elim⟩
        obtain ⟨φ3, i4, hF3⟩ := i3.setAll (fun j' hj' => ⟨hz j' hj', by rw [unS_length]; exact getAll_len eg j' hj'⟩) hnd hvs' rl nF' (fun b hb => dis' b (List.mem_append_left _ hb)) (fun b hb z => nouts b z (.inl hb))
        refine w v W' H' φ3 T (s1.trans ⟨st.sW, fun b u e n => st.pr b u e fun z => ?_, fun b z => ?_, fun b u e => ?_, fun b ps e => (st.tt b ps e).imp (fun z => by obtain ⟨j', _, hb⟩ := flat b z; exact ⟨j', hb⟩) id, st.t⟩) i4 ⟨rv, nT, fun b hb => dis' b (List.mem_append_right _ hb), fun b hb z => ?_⟩
        · obtain ⟨j', _, hb⟩ := flat b z
          exact n ⟨j', hb⟩
        · have key : b ∈ F' ∨ b ∈ T → Fp φ1 b ∨ H1 b = none := fun z => by
            rcases st.nf b z with z | z
            · obtain ⟨j', _, hb⟩ := flat b z
              exact .inl ⟨j', hb⟩
            · exact .inr z
          rcases z with z | z
          · rcases hF3 b z with z | z
            · obtain ⟨j', _, hb⟩ := φ2sub b z
              exact .inl ⟨j', hb⟩
            · exact key (.inl z)
          · exact key (.inr z)
        · rcases st.nw b u e with z | z | z
          · exact .inl z
          · obtain ⟨j', _, hb⟩ := flat b z
            exact .inr (.inl ⟨j', hb⟩)
          · exact .inr (.inr z)
        · rcases hF3 b z with z | z
          · exact nouts b z (.inr hb)
          · exact dFT b z b hb rfl
end
end KP
/-! KPs: .. targets for owned things, iterators, comprehensions, the whole. -/
namespace KP
open PySem L2

section
variable {g : GG} {M : Nx} {G : Cy} {sc : Scope} {K : PySem.W.Frag}
/-! ### targets -/
def SGO (K : PySem.W.Frag) (gt : TG) (ids : List Nat) (f : O → So → Option So) : Prop := ∀ v o T σ W H φ ρ ρ' (Q : L2.St → Hp → Prop), InvO K W H ρ σ φ → ResO K W H (Fp φ) T v o → f o ρ = some ρ' →
  (∀ σ' φ', InvO K W H ρ' σ' φ' → (∀ a, Fp φ' a → Fp φ a ∨ a ∈ T) → σ'.length = σ.length → (∀ j, j ∉ ids → σ'[j]? = σ[j]?) → Q σ' H) → gt v σ H Q
def SGOs (K : PySem.W.Frag) (gt : TGs) (ids : List Nat) (f : List O → So → Option So) : Prop := ∀ vs os T σ W H φ ρ ρ' (Q : L2.St → Hp → Prop), InvO K W H ρ σ φ → ResOL K W H (Fp φ) T vs os → f os ρ = some ρ' →
  (∀ σ' φ', InvO K W H ρ' σ' φ' → (∀ a, Fp φ' a → Fp φ a ∨ a ∈ T) → σ'.length = σ.length → (∀ j, j ∉ ids → σ'[j]? = σ[j]?) → Q σ' H) → gt vs σ H Q
theorem InvO.store {W H : Hp} {ρ : So} {σ : L2.St} {φ : Nat → List Addr} {T : List Addr} {v : V} {o : O} (i : InvO K W H ρ σ φ) (r : ResO K W H (Fp φ) T v o) (k : Nat) :
    ∃ φ', InvO K W H (ρ.set k (some o)) (σ.set k (some v)) φ' ∧ ∀ a, Fp φ' a → Fp φ a ∨ a ∈ T := by
  by_cases hk : k < ρ.length
  · refine ⟨_, i.change (σ' := σ.set k (some v)) (v' := v) (Same.refl _) i.sm (fun j _ a ha => ⟨fun u e => e, i.dis j a ha⟩) (fun j hj => List.getElem?_set_ne fun z => hj z.symm) (by simp) (fun h => List.getElem?_set_self h) r.rep r.nd r.dis (fun a ha j _ z => r.sep a ha ⟨j, z⟩) hk, fun a z => ?_⟩
    rcases fp_change z with z | ⟨j, _, z⟩
    · exact .inr z
    · exact .inl ⟨j, z⟩
  · refine ⟨φ, ?_, fun a z => .inl z⟩
    rw [List.set_eq_of_length_le (by omega), List.set_eq_of_length_le (by rw [← i.len]; omega)]
    exact i
theorem tgso_len {ok : Str → Bool} : ∀ {ts : Tgs} {es : List Expr} {os : List O} {ρ ρ' : So}, chkTs M.m ok ts es = true → bindOs ts os ρ = some ρ' → os.length = es.length
  | .nil, [], [], _, _, _, _ => rfl
  | .nil, _ :: _, _, _, _, h, _ => by simp [chkTs] at h
  | .nil, [], _ :: _, _, _, _, e => by simp [bindOs] at e
  | .cons _ _, _, [], _, _, _, e => by simp [bindOs] at e
  | .cons _ _, [], _ :: _, _, _, h, _ => by simp [chkTs] at h
  | .cons t ts, x :: es, d :: ds, ρ, ρ', h, e => by
    simp only [chkTs, Bool.and_eq_true] at h
    simp only [bindOs] at e
    obtain ⟨ρ1, _, e⟩ := Option.bind_eq_some_iff.mp e
    simp [tgso_len h.2 e]
mutual
theorem tgo_ok {ok : Str → Bool} : ∀ (tg : Tg) (e : Expr), chkT M.m ok tg e = true → ∃ gt, (∀ X, Ctx g M.m sc X → OkT X ok → PG X e gt) ∧ SGO g.K gt tg.ids (bindO tg)
  | .nm k, e, h => by
    unfold chkT at h
    split at h <;> try (cases h; done)
    rename_i x p
    simp only [Bool.and_eq_true, decide_eq_true_eq] at h
    refine ⟨gName k, fun X c o => pg_name (by rw [c.N]; exact c.nd) (by rw [c.N]; exact h.1) (o _ h.2).1 (o _ h.2).2, fun v o T σ W H φ ρ ρ' Q i r e q => ?_⟩
    simp only [bindO] at e
    cases e
    obtain ⟨φ', i', hF⟩ := i.store r k
    exact q _ φ' i' hF (by simp) fun j hj => List.getElem?_set_ne (by simp [Tg.ids] at hj; exact fun z => hj z.symm)
  | .tp ts, e, h => by
    unfold chkT at h
    split at h <;> try (cases h; done)
    rename_i es k p
    obtain ⟨gt, hg, sg⟩ := tgso_ok ts es h
    have hl := (tgs_ok (g := g) (sc := sc) ts es h).2
    refine ⟨fun v σ H Q => gTup g.K es.length gt v σ H Q ∨ gUnl g.K es.length gt v σ H Q, fun X c ot => ?_, fun v o T σ W H φ ρ ρ' Q i r e q => ?_⟩
    · obtain ⟨h1, h2⟩ := hl X.env
      rw [← c.K]
      exact PG.or (pg_tup c.calm (hg X c ot) h1 h2) (pg_unl c.calm (hg X c ot) h1 h2)
    · obtain ⟨rep, nd, dis, sep⟩ := r
      cases rep with
      | sh rr =>
        rename_i d
        cases d <;> simp only [bindO] at e <;> try (cases e; done)
        · cases rr with | lst hw l rr =>
          exact .inr ⟨_, _, rfl, .of (i.sm _ _ hw), by rw [rr.length, ← tgso_len h e, List.length_map], sg _ _ [] σ W H φ ρ ρ' Q i ⟨rr.o, List.nodup_nil, by simp, by simp⟩ e fun σ' φ' i' hF => q σ' φ' i' fun a z => .inl ((hF a z).elim id fun z => by cases z)⟩
        · cases rr with | tup hw rr =>
          exact .inl ⟨_, _, rfl, .of (i.sm _ _ hw), by rw [rr.length, ← tgso_len h e, List.length_map], sg _ _ [] σ W H φ ρ ρ' Q i ⟨rr.o, List.nodup_nil, by simp, by simp⟩ e fun σ' φ' i' hF => q σ' φ' i' fun a z => .inl ((hF a z).elim id fun z => by cases z)⟩
      | ol hh l rr =>
        simp only [bindO] at e
        rename_i a F vs os
        exact .inr ⟨_, _, rfl, .of hh, by rw [rr.length, tgso_len h e], sg _ _ F σ W H φ ρ ρ' Q i ⟨rr, (List.nodup_cons.mp nd).2, fun b hb => dis b (List.mem_cons_of_mem _ hb), fun b hb => sep b (List.mem_cons_of_mem _ hb)⟩ e fun σ' φ' i' hF => q σ' φ' i' fun b z => (hF b z).elim .inl fun z => .inr (List.mem_cons_of_mem _ z)⟩
      | ot hw rr =>
        simp only [bindO] at e
        exact .inl ⟨_, _, rfl, .of (i.sm _ _ hw), by rw [rr.length, tgso_len h e], sg _ _ _ σ W H φ ρ ρ' Q i ⟨rr, nd, dis, sep⟩ e q⟩
      | oK _ _ _ _ => simp [bindO] at e
      | oT _ _ _ _ => simp [bindO] at e
theorem tgso_ok {ok : Str → Bool} : ∀ (ts : Tgs) (es : List Expr), chkTs M.m ok ts es = true → ∃ gt, (∀ X, Ctx g M.m sc X → OkT X ok → PGs X es gt) ∧ SGOs g.K gt ts.ids (bindOs ts)
  | .nil, [], h => by
    refine ⟨gNil, fun X c o => pgs_nil, fun vs os T σ W H φ ρ ρ' Q i r e q => ?_⟩
    obtain ⟨rep, nd, dis, sep⟩ := r
    cases rep with
    | nil =>
      simp only [bindOs] at e
      cases e
      exact ⟨rfl, q σ φ i (fun a z => .inl z) rfl fun _ _ => rfl⟩
    | cons _ _ => simp [bindOs] at e
  | .cons t ts, e :: es, h => by
    simp only [chkTs, Bool.and_eq_true] at h
    obtain ⟨g1, h1, s1⟩ := tgo_ok t e h.1
    obtain ⟨g2, h2, s2⟩ := tgso_ok ts es h.2
    have ae : ∀ env, assignEach (e :: es) env = (false, assign e env) :: assignEach es env := fun env => by
      have h0 := h.1
      cases e <;> first | rfl | (cases t <;> simp [chkT] at h0)
    refine ⟨gCons g1 g2, fun X c o => pgs_cons (h1 X c o) (h2 X c o) (by rw [ae]; rfl), fun vs os T σ W H φ ρ ρ' Q i r e q => ?_⟩
    obtain ⟨rep, nd, dis, sep⟩ := r
    cases rep with
    | nil => simp [bindOs] at e
    | cons r rr =>
      rename_i F1 F2 v vs o os
      simp only [bindOs] at e
      obtain ⟨ρ1, e1, e2⟩ := Option.bind_eq_some_iff.mp e
      obtain ⟨n1, n2, d12⟩ := List.nodup_append.mp nd
      refine ⟨_, _, rfl, s1 _ _ F1 σ W H φ ρ ρ1 _ i ⟨r, n1, fun a ha => dis a (List.mem_append_left _ ha), fun a ha => sep a (List.mem_append_left _ ha)⟩ e1 fun σ1 φ1 i1 hF1 l1 k1 => ?_⟩
      refine s2 _ _ F2 σ1 W H φ1 ρ1 ρ' _ i1 ⟨rr, n2, fun a ha => dis a (List.mem_append_right _ ha), fun a ha z => ?_⟩ e2 fun σ2 φ2 i2 hF2 l2 k2 => ?_
      · rcases hF1 a z with z | z
        · exact sep a (List.mem_append_right _ ha) z
        · exact d12 a z a ha rfl
      · refine q σ2 φ2 i2 (fun a z => ?_) (l2.trans l1) fun j hj => ?_
        · rcases hF2 a z with z | z
          · rcases hF1 a z with z | z
            · exact .inl z
            · exact .inr (List.mem_append_left _ z)
          · exact .inr (List.mem_append_right _ z)
        · simp [Tgs.ids] at hj
          rw [k2 j hj.2, k1 j hj.1]
  | .nil, _ :: _, h => by simp [chkTs] at h
  | .cons _ _, [], h => by simp [chkTs] at h
end

/-! ### iterators -/
def SXI (K : PySem.W.Frag) (wi : TI) (f : So → Option (List D × So)) : Prop := ∀ ρ σ W H φ ds ρ' (R : L2.It → Hp → Prop), InvO K W H ρ σ φ → f ρ = some (ds, ρ') →
  (∀ (J : L2.It) W' H' φ', Stp W H (Fp φ) W' H' (Fp φ') → InvO K W' H' ρ' σ φ' → WalkOk K W' J ds → R J H') → wi σ H R
def SndXt (g : GG) (M : Nx) (G : Cy) (sc : Scope) (tg iter : Expr) (x : Xt) : Prop := ∃ wi, (∀ X, Ctx g M.m sc X → PI X tg iter wi) ∧ SXI g.K wi (evXt G x) ∧ ∀ env v, foldedSetIterable iter env v = pure v
theorem sndxt_sq {e tg : Expr} {x : X} (hx : SndX g M G sc e x) : SndXt g M G sc tg e (.sq x) := by
  obtain ⟨ta, _, ha, sa, _, na⟩ := hx
  refine ⟨iSeq g.K ta, fun X c => by rw [← c.K]; exact pi_seq (ha X c).1, fun ρ σ W H φ ds ρ' R i e w => ?_, fun env v => folded_of na v⟩
  simp only [evXt] at e
  obtain ⟨⟨o, ρ1⟩, ex, e⟩ := Option.bind_eq_some_iff.mp e
  obtain ⟨ds', ed, e⟩ := Option.map_eq_some_iff.mp e
  cases e
  refine sx_d sa i ex fun v W1 H1 φ1 s1 i1 r1 => ?_
  have ed : itemsD o.d = some ds := ed
  generalize o.d = d at ed r1
  cases d <;> simp only [itemsD] at ed <;> try (cases ed; done)
  · cases ed
    cases r1 with | lst hw l rr =>
    exact ⟨_, rfl, .inl ⟨⟨_, .of (i1.sm _ _ hw)⟩, w _ W1 H1 φ1 s1 i1 (walk_l (.of hw) l rr)⟩⟩
  · split at ed <;> try (cases ed; done)
    rename_i hl
    cases ed
    cases r1 with | tup hw rr =>
    exact ⟨_, rfl, .inr ⟨⟨_, .of (i1.sm _ _ hw)⟩, w _ W1 H1 φ1 s1 i1 (walk_t (.of hw) hl rr)⟩⟩
  · cases ed
    cases r1 with | scr hw l =>
    exact ⟨_, rfl, .inl ⟨⟨_, i1.sm.seq hw⟩, w _ W1 H1 φ1 s1 i1 (walk_l hw (by simpa using l) (RepL.ints _))⟩⟩
theorem sndxt_r1 {e tg : Expr} {x : X} {n : Str} {p pos : Pos} (F : Factx g M G) (hx : SndX g M G sc e x) (h1 : n = "range") (h2 : M.m.blt sc n = true) : SndXt g M G sc tg (.Call (.Name n p) [e] [] pos) (.r1 x) := by
  subst h1
  obtain ⟨ta, _, ha, sa, _, na⟩ := hx
  refine ⟨iRng1 (tCons ta tNil), fun X c => pi_range1 (c.blt F.F h2).1 (c.blt F.F h2).2 (pa_cons (ha X c).1 pa_nil (star_of na)) (star_of na), fun ρ σ W H φ ds ρ' R i e w => ?_, fun env x => rfl⟩
  simp only [evXt] at e
  obtain ⟨⟨o, ρ1⟩, ex, e⟩ := Option.bind_eq_some_iff.mp e
  split at e <;> try (cases e; done)
  rename_i z hz
  split at e <;> try (cases e; done)
  rename_i hs
  cases e
  have := small_of hs
  refine sx_d sa i ex fun v W1 H1 φ1 s1 i1 r1 => ?_
  have hz : o.d = .int z := hz
  rw [hz] at r1
  have hw := walk_r (K := g.K) (W := W1) (lo := 0) (n := z.toNat) (by show _ ≤ 100000; omega)
  refine ⟨z, by rw [rep_int r1], by omega, by omega, w _ W1 H1 φ1 s1 i1 ?_⟩
  unfold rangeD
  simpa using hw
theorem sndxt_r2 {a b tg : Expr} {x y : X} {n : Str} {p pos : Pos} (F : Factx g M G) (hx : SndX g M G sc a x) (hy : SndX g M G sc b y) (h1 : n = "range") (h2 : M.m.blt sc n = true) : SndXt g M G sc tg (.Call (.Name n p) [a, b] [] pos) (.r2 x y) := by
  subst h1
  obtain ⟨ta, _, ha, sa, _, na⟩ := hx
  obtain ⟨tb, _, hb, sb, _, nb⟩ := hy
  refine ⟨iRng2 (tCons ta (tCons tb tNil)), fun X c => pi_range2 (c.blt F.F h2).1 (c.blt F.F h2).2 (pa_cons (ha X c).1 (pa_cons (hb X c).1 pa_nil (star_of nb)) (star_of na)) (by rw [star_of na, star_of nb]; rfl) (by rw [star_of nb]; rfl), fun ρ σ W H φ ds ρ' R i e w => ?_, fun env x => rfl⟩
  simp only [evXt] at e
  obtain ⟨⟨o, ρ1⟩, ex, e⟩ := Option.bind_eq_some_iff.mp e
  obtain ⟨⟨o2, ρ2⟩, ey, e⟩ := Option.bind_eq_some_iff.mp e
  split at e <;> try (cases e; done)
  rename_i z1 z2 hz1 hz2
  split at e <;> try (cases e; done)
  rename_i hs
  cases e
  simp only [Bool.and_eq_true, decide_eq_true_eq] at hs
  have := small_of hs.1.1
  have := small_of hs.1.2
  refine sx_d sa i ex fun v W1 H1 φ1 s1 i1 r1 => ?_
  refine sx_d sb i1 ey fun u W2 H2 φ2 s2 i2 r2 => ?_
  have hz1 : o.d = .int z1 := hz1
  have hz2 : o2.d = .int z2 := hz2
  rw [hz1] at r1
  rw [hz2] at r2
  exact ⟨z1, z2, by rw [rep_int r1, rep_int r2], ⟨by omega, by omega, by omega, by omega⟩, w _ W2 H2 φ2 (s1.trans s2) i2 (walk_r hs.2)⟩
theorem sndxt_en {a tg : Expr} {x : X} {n : Str} {p pos : Pos} (F : Factx g M G) (hx : SndX g M G sc a x) (h1 : n = "enumerate") (h2 : M.m.blt sc n = true) (ht : ∃ es k q, tg = .Tuple es k q) : SndXt g M G sc tg (.Call (.Name n p) [a] [] pos) (.en x) := by
  subst h1
  obtain ⟨es, k, q, rfl⟩ := ht
  obtain ⟨ta, _, ha, sa, _, na⟩ := hx
  refine ⟨iEnumS g.K (tCons ta tNil), fun X c => by rw [← c.K]; exact pi_enumS (c.blt F.F h2).1 (c.blt F.F h2).2 (pa_cons (ha X c).1 pa_nil (star_of na)) (star_of na), fun ρ σ W H φ ds ρ' R i e w => ?_, fun env x => rfl⟩
  simp only [evXt] at e
  obtain ⟨⟨o, ρ1⟩, ex, e⟩ := Option.bind_eq_some_iff.mp e
  refine sx_d sa i ex fun v W1 H1 φ1 s1 i1 r1 => ?_
  split at e <;> try (cases e; done)
  · rename_i ds' hd
    cases e
    have hd : o.d = .lst ds' := hd
    rw [hd] at r1
    cases r1 with | lst hw l rr =>
    exact ⟨_, _, rfl, .inl ⟨.of (i1.sm _ _ hw), w _ W1 H1 φ1 s1 i1 (walk_e (a := 0) walk_enum (fun H s => .of (s _ _ hw)) l rr)⟩⟩
  · rename_i ds' hd
    split at e
    case isFalse => cases e
    rename_i l
    cases e
    have hd : o.d = .tup ds' := hd
    rw [hd] at r1
    cases r1 with | tup hw rr =>
    exact ⟨_, _, rfl, .inr ⟨.of (i1.sm _ _ hw), w _ W1 H1 φ1 s1 i1 (walk_e (a := 0) walk_enumT (fun H s => .of (s _ _ hw)) l rr)⟩⟩

/-! ### comprehensions -/
def SndXf (g : GG) (M : Nx) (G : Cy) (sc : Scope) (ifs : List Expr) (x : Xo) : Prop := ∃ tt, (∀ X, Ctx g M.m sc X → PTs X ifs tt) ∧ SXT g.K tt (evXc G x)
theorem sndxf_no : SndXf g M G sc [] .no := ⟨tYes, fun X c => pts_nil, fun ρ σ W H φ b ρ' Q i e w => by
  simp only [evXc] at e; cases e
  exact w W H φ Stp.refl i⟩
theorem sndxf_so {e : Expr} {x : X} (hx : SndX g M G sc e x) : SndXf g M G sc [e] (.so x) := by
  obtain ⟨ta, tt, ha, sa, st, na⟩ := hx
  exact ⟨tt, fun X c => pts_one (ha X c).2, fun ρ σ W H φ b ρ' Q i e w => st ρ σ W H φ b ρ' Q i (by simpa only [evXc] using e) w⟩
theorem sh_inv {W H : Hp} {F : List Addr} {v : V} {d : D} (r : RepO K W H F v (.sh d)) : Rep K W v d := by
  cases r with | sh h => exact h
theorem InvO.resig {W H : Hp} {ρ : So} {σ σ' : L2.St} {φ : Nat → List Addr} (i : InvO K W H ρ σ φ) (hl : σ'.length = σ.length) (h : ∀ (j : Nat) o, ρ[j]? = some (some o) → σ'[j]? = σ[j]?) : InvO K W H ρ σ' φ :=
  ⟨by rw [hl]; exact i.len, fun k o e => let ⟨v, h1, h2⟩ := i.rep k o e; ⟨v, by rw [h k o e]; exact h1, h2⟩, i.emp, i.dis, i.sep, i.nd, i.sm⟩
theorem unS_none : ∀ (is : List Nat) (ρ : So) (j : Nat), j ∈ is → ∀ o, (KP.unS is ρ)[j]? ≠ some (some o)
  | k :: is, ρ, j, h, o => by
    show (KP.unS is (ρ.set k none))[j]? ≠ some (some o)
    by_cases q : j ∈ is
    · exact unS_none is _ j q o
    · have : j = k := (List.mem_cons.mp h).resolve_right q
      subst this
      have e : ∀ (is : List Nat) (r : So), j ∉ is → (KP.unS is r)[j]? = r[j]? := fun is => by
        induction is with
        | nil => intro r _; rfl
        | cons k is ih =>
          intro r hn
          show (KP.unS is (r.set k none))[j]? = _
          rw [ih _ fun z => hn (List.mem_cons_of_mem _ z), List.getElem?_set_ne fun z => hn (by rw [z]; exact List.mem_cons_self)]
      rw [e is _ q]
      by_cases hl : j < ρ.length
      · rw [List.getElem?_set_self hl]; simp
      · rw [List.getElem?_eq_none (by simpa using hl)]; simp
theorem unS_out : ∀ (is : List Nat) (ρ : So) (j : Nat), j ∉ is → (KP.unS is ρ)[j]? = ρ[j]?
  | [], ρ, j, h => rfl
  | k :: is, ρ, j, h => by
    show (KP.unS is (ρ.set k none))[j]? = _
    rw [unS_out is _ j fun z => h (List.mem_cons_of_mem _ z), List.getElem?_set_ne fun z => h (by rw [z]; exact List.mem_cons_self)]
theorem InvO.unF {W H : Hp} {ρ : So} {σ : L2.St} {φ : Nat → List Addr} (i : InvO K W H ρ σ φ) (is : List Nat) : ∃ φ', InvO K W H (KP.unS is ρ) σ φ' ∧ ∀ a, Fp φ' a → Fp φ a := by
  obtain ⟨φ', i', h1, h2⟩ := i.unS is
  refine ⟨φ', i', fun a ⟨j, hj⟩ => ?_⟩
  by_cases q : j ∈ is
  · rw [h1 j q] at hj; cases hj
  · rw [h2 j q] at hj; exact ⟨j, hj⟩
theorem InvO.backS {W H W0 : Hp} {σ : L2.St} {ρ0 : So} (sW : Same W0 W) (h0 : ∀ (j : Nat) d, ρ0[j]? = some (some (.sh d)) → ∃ v, σ[j]? = some (some v) ∧ Rep K W0 v d) : ∀ (is : List Nat) {ρ : So} {φ : Nat → List Addr}, InvO K W H ρ σ φ → ∃ φ', InvO K W H (KP.backS is ρ0 ρ) σ φ' ∧ ∀ a, Fp φ' a → Fp φ a
  | [], ρ, φ, i => ⟨φ, i, fun a z => z⟩
  | k :: is, ρ, φ, i => by
    have step : ∃ φ1, InvO K W H (match ρ0[k]? with | some (some (O.sh d)) => ρ.set k (some (O.sh d)) | _ => ρ.set k none) σ φ1 ∧ ∀ a, Fp φ1 a → Fp φ a := by
      split
      · rename_i d hd
        obtain ⟨v, hv, r⟩ := h0 k d hd
        by_cases hk : k < ρ.length
        · refine ⟨_, i.change (σ' := σ) (v' := v) (F' := []) (Same.refl _) i.sm (fun j _ a ha => ⟨fun u e => e, i.dis j a ha⟩) (fun _ _ => rfl) rfl (fun _ => hv) (.sh (r.mono sW)) List.nodup_nil (by simp) (by simp) hk, fun a z => ?_⟩
          obtain ⟨j, _, z⟩ := fp_drop z
          exact ⟨j, z⟩
        · rw [List.set_eq_of_length_le (by omega)]
          exact ⟨φ, i, fun a z => z⟩
      · exact ⟨_, i.drop k, fun a z => let ⟨j, _, z⟩ := fp_drop z; ⟨j, z⟩⟩
    obtain ⟨φ1, i1, h1⟩ := step
    obtain ⟨φ2, i2, h2⟩ := InvO.backS sW h0 is i1
    exact ⟨φ2, i2, fun a z => h1 a (h2 a z)⟩
theorem compX_cons {c : D → So → Option (Bool × So)} {f : D → So → Option (O × So)} {wf : So → So} {d : D} {ds : List D} {ρ ρ' : So} {all : List O} (h : compX c f wf (d :: ds) ρ = some (all, ρ')) :
    ∃ b ρ1, c d ρ = some (b, ρ1) ∧ ((b = true ∧ ∃ o ρ2 os, f d ρ1 = some (o, ρ2) ∧ compX c f wf ds (wf ρ2) = some (os, ρ') ∧ all = o :: os) ∨ (b = false ∧ compX c f wf ds (wf ρ1) = some (all, ρ'))) := by
  unfold compX at h
  obtain ⟨⟨b, ρ1⟩, hb, h⟩ := Option.bind_eq_some_iff.mp h
  refine ⟨b, ρ1, hb, ?_⟩
  cases b with
  | true =>
    rw [if_pos rfl] at h
    obtain ⟨⟨o, ρ2⟩, hy, h⟩ := Option.bind_eq_some_iff.mp h
    obtain ⟨⟨os, ρ3⟩, h1, h2⟩ := Option.map_eq_some_iff.mp h
    cases h2
    exact .inl ⟨rfl, o, ρ2, os, hy, h1, rfl⟩
  | false => exact .inr ⟨rfl, by simpa using h⟩
theorem ResOL.snoc {W1 H1 W2 H2 : Hp} {F1 F2 : Addr → Prop} {T1 T2 : List Addr} {v : V} {vs : List V} {o : O} {os : List O} (rs : ResOL K W1 H1 F1 T1 vs os) (y : Stp W1 H1 F1 W2 H2 (OKs F2 T2)) (r : ResO K W2 H2 F2 T2 v o) : ResOL K W2 H2 F2 (T1 ++ T2) (vs ++ [v]) (os ++ [o]) := by
  have r2 := rs.held (y.weak fun a z => .inl z)
  have one : RepOL K W2 H2 T2 [v] [o] := by simpa using RepOL.cons r.rep .nil
  refine ⟨r2.rep.append one, List.nodup_append.mpr ⟨r2.nd, r.nd, fun a ha b hb => ?_⟩, fun a ha => ?_, fun a ha => ?_⟩
  · rintro rfl
    obtain ⟨u, hu, _⟩ := rs.rep.dom a ha
    rcases y.nf a (.inr hb) with q | q
    · exact rs.sep a ha q
    · rw [hu] at q; cases q
  · rcases List.mem_append.mp ha with h | h
    · exact r2.dis a h
    · exact r.dis a h
  · rcases List.mem_append.mp ha with h | h
    · exact r2.sep a h
    · exact r.sep a h
theorem sndx_co {tg : Tg} {it : Xt} {c : Xo} {x : X} {t iter elt : Expr} {ifs : List Expr} {scope : Scope} {pos : Pos} (hi : SndXt g M G sc t iter it) (hb : blkC M.m.N sc scope (tg.ids.map fun i => (M.m.N.getD i "", i)) = true)
    (ht : chkT M.m (okB scope sc) tg t = true) (hc : SndXf g M G (relS scope sc) ifs c) (ha : SndX g M G (relS scope sc) elt x) : ∃ wi gt tt te, (∀ X, Ctx g M.m sc X → PE X (.ListComp elt [⟨t, iter, ifs, 0⟩] scope pos) (tLc wi gt tt te tg.ids) ∧
      PSL X (.ListComp elt [⟨t, iter, ifs, 0⟩] scope pos) (tLc wi gt tt te tg.ids)) ∧
      SX g.K (tLc wi gt tt te tg.ids) (evX G (.co tg it c x)) := by
  obtain ⟨wi, hi, si, hfold⟩ := hi
  obtain ⟨gt, hg, sg⟩ := tgo_ok (g := g) (sc := relS scope sc) tg t ht
  obtain ⟨tt, hc, st⟩ := hc
  obtain ⟨te, _, ha, se, _, na⟩ := ha
  have hvs : (tg.ids.map fun i => (M.m.N.getD i "", i)).map (·.2) = tg.ids := by
    rw [List.map_map]; exact List.map_id _
  refine ⟨wi, gt, tt, te, fun X k => ⟨?_, fun i y py spos h1 h2 h3 => ?_⟩, fun ρ σ W H φ o ρ' Q i e w => ?_⟩
  · rw [← hvs]
    exact pe_lc k.calm (by rw [k.N]; exact k.nd) (hi X k) (by rw [k.N, k.scope]; exact blkOk_by hb) (fun s H C cl fp => hg _ (k.blk s H scope C cl fp) (k.okb s H scope C cl fp)) (fun s H C cl fp => hc _ (k.blk s H scope C cl fp)) (fun s H C cl fp => (ha _ (k.blk s H scope C cl fp)).1) (fun x => hfold _ x)
  · rw [← hvs]
    exact ps_setLc k.calm (by rw [k.N]; exact k.nd) h1 h2 h3 (hi X k) (by rw [k.N, k.scope]; exact blkOk_by hb) (fun s H C cl fp => hg _ (k.blk s H scope C cl fp) (k.okb s H scope C cl fp)) (fun s H C cl fp => hc _ (k.blk s H scope C cl fp)) (fun s H C cl fp => (ha _ (k.blk s H scope C cl fp)).1) (fun x => hfold _ x)
  · simp only [evX] at e
    obtain ⟨⟨ds, ρ1⟩, eds, e⟩ := Option.bind_eq_some_iff.mp e
    obtain ⟨⟨all, ρe⟩, eall, e⟩ := Option.bind_eq_some_iff.mp e
    split at e
    case isFalse => cases e
    rename_i hlen
    cases e
    refine si ρ σ W H φ ds ρ1 _ i eds fun J W1 H1 φ1 s1 i1 wk => ?_
    obtain ⟨hlim, Y, wk, hY⟩ := wk
    intro D0 hD
    obtain ⟨φ0, i0, hF0⟩ := i1.unF tg.ids
    have nD1 : ¬ Fp φ1 D0 := i1.new hD
    have gD : Grow W1 H1 W1 (upd H1 D0 (.lst [])) := Grow.new0 i1.sm hD
    -- the state at a turn
    refine lc_it wk (fun n H' => ∃ Wi φi ρi vs os rest T, InvO g.K Wi H' ρi (wipe σ tg.ids) φi ∧ Stp W1 H1 (Fp φ1) Wi H' (OKs (Fp φi) (D0 :: T)) ∧ H' D0 = some (.lst vs) ∧ Wi D0 = none ∧ ¬ Fp φi D0 ∧ D0 ∉ T ∧ ResOL g.K Wi H' (Fp φi) T vs os ∧ os.length ≤ n ∧
        compX (fun d ρ' => (bindO tg (.sh d) ρ').bind fun ρ'' => evXc G c ρ'') (fun d ρ' => evX G x ρ') (KP.unS tg.ids) (ds.drop n) ρi = some (rest, ρe) ∧ all = os ++ rest ∧ ∀ j ∈ tg.ids, ∀ o, ρi[j]? ≠ some (some o)) ?_ ?_ ?_ ?_
    · refine ⟨W1, φ0, KP.unS tg.ids ρ1, [], [], all, [], ?_, ?_, upd_same, i1.sm.free hD, fun z => nD1 (hF0 _ z), by simp, ⟨.nil, List.nodup_nil, by simp, by simp⟩, Nat.le_refl _, eall, rfl, fun j hj o => unS_none tg.ids ρ1 j hj o⟩
      · refine (i0.grow gD).resig (wipe_length _ _) fun j o e => ?_
        by_cases q : j ∈ tg.ids
        · exact absurd e (unS_none tg.ids ρ1 j q o)
        · exact wipe_out q
      · refine ⟨Same.refl _, fun a u e _ => gD.sH.k a u e, fun a z => ?_, fun a u e => .inl e, fun a ps e => .inr (gD.sH.tt a ps e), gD.sH.t⟩
        rcases z with z | z
        · exact .inl (hF0 a z)
        · have : a = D0 := by simpa using z
          subst this
          exact .inr hD
    · rintro n H' _ ⟨Wi, φi, ρi, vs, os, rest, T, ii, ss, _⟩
      exact ss.sW.trans ii.sm.s
    · rintro n xv H' H2 hn ⟨Wi, φi, ρi, vs, os, rest, T, ii, ss, h0, n0, f0, dT, rr, hl, hcomp, hall, hnone⟩ hy
      obtain ⟨d, hd, yy⟩ := hY n H' xv H2 hn (ss.sW.trans ii.sm.s) hy
      obtain ⟨W2, g2, rx⟩ := yy Wi ss.sW ii.sm
      have hdrop : ds.drop n = d :: ds.drop (n + 1) := by
        obtain ⟨hlt, he⟩ := List.getElem?_eq_some_iff.mp hd
        rw [List.drop_eq_getElem_cons hlt, he]
      rw [hdrop] at hcomp
      obtain ⟨b, ρt, hcb, alt⟩ := compX_cons hcomp
      obtain ⟨ρb, eρ, ec⟩ := Option.bind_eq_some_iff.mp hcb
      have ii2 := ii.grow g2
      refine sg xv (.sh d) [] (wipe σ tg.ids) W2 H2 φi ρi ρb _ ii2 (res_sh rx) eρ fun σ2 φb ib hFb l2 k2 => ?_
      have hFb' : ∀ a, Fp φb a → Fp φi a := fun a z => (hFb a z).elim id fun z => by cases z
      refine ⟨wipe_ext (l2.trans (wipe_length _ _)) fun j hj => by rw [k2 j hj, wipe_out hj], ?_⟩
      have sb : Stp Wi H' (Fp φi) W2 H2 (Fp φb) := (Grow.stp g2).weak hFb'
      refine st ρb σ2 W2 H2 φb b ρt _ ib ec fun W3 H3 φ3 s3 i3 => ?_
      have s03 := sb.trans s3
      have kill : ∀ {W4 H4 : Hp} {F4 : Addr → Prop}, Stp Wi H' (Fp φi) W4 H4 F4 → H4 D0 = some (.lst vs) ∧ W4 D0 = none ∧ ¬ F4 D0 := fun {W4 H4 F4} s => by
        refine ⟨s.pr _ _ h0 f0 (fun _ e => by cases e), ?_, fun z => ?_⟩
        · cases eW : W4 D0 with
          | none => rfl
          | some u =>
            rcases s.nw D0 u eW with z | z | z
            · rw [n0] at z; cases z
            · exact absurd z f0
            · exact (z.no h0 (by simp)).elim
        · rcases s.nf D0 z with z | z
          · exact f0 z
          · rw [h0] at z; cases z
      have resg : ∀ {W4 H4 : Hp} {ρ4 : So} {φ4 : Nat → List Addr}, InvO g.K W4 H4 ρ4 σ2 φ4 → ∃ φ5, InvO g.K W4 H4 (KP.unS tg.ids ρ4) (wipe σ tg.ids) φ5 ∧ ∀ a, Fp φ5 a → Fp φ4 a := fun {W4 H4 ρ4 φ4} i4 => by
        obtain ⟨φ5, i5, h5⟩ := i4.unF tg.ids
        refine ⟨φ5, i5.resig l2.symm fun j o e => ?_, h5⟩
        by_cases q : j ∈ tg.ids
        · exact absurd e (unS_none tg.ids ρ4 j q o)
        · exact (k2 j q).symm
      rcases alt with ⟨rfl, y, ρy, ys, hf, hrest, rfl⟩ | ⟨rfl, hrest⟩
      · rw [if_pos rfl]
        refine se ρt σ2 W3 H3 φ3 y ρy _ i3 hf fun v W4 H4 φ4 T4 s4 i4 r4 => ?_
        have s04 := s03.trans s4
        obtain ⟨hD4, nD4, fD4⟩ := kill s04
        have rr4 := rr.snoc s04 r4
        obtain ⟨φ5, i5, h5⟩ := resg i4
        have smU : Sub W4 (upd H4 D0 (.lst (vs ++ [v]))) := i4.sm.wr nD4 hD4
        have hl1 := rr.rep.length
        refine ⟨vs, hD4, ?_, W4, φ5, KP.unS tg.ids ρy, vs ++ [v], os ++ [y], ys, T ++ T4, i5.move (Same.refl _) smU (fun a ha => ⟨fun u e => ?_, ?_⟩), ?_, upd_same, nD4, fun z => fD4 (.inl (h5 _ z)), ?_, ?_, by simp; omega, hrest, by simp [hall], fun j hj o => unS_none tg.ids ρy j hj o⟩
        · have : ds.length ≤ 100000 := hlim
          have : (100000 : Nat) ≤ sizeLine := lim_line
          omega
        · rw [upd_ne fun z => fD4 (.inl (by rw [← z]; exact h5 a ha))]; exact e
        · obtain ⟨j, hj⟩ := ha
          exact i5.dis j a hj
        · have s14 := ss.trans2 s04
          refine s14.trans ⟨Same.refl _, fun a u e n _ => ?_, fun a z => ?_, fun a u e => .inl e, tt_upd hD4, t_upd hD4⟩
          · rw [upd_ne fun z => n (.inr (by rw [z]; exact List.mem_cons_self))]; exact e
          · rcases z with z | z
            · exact .inl (.inl (.inl (h5 a z)))
            · rcases List.mem_cons.mp z with rfl | z
              · exact .inl (.inr List.mem_cons_self)
              · rcases List.mem_append.mp z with z | z
                · exact .inl (.inr (List.mem_cons_of_mem _ z))
                · exact .inl (.inl (.inr z))
        · intro z
          rcases List.mem_append.mp z with z | z
          · exact dT z
          · exact fD4 (.inr z)
        · refine ⟨rr4.rep.mono (Same.refl _) fun a ha u e => ?_, rr4.nd, rr4.dis, fun a ha z => rr4.sep a ha (h5 a z)⟩
          rw [upd_ne fun z => ?_]
          · exact e
          · rw [z] at ha
            rcases List.mem_append.mp ha with q | q
            · exact dT q
            · exact fD4 (.inr q)
      · rw [if_neg (by simp)]
        obtain ⟨hD3, nD3, fD3⟩ := kill s03
        obtain ⟨φ5, i5, h5⟩ := resg i3
        have r3 := rr.held s03
        refine ⟨W3, φ5, KP.unS tg.ids ρt, vs, os, rest, T, i5, ?_, hD3, nD3, fun z => fD3 (h5 _ z), dT, ⟨r3.rep, r3.nd, r3.dis, fun a ha z => r3.sep a ha (h5 a z)⟩, by omega, hrest, hall, fun j hj o => unS_none tg.ids ρt j hj o⟩
        refine (ss.trans2 s03).weak fun a z => ?_
        rcases z with z | z
        · exact .inl (h5 a z)
        · exact .inr z
    · rintro H' ⟨Wi, φi, ρi, vs, os, rest, T, ii, ss, h0, n0, f0, dT, rr, hl, hcomp, hall, hnone⟩
      rw [List.drop_length] at hcomp
      simp only [compX] at hcomp
      cases hcomp
      rw [List.append_nil] at hall
      subst hall
      have ii' : InvO g.K Wi H' ρe σ φi := ii.resig (wipe_length _ _).symm fun j o e => by
        by_cases q : j ∈ tg.ids
        · exact absurd e (hnone j q o)
        · exact (wipe_out q).symm
      obtain ⟨φ9, i9, h9⟩ := InvO.backS (W0 := W1) (ρ0 := ρ1) ss.sW (fun j d e => by
        obtain ⟨v, h1, h2⟩ := i1.rep j _ e
        exact ⟨v, h1, sh_inv h2⟩) tg.ids ii'
      refine w _ Wi H' φ9 (D0 :: T) (s1.trans (ss.weak fun a z => ?_)) i9 ⟨.ol h0 hlen rr.rep, List.nodup_cons.mpr ⟨dT, rr.nd⟩, fun a ha => ?_, fun a ha z => ?_⟩
      · rcases z with z | z
        · exact .inl (h9 a z)
        · exact .inr z
      · rcases List.mem_cons.mp ha with rfl | ha
        · exact n0
        · exact rr.dis a ha
      · rcases List.mem_cons.mp ha with rfl | ha
        · exact f0 (h9 _ z)
        · exact rr.sep a ha (h9 a z)
theorem sndx_dnK {p : Pos} : SndX g M G sc (.Dict [] [] p) .dnK := by
  refine .of (t := tDNewK) (fun X c => pe_dnewK) (fun ρ σ W H φ o' ρ' Q i e w => ?_) rfl rfl
  simp only [evX] at e
  cases e
  intro d hd
  have gr : Grow W H W (upd H d (.dK [])) := Grow.new0 i.sm hd
  exact w _ W _ φ [d] (stp_new (p := d) (T := []) Stp.refl.nil gr fun a ha => .inr (by have : a = d := by simpa using ha
                                                                                       subst this; exact hd)) (i.grow gr) ⟨.oK (xs := []) upd_same rfl (Nat.zero_le _) .nil, by simp, by simpa using i.sm.free hd, by simpa using i.new hd⟩
theorem sndx_dnT {p : Pos} : SndX g M G sc (.Dict [] [] p) .dnT := by
  refine .of (t := tDNewT) (fun X c => pe_dnewT) (fun ρ σ W H φ o' ρ' Q i e w => ?_) rfl rfl
  simp only [evX] at e
  cases e
  intro d hd
  have gr : Grow W H W (upd H d (.dT [])) := Grow.new0 i.sm hd
  exact w _ W _ φ [d] (stp_new (p := d) (T := []) Stp.refl.nil gr fun a ha => .inr (by have : a = d := by simpa using ha
                                                                                       subst this; exact hd)) (i.grow gr) ⟨.oT (xs := []) upd_same rfl (Nat.zero_le _) .nil, by simp, by simpa using i.sm.free hd, by simpa using i.new hd⟩

/-! ### the checker's word is enough -/
theorem sndx_co' {tg : Tg} {it : Xt} {c : Xo} {x : X} {t iter elt : Expr} {ifs : List Expr} {scope : Scope} {pos : Pos} (hi : SndXt g M G sc t iter it) (hb : blkC M.m.N sc scope (tg.ids.map fun i => (M.m.N.getD i "", i)) = true)
    (ht : chkT M.m (okB scope sc) tg t = true) (hc : SndXf g M G (relS scope sc) ifs c) (ha : SndX g M G (relS scope sc) elt x) : SndX g M G sc (.ListComp elt [⟨t, iter, ifs, 0⟩] scope pos) (.co tg it c x) := by
  obtain ⟨wi, gt, tt, te, h1, h2⟩ := sndx_co (pos := pos) hi hb ht hc ha
  exact .of (fun X k => (h1 X k).1) h2 rfl rfl
structure SndOx (g : GG) (M : Nx) (G : Cy) (sc : Scope) (c : Xo) : Prop where
  o : ∀ e, chkXo M c sc e = true → SndXo g M G sc e c
  f : ∀ es, chkXf M c sc es = true → SndXf g M G sc es c
theorem name_of {x : Str} {b1 b2 b3 b4 : Bool} (h : (b1 && b2 && !b3 && !b4) = true) : b1 = true ∧ b2 = true ∧ b3 = false ∧ b4 = false := by
  cases b1 <;> cases b2 <;> cases b3 <;> cases b4 <;> simp at h ⊢
mutual
theorem all_x (F : Factx g M G) : ∀ (x : X) (sc : Scope) (e : Expr), chkX M x sc e = true → SndX g M G sc e x
  | .p a, sc, e, h => sndx_p (all_e F.F a sc e (by simpa only [chkX] using h))
  | .q a, sc, e, h => sndx_q (all_e F.F a sc e (by simpa only [chkX] using h))
  | .z is x, sc, e, h => sndx_z (all_x F x sc e (by simpa only [chkX] using h))
  | .mv k, sc, e, h => sndx_mv h
  | .dnK, sc, e, h => by
    unfold chkX at h
    split at h <;> try (cases h; done)
    exact sndx_dnK
  | .dnT, sc, e, h => by
    unfold chkX at h
    split at h <;> try (cases h; done)
    exact sndx_dnT
  | .tup xs, sc, e, h => by
    unfold chkX at h
    split at h <;> try (cases h; done)
    exact sndx_tup (all_xs F xs sc _ h)
  | .lst xs, sc, e, h => by
    unfold chkX at h
    split at h <;> try (cases h; done)
    exact sndx_lst (all_xs F xs sc _ h)
  | .io j is xs, sc, e, h => by
    unfold chkX at h
    split at h <;> try (cases h; done)
    simp only [Bool.and_eq_true, decide_eq_true_eq, Bool.not_eq_true'] at h
    obtain ⟨⟨⟨h1, h2⟩, h3⟩, h4⟩ := h
    split at h4 <;> try (cases h4; done)
    rename_i hn
    simp only [Bool.and_eq_true, decide_eq_true_eq] at h4
    exact sndx_io F h1 h2 h3 hn (all_xs F xs sc _ h4.1) h4.2
  | .pop k y, sc, e, h => by
    unfold chkX at h
    split at h <;> try (cases h; done)
    simp only [Bool.and_eq_true, decide_eq_true_eq, Bool.not_eq_true'] at h
    obtain ⟨⟨⟨⟨⟨⟨rfl, h1⟩, h2⟩, h3⟩, h4⟩, h5⟩, h6⟩ := h
    exact sndx_pop (all_x F y sc _ h6) h1 h2 h3 h4 h5
  | .pop0 k, sc, e, h => by
    unfold chkX at h
    split at h <;> try (cases h; done)
    simp only [Bool.and_eq_true, decide_eq_true_eq, Bool.not_eq_true'] at h
    obtain ⟨⟨⟨⟨⟨rfl, h1⟩, h2⟩, h3⟩, h4⟩, h5⟩ := h
    exact sndx_pop0 h1 h2 h3 h4 h5
  | .ixo x k, sc, e, h => by
    unfold chkX at h
    split at h <;> try (cases h; done)
    simp only [Bool.and_eq_true, decide_eq_true_eq] at h
    obtain ⟨rfl, h1⟩ := h
    exact sndx_ixo (all_x F x sc _ h1)
  | .ixv k y, sc, e, h => by
    unfold chkX at h
    split at h <;> try (cases h; done)
    simp only [Bool.and_eq_true, decide_eq_true_eq, Bool.not_eq_true'] at h
    obtain ⟨⟨⟨⟨h1, h2⟩, h3⟩, h4⟩, h5⟩ := h
    exact sndx_ixv (all_x F y sc _ h5) h1 h2 h3 h4
  | .ix x y, sc, e, h => by
    unfold chkX at h
    split at h <;> try (cases h; done)
    simp only [Bool.and_eq_true] at h
    exact sndx_ix (all_x F x sc _ h.1) (all_x F y sc _ h.2)
  | .sl x lo hi, sc, e, h => by
    unfold chkX at h
    split at h <;> try (cases h; done)
    simp only [Bool.and_eq_true] at h
    exact sndx_sl (all_x F x sc _ h.1.1) ((all_xo F lo sc).o _ h.1.2) ((all_xo F hi sc).o _ h.2)
  | .b2 o x y, sc, e, h => by
    unfold chkX at h
    split at h <;> try (cases h; done)
    simp only [Bool.and_eq_true, decide_eq_true_eq] at h
    obtain ⟨⟨rfl, h1⟩, h2⟩ := h
    exact sndx_b2 (all_x F x sc _ h1) (all_x F y sc _ h2)
  | .c2 o x y, sc, e, h => by
    unfold chkX at h
    split at h <;> try (cases h; done)
    simp only [Bool.and_eq_true, decide_eq_true_eq] at h
    obtain ⟨⟨rfl, h1⟩, h2⟩ := h
    exact sndx_c2 (all_x F x sc _ h1) (all_x F y sc _ h2)
  | .nt x, sc, e, h => by
    unfold chkX at h
    split at h <;> try (cases h; done)
    simp only [Bool.and_eq_true, decide_eq_true_eq] at h
    obtain ⟨rfl, h1⟩ := h
    exact sndx_nt (all_x F x sc _ h1)
  | .an xs, sc, e, h => by
    unfold chkX at h
    split at h <;> try (cases h; done)
    rename_i op a b r p
    simp only [Bool.and_eq_true, decide_eq_true_eq] at h
    obtain ⟨rfl, h1⟩ := h
    obtain ⟨t, tt, hp, hs, ht⟩ := (all_xs F xs sc _ h1).an (by simp) p
    refine ⟨t, tt, fun X c => ⟨(hp X c).1, (hp X c).2.pt⟩, fun ρ σ W H φ o ρ' Q i e w => hs ρ σ W H φ o ρ' Q i (by simpa only [evX] using e) w, fun ρ σ W H φ b ρ' Q i e w => ht ρ σ W H φ b ρ' Q i ?_ w, rfl⟩
    have e := at2_some e
    simp only [evX] at e
    obtain ⟨⟨c, ρ1⟩, h3, e⟩ := Option.map_eq_some_iff.mp e
    cases e
    exact h3
  | .or xs, sc, e, h => by
    unfold chkX at h
    split at h <;> try (cases h; done)
    rename_i op a b r p
    simp only [Bool.and_eq_true, decide_eq_true_eq] at h
    obtain ⟨rfl, h1⟩ := h
    obtain ⟨t, tt, hp, hs, ht⟩ := (all_xs F xs sc _ h1).or (by simp) p
    refine ⟨t, tt, fun X c => ⟨(hp X c).1, (hp X c).2.pt⟩, fun ρ σ W H φ o ρ' Q i e w => hs ρ σ W H φ o ρ' Q i (by simpa only [evX] using e) w, fun ρ σ W H φ b ρ' Q i e w => ht ρ σ W H φ b ρ' Q i ?_ w, rfl⟩
    have e := at2_some e
    simp only [evX] at e
    obtain ⟨⟨c, ρ1⟩, h3, e⟩ := Option.map_eq_some_iff.mp e
    cases e
    exact h3
  | .ife c x y, sc, e, h => by
    unfold chkX at h
    split at h <;> try (cases h; done)
    simp only [Bool.and_eq_true] at h
    exact sndx_ife (all_x F c sc _ h.1.1) (all_x F x sc _ h.1.2) (all_x F y sc _ h.2)
  | .bi f xs, sc, e, h => by
    unfold chkX at h
    split at h <;> try (cases h; done)
    simp only [Bool.and_eq_true, decide_eq_true_eq] at h
    obtain ⟨⟨rfl, h1⟩, h2⟩ := h
    exact sndx_bi F (all_xs F xs sc _ h2) h1
  | .co tg it c x, sc, e, h => by
    unfold chkX at h
    split at h <;> try (cases h; done)
    simp only [Bool.and_eq_true] at h
    obtain ⟨⟨⟨⟨⟨h1, h2⟩, h3⟩, h4⟩, h5⟩, h6⟩ := h
    exact sndx_co' (all_xt F it sc _ _ h1 fun z => or_of_tp h3 (by cases it <;> first | exact h6 | cases z)) h2 h3 ((all_xo F c _).f _ h4) (all_x F x _ _ h5)
theorem all_xs (F : Factx g M G) : ∀ (xs : Xs) (sc : Scope) (es : List Expr), chkXs M xs sc es = true → SndXs g M G sc es xs
  | .nil, sc, [], h => sndxs_nil
  | .nil, sc, _ :: _, h => by simp [chkXs] at h
  | .cons x xs, sc, [], h => by simp [chkXs] at h
  | .cons x xs, sc, e :: es, h => by
    simp only [chkXs, Bool.and_eq_true] at h
    exact sndxs_cons (all_x F x sc e h.1) (all_xs F xs sc es h.2)
theorem all_xo (F : Factx g M G) : ∀ (o : Xo) (sc : Scope), SndOx g M G sc o
  | .no, sc => ⟨fun o h => by cases o with | none => exact sndxo_no | some _ => simp [chkXo] at h, fun es h => by cases es with | nil => exact sndxf_no | cons _ _ => simp [chkXf] at h⟩
  | .so x, sc => ⟨fun o h => by cases o with
      | none => simp [chkXo] at h
      | some e => exact sndxo_so (all_x F x sc e (by simpa only [chkXo] using h)), fun es h => by
      match es, h with
      | [e], h => exact sndxf_so (all_x F x sc e (by simpa only [chkXf] using h))
      | [], h => simp [chkXf] at h
      | _ :: _ :: _, h => simp [chkXf] at h⟩
theorem all_xt (F : Factx g M G) : ∀ (it : Xt) (sc : Scope) (tg e : Expr), chkXt M it sc e = true → ((match it with | .en _ => true | _ => false) = true → ∃ es k q, tg = .Tuple es k q) → SndXt g M G sc tg e it
  | .sq x, sc, tg, e, h, ht => sndxt_sq (all_x F x sc e (by simpa only [chkXt] using h))
  | .r1 x, sc, tg, e, h, ht => by
    unfold chkXt at h
    split at h <;> try (cases h; done)
    simp only [Bool.and_eq_true, decide_eq_true_eq] at h
    exact sndxt_r1 F (all_x F x sc _ h.2) h.1.1 h.1.2
  | .r2 x y, sc, tg, e, h, ht => by
    unfold chkXt at h
    split at h <;> try (cases h; done)
    simp only [Bool.and_eq_true, decide_eq_true_eq] at h
    exact sndxt_r2 F (all_x F x sc _ h.1.2) (all_x F y sc _ h.2) h.1.1.1 h.1.1.2
  | .en x, sc, tg, e, h, ht => by
    unfold chkXt at h
    split at h <;> try (cases h; done)
    simp only [Bool.and_eq_true, decide_eq_true_eq] at h
    exact sndxt_en F (all_x F x sc _ h.2) h.1.1 h.1.2 (ht rfl)
end
/-- a comprehension, for a statement of its own -/
theorem all_xl (F : Factx g M G) (elt : Expr) (gs : List Comprehension) (scope : Scope) (pos : Pos) : ∀ (x : X) (sc : Scope), chkX M x sc (.ListComp elt gs scope pos) = true →
    ∃ te, (∀ X, Ctx g M.m sc X → PE X (.ListComp elt gs scope pos) te ∧ PSL X (.ListComp elt gs scope pos) te) ∧ SX g.K te (evX G x)
  | .p a, sc, h => by
    obtain ⟨t, hp, s⟩ := all_l F.F a sc elt gs scope pos (by simpa only [chkX] using h)
    refine ⟨t, hp, fun ρ σ W H φ o ρ' Q i e w => ?_⟩
    simp only [evX] at e
    obtain ⟨r, er, e⟩ := Option.map_eq_some_iff.mp e
    cases e
    exact s _ σ W H r Q i.sm i.shR er (wantx (φ := φ) i Stp.refl w)
  | .q a, sc, h => by
    obtain ⟨t, hp, s⟩ := all_l F.F a sc elt gs scope pos (by simpa only [chkX] using h)
    refine ⟨t, hp, fun ρ σ W H φ o ρ' Q i e w => ?_⟩
    simp only [evX] at e
    obtain ⟨r, er, e⟩ := Option.bind_eq_some_iff.mp e
    split at e <;> try (cases e; done)
    rename_i hf
    cases e
    refine s _ σ _ H r Q (ovl_sub i.sm fun _ h => i.own h) i.alR er fun v W1 H1 gr x => ?_
    obtain ⟨T, st, i', rr⟩ := RepR.res i (i.back gr).1 (i.backR gr x hf)
    exact w v _ H1 φ T st i' rr
  | .z is x, sc, h => by
    obtain ⟨t, hp, s⟩ := all_xl F elt gs scope pos x sc (by simpa only [chkX] using h)
    refine ⟨t, hp, fun ρ σ W H φ o ρ' Q i e w => ?_⟩
    simp only [evX] at e
    obtain ⟨W1, φ1, s1, i1⟩ := i.frzS is
    exact s _ σ W1 H φ1 o ρ' Q i1 e fun v W' H' φ' T st => w v W' H' φ' T (s1.trans st)
  | .co tg it c x, sc, h => by
    unfold chkX at h
    split at h <;> try (cases h; done)
    rename_i heq
    cases heq
    simp only [Bool.and_eq_true] at h
    obtain ⟨⟨⟨⟨⟨h1, h2⟩, h3⟩, h4⟩, h5⟩, h6⟩ := h
    obtain ⟨wi, gt, tt, te, a1, a2⟩ := sndx_co (pos := pos) (all_xt F it sc _ _ h1 fun z => or_of_tp h3 (by cases it <;> first | exact h6 | cases z)) h2 h3 ((all_xo F c _).f _ h4) (all_x F x _ _ h5)
    exact ⟨_, a1, a2⟩
  | .mv _, sc, h => by simp [chkX] at h
  | .dnK, sc, h => by simp [chkX] at h
  | .dnT, sc, h => by simp [chkX] at h
  | .tup _, sc, h => by simp [chkX] at h
  | .lst _, sc, h => by simp [chkX] at h
  | .io .., sc, h => by simp [chkX] at h
  | .pop .., sc, h => by simp [chkX] at h
  | .pop0 .., sc, h => by simp [chkX] at h
  | .ixo .., sc, h => by simp [chkX] at h
  | .ixv .., sc, h => by simp [chkX] at h
  | .ix .., sc, h => by simp [chkX] at h
  | .sl .., sc, h => by simp [chkX] at h
  | .b2 .., sc, h => by simp [chkX] at h
  | .c2 .., sc, h => by simp [chkX] at h
  | .nt .., sc, h => by simp [chkX] at h
  | .an .., sc, h => by simp [chkX] at h
  | .or .., sc, h => by simp [chkX] at h
  | .ife .., sc, h => by simp [chkX] at h
  | .bi .., sc, h => by simp [chkX] at h
end
end KP
/-! KPt: statements: form, evaluator, checker, and that the checker's word is enough. -/
namespace KP
open PySem L2

mutual
inductive S where
  | set (i : Nat) (x : X) | unp (tg : Tg) (x : X) | par2 (i j : Nat) (x y : X) | par3 (i j l : Nat) (x y z : X)
  | app (i : Nat) (x : X) | put (i : Nat) (k x : X) | ex (x : X) | appP (i : Nat) (ks : List Nat) (z : Int) | swp (i : Nat) (a b : E) | aa (i j : Nat) (z : Int)
  | ite (c : X) (a b : Ss) | fo (tg : Tg) (it : Xt) (b : Ss) | whl (c : X) (b : Ss)
  | ret (x : X) | retN | brk | cnt | pass | bad
inductive Ss where
  | nil | cons (s : S) (ss : Ss) | fz (is : List Nat) (ss : Ss)
end
inductive Out where
  | nx (ρ : So) | bk (ρ : So) | ct (ρ : So) | rt (o : O) (ρ : So)
def forN (f : D → So → Option Out) : List D → So → Option Out
  | [], ρ => some (.nx ρ)
  | d :: ds, ρ => (f d ρ).bind fun
    | .nx ρ' => forN f ds ρ'
    | .ct ρ' => forN f ds ρ'
    | .bk ρ' => some (.nx ρ')
    | .rt o ρ' => some (.rt o ρ')
def whlN (c : So → Option (Bool × So)) (b : So → Option Out) : Nat → So → Option Out
  | 0, _ => none
  | n + 1, ρ => (c ρ).bind fun p => if p.1 then (b p.2).bind fun
      | .nx ρ' => whlN c b n ρ'
      | .ct ρ' => whlN c b n ρ'
      | .bk ρ' => some (.nx ρ')
      | .rt o ρ' => some (.rt o ρ')
    else some (.nx p.2)
def FUEL : Nat := 10000
/-- a dict with an entry more or another value -/
def putD {κ : Type} [DecidableEq κ] (ks : List κ) (vs : List D) (k : κ) (d : D) : List κ × List D :=
  if ks.any (fun j => decide (j = k)) then (ks, (ks.zip vs).map fun p => if p.1 = k then d else p.2) else (ks ++ [k], vs ++ [d])
def putO (o : O) (kd : D) (v : O) : Option O :=
  match o with
  | .ol os => match kd with
    | .int z => (ixN os.length z).map fun j => .ol (os.set j v)
    | _ => none
  | .oK ks vs => kd.key.bind fun k => if ks.length < LIM then some (.oK (putD ks vs k v.d).1 (putD ks vs k v.d).2) else none
  | .oT ks vs => kd.keyL.bind fun k => if ks.length < LIM then some (.oT (putD ks vs k v.d).1 (putD ks vs k v.d).2) else none
  | _ => none
/-- an int appended to a list deep within an own thing -/
def putP : O → List Nat → Int → Option O
  | .ol os, [], z => if os.length < LIM then some (.ol (os ++ [.sh (.int z)])) else none
  | .ol os, k :: ks, z => os[k]?.bind fun o => (putP o ks z).map fun o' => .ol (os.set k o')
  | .ot os, k :: ks, z => os[k]?.bind fun o => (putP o ks z).map fun o' => .ot (os.set k o')
  | _, _, _ => none
def oInts : List O → Option (List Int)
  | [] => some []
  | .sh (.int k) :: r => (oInts r).map (k :: ·)
  | _ => none
def asI : R → Option Int
  | .sh (.int k) => some k
  | _ => none
def olB : O → Bool
  | .ol os => decide (os.length < LIM)
  | _ => false
/-- v[a], v[b] = v[b], v[a] -/
def swapI (ns : List Int) (ja jb : Nat) : List Int := (ns.set ja (ns.getD jb 0)).set jb (ns.getD ja 0)
mutual
def evS (G : Cy) : S → So → Option Out
  | .set i x, ρ => (evX G x ρ).map fun p => .nx (p.2.set i (some p.1))
  | .unp tg x, ρ => (evX G x ρ).bind fun p => (bindO tg p.1 p.2).map Out.nx
  | .par2 i j x y, ρ => (evX G x ρ).bind fun p => (evX G y p.2).map fun q => .nx ((q.2.set i (some p.1)).set j (some q.1))
  | .par3 i j l x y z, ρ => (evX G x ρ).bind fun p => (evX G y p.2).bind fun q => (evX G z q.2).map fun r => .nx (((r.2.set i (some p.1)).set j (some q.1)).set l (some r.1))
  | .aa i j _, ρ => match ρ[i]? with
    | some (some (.ol os)) => if os.all olB && decide (j < ρ.length) then some (.nx (unS [i, j] ρ)) else none
    | _ => none
  | .swp i a b, ρ => match ρ[i]? with
    | some (some (.ol os)) => (oInts os).bind fun ns => ((evp G.G a (ShR ρ)).bind asI).bind fun ia => ((evp G.G b (ShR ρ)).bind asI).bind fun ib => (L2.ixN ns.length ia).bind fun ja => (L2.ixN ns.length ib).bind fun jb =>
      some (.nx (ρ.set i (some (.ol ((swapI ns ja jb).map fun k => .sh (.int k))))))
    | _ => none
  | .app i x, ρ => match ρ[i]? with
    | some (some (.ol _)) => (evX G x ρ).bind fun p => match p.2[i]? with
      | some (some (.ol os)) => if os.length < LIM then some (.nx (p.2.set i (some (.ol (os ++ [p.1]))))) else none
      | _ => none
    | _ => none
  | .put i k x, ρ => (evX G x ρ).bind fun p => match p.2[i]? with
    | some (some _) => (evX G k p.2).bind fun q => match q.2[i]? with
      | some (some o) => (putO o q.1.d p.1).map fun o' => .nx (q.2.set i (some o'))
      | _ => none
    | _ => none
  | .ex x, ρ => (evX G x ρ).map fun p => .nx p.2
  | .appP i ks z, ρ => match ρ[i]? with
    | some (some o) => (putP o ks z).map fun o' => .nx (ρ.set i (some o'))
    | _ => none
  | .ite c a b, ρ => (at2 (evX G c ρ)).bind fun p => if p.1 then evSs G a p.2 else evSs G b p.2
  | .fo tg it b, ρ => (evXt G it ρ).bind fun p => forN (fun d ρ' => (bindO tg (.sh d) ρ').bind fun ρ'' => evSs G b ρ'') p.1 p.2
  | .whl c b, ρ => whlN (fun ρ' => at2 (evX G c ρ')) (fun ρ' => evSs G b ρ') FUEL ρ
  | .ret x, ρ => (evX G x ρ).map fun p => .rt p.1 p.2
  | .retN, ρ => some (.rt (.sh .non) ρ)
  | .brk, ρ => some (.bk ρ)
  | .cnt, ρ => some (.ct ρ)
  | .pass, ρ => some (.nx ρ)
  | .bad, _ => none
def evSs (G : Cy) : Ss → So → Option Out
  | .nil, ρ => some (.nx ρ)
  | .cons s ss, ρ => (evS G s ρ).bind fun
    | .nx ρ' => evSs G ss ρ'
    | .bk ρ' => some (.bk ρ')
    | .ct ρ' => some (.ct ρ')
    | .rt o ρ' => some (.rt o ρ')
  | .fz is ss, ρ => evSs G ss (frzS is ρ)
end

/-! ### the checker -/
def bkB (sc : Scope) : ScopeKind := if sc.kind.isAnnotationScope then .function else sc.kind
def swB (sc scope : Scope) (pos py : Pos) (y : Str) : Bool :=
  bkB sc == .function && sc.names.lookup y == some .local && py.line == pos.line && !(scope.names.any fun (n, k) => n == y && (k == .local || k == .cell))
def noComp : Expr → Bool
  | .ListComp .. => false
  | .SetComp .. => false
  | .DictComp .. => false
  | _ => true
/-- a statement name = e: by a plain store, or the comprehension's own -/
def setOk (sc : Scope) : Expr → Pos → Str → Bool
  | .ListComp .., _, _ => true
  | e, _, _ => noComp e
def isStarE : Expr → Bool
  | .Starred .. => true
  | _ => false
def nmF (sc : Scope) (line : Nat) : Expr → Option Str
  | .Name id pos => if sc.names.lookup id == some .local && pos.line == line then some id else none
  | _ => none
def lnF (ts : List Expr) : Nat := (ts.head?.map (·.pos.line)).getD 0
/-- the names that are stored from the right; none: not sure -/
def swN (sc : Scope) (ts vs : List Expr) : Option (Option (List Str)) :=
  if (!(ts.length == 2 || ts.length == 3) || vs.length != ts.length || bkB sc != .function) = true then some none
  else if vs.any isStarE = true then some none
  else if ((ts.filterMap (nmF sc (lnF ts))).length != ts.length || (ts.filterMap (nmF sc (lnF ts))).eraseDups.length != (ts.filterMap (nmF sc (lnF ts))).length) = true then some none
  else if vs.all (foldedForSure 8) = true then some none
  else if vs.all (constantsAlone 8) = true then none
  else some (some (ts.filterMap (nmF sc (lnF ts))))
def unpOk (sc : Scope) : Expr → Expr → Bool
  | .Tuple ts _ _, .Tuple vs _ _ => decide (swN sc ts vs = some none)
  | .Tuple .., e => noComp e && (match e with | .Tuple .. => false | _ => true)
  | _, _ => false
def nameB (M : Nm) (sc : Scope) (i : Nat) (x : Str) : Bool := decide (M.N[i]? = some x) && visB sc x && !(x == ("__debug__" : Str)) && !(x == ("__classdict__" : Str))
/-- name[k]..[k] -/
def pathB (M : Nm) (sc : Scope) (i : Nat) : List Nat → Expr → Bool
  | [], .Name y _ => nameB M sc i y
  | k :: ks, .Subscript e (.Constant (.int z) _ _) _ => decide (z = (k : Int)) && pathB M sc i ks e
  | _, _ => false
mutual
def chkSt (M : Nx) : S → Scope → Stmt → Bool
  | .set i x, sc, st => match st with
    | .Assign [.Name y py] e _ => decide (M.m.N[i]? = some y) && lcB sc y && decide (M.p ≤ i) && setOk sc e py y && chkX M x sc e
    | _ => false
  | .unp tg x, sc, st => match st with
    | .Assign [t] e _ => chkT M.m (lcB sc) tg t && unpOk sc t e && tg.ids.all (fun i => decide (M.p ≤ i)) && chkX M x sc e
    | _ => false
  | .par2 i j x y, sc, st => match st with
    | .Assign [.Tuple [.Name a pa, .Name b pb] k1 p1] (.Tuple [e, f] k2 p2) _ => decide (M.m.N[i]? = some a) && decide (M.m.N[j]? = some b) && decide (i ≠ j) && locB sc a && locB sc b && decide (M.p ≤ i) && decide (M.p ≤ j)
      && decide (swN sc [.Name a pa, .Name b pb] [e, f] = some (some [a, b])) && chkX M x sc e && chkX M y sc f
    | _ => false
  | .par3 i j l x y z, sc, st => match st with
    | .Assign [.Tuple [.Name a pa, .Name b pb, .Name c pc] k1 p1] (.Tuple [e, f, g] k2 p2) _ => decide (M.m.N[i]? = some a) && decide (M.m.N[j]? = some b) && decide (M.m.N[l]? = some c) && decide (i ≠ j) && decide (i ≠ l) && decide (j ≠ l)
      && locB sc a && locB sc b && locB sc c && decide (M.p ≤ i) && decide (M.p ≤ j) && decide (M.p ≤ l)
      && decide (swN sc [.Name a pa, .Name b pb, .Name c pc] [e, f, g] = some (some [a, b, c])) && chkX M x sc e && chkX M y sc f && chkX M z sc g
    | _ => false
  | .aa i j z, sc, st => match st with
    | .For (.Name y _) (.Name x _) [.Expr (.Call (.Attribute (.Name y2 _) n ap) [.Constant (.int u) _ _] [] cp) _] [] _ =>
      decide (n = "append") && (ap.endLine == cp.line) && decide (u = z) && nameB M.m sc i x && nameB M.m sc j y2 && decide (M.m.N[j]? = some y) && lcB sc y && decide (M.p ≤ i) && decide (M.p ≤ j)
    | _ => false
  | .swp i a b, sc, st => match st with
    | .Assign [.Tuple [.Subscript (.Name y1 _) a1 _, .Subscript (.Name y2 _) b1 _] _ _] (.Tuple [.Subscript (.Name y3 _) b2 _, .Subscript (.Name y4 _) a2 _] _ _) _ =>
      nameB M.m sc i y1 && nameB M.m sc i y2 && nameB M.m sc i y3 && nameB M.m sc i y4 && chkE M.m a sc a1 && chkE M.m b sc b1 && chkE M.m b sc b2 && chkE M.m a sc a2
    | _ => false
  | .app i x, sc, st => match st with
    | .Expr (.Call (.Attribute (.Name y _) n ap) [a] [] cp) _ => decide (n = "append") && (ap.endLine == cp.line) && nameB M.m sc i y && chkX M x sc a
    | _ => false
  | .put i k x, sc, st => match st with
    | .Assign [.Subscript (.Name y _) b _] e _ => nameB M.m sc i y && noComp e && chkX M k sc b && chkX M x sc e
    | _ => false
  | .ex x, sc, st => match st with
    | .Expr e _ => noComp e && chkX M x sc e
    | _ => false
  | .appP i ks z, sc, st => match st with
    | .Expr (.Call (.Attribute e n ap) [.Constant (.int u) _ _] [] cp) _ => decide (n = "append") && (ap.endLine == cp.line) && decide (u = z) && niceB e && pathB M.m sc i ks.reverse e
    | _ => false
  | .ite c a b, sc, st => match st with
    | .If t u v _ => chkX M c sc t && chkSs M a sc u && chkSs M b sc v
    | _ => false
  | .fo tg it b, sc, st => match st with
    | .For t e body [] _ => chkXt M it sc e && chkT M.m (lcB sc) tg t && tg.ids.all (fun i => decide (M.p ≤ i)) && enumOkX it tg && chkSs M b sc body
    | _ => false
  | .whl c b, sc, st => match st with
    | .While t body [] _ => chkX M c sc t && chkSs M b sc body
    | _ => false
  | .ret x, sc, st => match st with
    | .Return (some e) _ => chkX M x sc e
    | _ => false
  | .retN, _, st => match st with
    | .Return none _ => true
    | _ => false
  | .brk, _, st => match st with
    | .Break _ => true
    | _ => false
  | .cnt, _, st => match st with
    | .Continue _ => true
    | _ => false
  | .pass, _, st => match st with
    | .Pass _ => true
    | .Expr (.Constant (.str _) _ _) _ => true
    | _ => false
  | .bad, _, _ => true
def chkSs (M : Nx) : Ss → Scope → List Stmt → Bool
  | .nil, _, [] => true
  | .cons s ss, sc, st :: sts => chkSt M s sc st && chkSs M ss sc sts
  | .fz _ ss, sc, sts => chkSs M ss sc sts
  | _, _, _ => false
end

/-! ### what is promised -/
def Keep (p : Nat) (σ σ' : L2.St) : Prop := σ'.length = σ.length ∧ ∀ i, i < p → σ'[i]? = σ[i]?
theorem Keep.refl {p : Nat} {σ : L2.St} : Keep p σ σ := ⟨rfl, fun _ _ => rfl⟩
theorem Keep.trans {p : Nat} {σ σ' σ'' : L2.St} (a : Keep p σ σ') (b : Keep p σ' σ'') : Keep p σ σ'' := ⟨b.1.trans a.1, fun i h => (b.2 i h).trans (a.2 i h)⟩
theorem Keep.set {p i : Nat} {σ : L2.St} {v : Option V} (h : p ≤ i) : Keep p σ (σ.set i v) := ⟨by simp, fun j hj => List.getElem?_set_ne (by omega)⟩
def Nxt (K : PySem.W.Frag) (W H : Hp) (φ : Nat → List Addr) (σ : L2.St) (p : Nat) (ρ' : So) (Q : L2.St → Hp → Prop) : Prop := ∀ σ' W' H' φ', Stp W H (Fp φ) W' H' (Fp φ') → InvO K W' H' ρ' σ' φ' → Keep p σ σ' → Q σ' H'
def OutK (K : PySem.W.Frag) (W H : Hp) (φ : Nat → List Addr) (σ : L2.St) (p : Nat) (D : Ends) : Out → Prop
  | .nx ρ' => Nxt K W H φ σ p ρ' D.nx
  | .bk ρ' => Nxt K W H φ σ p ρ' D.bk
  | .ct ρ' => Nxt K W H φ σ p ρ' D.ct
  | .rt o ρ' => ∀ v σ' W' H' φ' T, Stp W H (Fp φ) W' H' (OKs (Fp φ') T) → InvO K W' H' ρ' σ' φ' → Keep p σ σ' → ResO K W' H' (Fp φ') T v o → D.rt v H'
def SS (K : PySem.W.Frag) (p : Nat) (t : TS) (f : So → Option Out) : Prop := ∀ ρ σ W H φ out D, InvO K W H ρ σ φ → f ρ = some out → OutK K W H φ σ p D out → t D σ H
structure CtxS (g : GG) (M : Nx) (sc : Scope) (X : Cx) : Prop where
  c : Ctx g M.m sc X
  pass : PassesOwn (model X.prog X.w) X.A X.env X.xe
  fn : ∀ x, X.fn x = true
theorem CtxS.okl {g : GG} {M : Nx} {sc : Scope} {X : Cx} (c : CtxS g M sc X) : OkT X (lcB sc) := fun x h => ⟨by rw [c.c.scope]; exact lc_of h, .inl (c.fn x)⟩
def SndSt (g : GG) (M : Nx) (G : Cy) (sc : Scope) (st : Stmt) (s : S) : Prop := ∃ t, (∀ X, CtxS g M sc X → PS X st t) ∧ SS g.K M.p t (evS G s)
def SndSs (g : GG) (M : Nx) (G : Cy) (sc : Scope) (sts : List Stmt) (ss : Ss) : Prop := ∃ t, (∀ X, CtxS g M sc X → PSs X sts t) ∧ SS g.K M.p t (evSs G ss)
section
variable {K : PySem.W.Frag} {W H W1 H1 : Hp} {φ φ1 : Nat → List Addr} {σ σ1 : L2.St} {p : Nat}
theorem Nxt.at {ρ' : So} {Q : L2.St → Hp → Prop} (n : Nxt K W H φ σ p ρ' Q) (s : Stp W H (Fp φ) W1 H1 (Fp φ1)) (k : Keep p σ σ1) : Nxt K W1 H1 φ1 σ1 p ρ' Q := fun σ' W' H' φ' s' i k' => n σ' W' H' φ' (s.trans s') i (k.trans k')
theorem OutK.at {D : Ends} {out : Out} (n : OutK K W H φ σ p D out) (s : Stp W H (Fp φ) W1 H1 (Fp φ1)) (k : Keep p σ σ1) : OutK K W1 H1 φ1 σ1 p D out := by
  cases out with
  | nx ρ => exact Nxt.at n s k
  | bk ρ => exact Nxt.at n s k
  | ct ρ => exact Nxt.at n s k
  | rt o ρ => exact fun v σ' W' H' φ' T s' i k' r => n v σ' W' H' φ' T (s.trans s') i (k.trans k') r
theorem Nxt.self {ρ : So} {Q : L2.St → Hp → Prop} (n : Nxt K W H φ σ p ρ Q) (i : InvO K W H ρ σ φ) : Q σ H := n σ W H φ Stp.refl i Keep.refl
end
section
variable {g : GG} {M : Nx} {G : Cy} {sc : Scope}
theorem name_v {X : Cx} (c : Ctx g M.m sc X) {i : Nat} {x : Str} {p : Pos} (h : nameB M.m sc i x = true) : PE X (.Name x p) (tVar i) := by
  simp only [nameB, Bool.and_eq_true, decide_eq_true_eq, Bool.not_eq_true'] at h
  obtain ⟨⟨⟨h1, h2⟩, h3⟩, h4⟩ := h
  exact pe_var (by rw [c.N]; exact h1) (by rw [c.scope]; exact vis_of h2) h3 h4
theorem nocomp_sw {e : Expr} {t : Option Expr} {l : Nat} {env : Env} (h : noComp e = true) : swapsWith e t l env = pure false := by
  cases e <;> first | rfl | simp [noComp] at h
theorem swaps_comp {elt : Expr} {gs : List Comprehension} {scope : Scope} {pos py : Pos} {y : Str} {l : Nat} {env : Env} : swapsWith (.ListComp elt gs scope pos) (some (.Name y py)) l env = pure (swB env.scope scope pos py y) := by
  unfold swapsWith swB
  rfl
theorem ss_tAsg {x : X} {te : TE} {gt : TG} {ids : List Nat} {f : O → So → Option So} (s : SX g.K te (evX G x)) (sg : SGO g.K gt ids f) (hp : ∀ i ∈ ids, M.p ≤ i) : SS g.K M.p (tAsg te gt) (fun ρ => (evX G x ρ).bind fun q => (f q.1 q.2).map Out.nx) := fun ρ σ W H φ out D i e w => by
  obtain ⟨⟨o, ρ1⟩, ex, e⟩ := Option.bind_eq_some_iff.mp e
  obtain ⟨ρ2, e2, e⟩ := Option.map_eq_some_iff.mp e
  subst e
  refine s ρ σ W H φ o ρ1 _ i ex fun v W1 H1 φ1 T s1 i1 r1 => ?_
  refine sg v o T σ W1 H1 φ1 ρ1 ρ2 _ i1 r1 e2 fun σ' φ' i' hF hl hk => ?_
  exact w σ' W1 H1 φ' (s1.weak fun a z => hF a z) i' ⟨hl, fun j hj => hk j fun z => by have := hp j z; omega⟩
theorem sgo_name {K : PySem.W.Frag} (k : Nat) : SGO K (gName k) [k] (fun o ρ => some (ρ.set k (some o))) := fun v o T σ W H φ ρ ρ' Q i r e q => by
  cases e
  obtain ⟨φ', i', hF⟩ := i.store r k
  exact q _ φ' i' hF (by simp) fun j hj => List.getElem?_set_ne (by simp at hj; exact fun z => hj z.symm)
theorem st_set {i : Nat} {x : X} {e : Expr} {y : Str} {py pos : Pos} (F : Factx g M G) (h1 : M.m.N[i]? = some y) (h2 : lcB sc y = true) (h3 : M.p ≤ i) (h4 : setOk sc e py y = true) (h5 : chkX M x sc e = true) : SndSt g M G sc (.Assign [.Name y py] e pos) (.set i x) := by
  have conv : ∀ {t : TE}, SX g.K t (evX G x) → SS g.K M.p (tAsg t (gName i)) (evS G (.set i x)) := fun {t} s ρ σ W H φ out D ii e w => by
    refine ss_tAsg (M := M) s (sgo_name i) (by simpa using h3) ρ σ W H φ out D ii ?_ w
    simp only [evS] at e
    obtain ⟨⟨o, ρ1⟩, ex, e⟩ := Option.map_eq_some_iff.mp e
    show (evX G x ρ).bind _ = _
    rw [ex]
    exact congrArg some e
  have plain : (∀ X, CtxS g M sc X → swapsWith e (some (.Name y py)) pos.line X.env = pure false) → SndSt g M G sc (.Assign [.Name y py] e pos) (.set i x) := fun hs => by
    obtain ⟨t, _, hp, s, _, _⟩ := all_x F x sc e h5
    exact ⟨tAsg t (gName i), fun X c => ps_set (by rw [c.c.N]; exact c.c.nd) (by rw [c.c.N]; exact h1) (c.okl _ h2).1 (hp X c.c).1 (hs X c) (c.okl _ h2).2, conv s⟩
  by_cases hn : noComp e = true
  · exact plain fun X c => nocomp_sw hn
  · cases e <;> first | (simp [noComp] at hn; done) | (simp [setOk, noComp] at h4; done) | skip
    rename_i elt gs scope p
    cases hb : swB sc scope p py y with
    | false => exact plain fun X c => by rw [swaps_comp, c.c.scope, hb]
    | true =>
      obtain ⟨t, hp, s⟩ := all_xl F elt gs scope p x sc h5
      have hloc : sc.names.lookup y = some .local := by
        simp only [swB, Bool.and_eq_true, beq_iff_eq] at hb
        exact hb.1.1.2
      exact ⟨tAsg t (gName i), fun X c => (hp X c.c).2 i y py pos (by rw [c.c.N]; exact h1) (by rw [c.c.scope]; exact hloc) (by rw [swaps_comp, c.c.scope, hb]), conv s⟩
theorem swN_ok {env : Env} {ts vs : List Expr} {k1 k2 : Nat} {p1 p2 : Pos} {r : Option (List Str)} (h : swN env.scope ts vs = some r) : swappedStores [.Tuple ts k1 p1] (.Tuple vs k2 p2) env = pure r := by
  unfold swN at h
  unfold swappedStores
  show (if (!(ts.length == 2 || ts.length == 3) || vs.length != ts.length || bkB env.scope != .function) = true then pure none
    else if vs.any isStarE = true then pure none
    else if ((ts.filterMap (nmF env.scope (lnF ts))).length != ts.length || (ts.filterMap (nmF env.scope (lnF ts))).eraseDups.length != (ts.filterMap (nmF env.scope (lnF ts))).length) = true then pure none
    else if vs.all (foldedForSure 8) = true then pure none
    else if vs.all (constantsAlone 8) = true then _
    else pure (some (ts.filterMap (nmF env.scope (lnF ts))))) = pure r
  split at h
  · rename_i hc; cases h; rw [if_pos hc]
  · rename_i hc
    rw [if_neg hc]
    split at h
    · rename_i hc2; cases h; rw [if_pos hc2]
    · rename_i hc2
      rw [if_neg hc2]
      split at h
      · rename_i hc3; cases h; rw [if_pos hc3]
      · rename_i hc3
        rw [if_neg hc3]
        split at h
        · rename_i hc4; cases h; rw [if_pos hc4]
        · rename_i hc4
          rw [if_neg hc4]
          split at h
          · cases h
          · rename_i hc5; cases h; rw [if_neg hc5]
end
end KP
/-! KPu: statements: each form; the whole. -/
namespace KP
open PySem L2

section
variable {g : GG} {M : Nx} {G : Cy} {sc : Scope} {K : PySem.W.Frag}
theorem PS.or {X : Cx} {st : Stmt} {t u : TS} (h1 : PS X st t) (h2 : PS X st u) : PS X st (fun D σ H => t D σ H ∨ u D σ H) :=
  ⟨fun pins s σ H D I h => h.elim (h1.run pins s σ H D I) (h2.run pins s σ H D I)⟩
theorem st_unp {tg : Tg} {x : X} {t e : Expr} {pos : Pos} (F : Factx g M G) (h1 : chkT M.m (lcB sc) tg t = true) (h2 : unpOk sc t e = true) (h3 : tg.ids.all (fun i => decide (M.p ≤ i)) = true) (h4 : chkX M x sc e = true) : SndSt g M G sc (.Assign [t] e pos) (.unp tg x) := by
  obtain ⟨te, _, hp, s, _, _⟩ := all_x F x sc e h4
  obtain ⟨gt, hg, sg⟩ := tgo_ok (g := g) (sc := sc) tg t h1
  have ha := (tg_ok (g := g) (sc := sc) tg t h1).2
  refine ⟨tAsg te gt, fun X c => ps_asg (hp X c.c).1 (hg X c.c c.okl) ?_ ?_ (ha X.env).1, fun ρ σ W H φ out D i e w => ss_tAsg (M := M) s sg (by simpa using h3) ρ σ W H φ out D i (by simpa only [evS] using e) w⟩
  · show swapsWith e (some t) pos.line X.env = pure false
    cases t <;> first | (simp [unpOk] at h2; done) | skip
    cases e <;> first | rfl | (simp [unpOk, noComp] at h2; done)
  · cases t <;> first | (simp [unpOk] at h2; done) | skip
    cases e <;> first | rfl | skip
    simp only [unpOk, decide_eq_true_eq] at h2
    exact swN_ok (by rw [c.c.scope]; exact h2)
theorem InvO.store2 {W H : Hp} {ρ : So} {σ : L2.St} {φ : Nat → List Addr} {T : List Addr} {v w : V} {o q : O} (i : InvO K W H ρ σ φ) (r : ResOL K W H (Fp φ) T [v, w] [o, q]) (k l : Nat) :
    ∃ φ', InvO K W H ((ρ.set k (some o)).set l (some q)) ((σ.set k (some v)).set l (some w)) φ' ∧ ∀ a, Fp φ' a → Fp φ a ∨ a ∈ T := by
  obtain ⟨rep, nd, dis, sep⟩ := r
  cases rep with | cons r1 rr =>
  rename_i F1 F2
  cases rr with | cons r2 rn =>
  cases rn
  rename_i F2
  obtain ⟨n1, n2, d12⟩ := List.nodup_append.mp nd
  obtain ⟨φ1, i1, h1⟩ := i.store ⟨r1, n1, fun a ha => dis a (List.mem_append_left _ ha), fun a ha => sep a (List.mem_append_left _ ha)⟩ k
  have n2' : F2.Nodup := by simpa using n2
  obtain ⟨φ2, i2, h2⟩ := i1.store ⟨r2, n2', fun a ha => dis a (by simp [ha]), fun a ha z => by
    rcases h1 a z with z | z
    · exact sep a (by simp [ha]) z
    · exact d12 a z a (by simp [ha]) rfl⟩ l
  refine ⟨φ2, i2, fun a z => ?_⟩
  rcases h2 a z with z | z
  · rcases h1 a z with z | z
    · exact .inl z
    · exact .inr (by simp [z])
  · exact .inr (by simp [z])
theorem st_par2 {i j : Nat} {x y : X} {a b : Str} {pa pb p1 p2 pos : Pos} {k1 k2 : Nat} {e f : Expr} (F : Factx g M G) (h1 : M.m.N[i]? = some a) (h2 : M.m.N[j]? = some b) (hij : i ≠ j) (la : locB sc a = true) (lb : locB sc b = true) (pi : M.p ≤ i) (pj : M.p ≤ j)
    (hs : swN sc [.Name a pa, .Name b pb] [e, f] = some (some [a, b])) (hx : chkX M x sc e = true) (hy : chkX M y sc f = true) : SndSt g M G sc (.Assign [.Tuple [.Name a pa, .Name b pb] k1 p1] (.Tuple [e, f] k2 p2) pos) (.par2 i j x y) := by
  obtain ⟨ta, hp, s⟩ := (sndxs_cons (all_x F x sc e hx) (sndxs_cons (all_x F y sc f hy) sndxs_nil)).pa
  refine ⟨tPar i j ta, fun X c => ps_par c.c.calm (by rw [c.c.N]; exact c.c.nd) (by rw [c.c.N]; exact h1) (by rw [c.c.N]; exact h2) hij (by rw [c.c.scope]; exact loc_of la) (by rw [c.c.scope]; exact loc_of lb) (hp X c.c) (swN_ok (by rw [c.c.scope]; exact hs)), fun ρ σ W H φ out D ii e w => ?_⟩
  simp only [evS] at e
  obtain ⟨⟨o, ρ1⟩, ex, e⟩ := Option.bind_eq_some_iff.mp e
  obtain ⟨⟨q, ρ2⟩, ey, e⟩ := Option.map_eq_some_iff.mp e
  subst e
  refine s ρ σ W H φ [o, q] ρ2 _ ii (by simp only [evXs]; rw [ex]; simp only [Option.bind_some]; rw [ey]; rfl) fun vs W1 H1 φ1 T s1 i1 r1 => ?_
  match vs, r1 with
  | [v, u], r1 =>
    obtain ⟨φ', i', hF⟩ := i1.store2 r1 i j
    exact ⟨v, u, rfl, w _ W1 H1 φ' (s1.weak fun a z => hF a z) i' ((Keep.set pi).trans (Keep.set pj))⟩
  | [], r1 => have := r1.rep.length; simp at this
  | [_], r1 => have := r1.rep.length; simp at this
  | _ :: _ :: _ :: _, r1 => have := r1.rep.length; simp at this
theorem InvO.store3 {W H : Hp} {ρ : So} {σ : L2.St} {φ : Nat → List Addr} {T : List Addr} {v w u : V} {o q m : O} (i : InvO K W H ρ σ φ) (r : ResOL K W H (Fp φ) T [v, w, u] [o, q, m]) (k l n : Nat) :
    ∃ φ', InvO K W H (((ρ.set k (some o)).set l (some q)).set n (some m)) (((σ.set k (some v)).set l (some w)).set n (some u)) φ' ∧ ∀ a, Fp φ' a → Fp φ a ∨ a ∈ T := by
  obtain ⟨rep, nd, dis, sep⟩ := r
  cases rep with | cons r1 rr =>
  rename_i F1 F2
  obtain ⟨n1, n2, d12⟩ := List.nodup_append.mp nd
  obtain ⟨φ1, i1, h1⟩ := i.store ⟨r1, n1, fun a ha => dis a (List.mem_append_left _ ha), fun a ha => sep a (List.mem_append_left _ ha)⟩ k
  obtain ⟨φ2, i2, h2⟩ := i1.store2 (T := F2) ⟨rr, n2, fun a ha => dis a (by simp [ha]), fun a ha z => by
    rcases h1 a z with z | z
    · exact sep a (by simp [ha]) z
    · exact d12 a z a (by simp [ha]) rfl⟩ l n
  refine ⟨φ2, i2, fun a z => ?_⟩
  rcases h2 a z with z | z
  · rcases h1 a z with z | z
    · exact .inl z
    · exact .inr (by simp [z])
  · exact .inr (by simp [z])
theorem st_par3 {i j l : Nat} {x y z : X} {a b c : Str} {pa pb pc p1 p2 pos : Pos} {k1 k2 : Nat} {e f h : Expr} (F : Factx g M G) (h1 : M.m.N[i]? = some a) (h2 : M.m.N[j]? = some b) (h3 : M.m.N[l]? = some c) (hij : i ≠ j) (hil : i ≠ l) (hjl : j ≠ l) (la : locB sc a = true) (lb : locB sc b = true) (lc : locB sc c = true)
    (pi : M.p ≤ i) (pj : M.p ≤ j) (pl : M.p ≤ l) (hs : swN sc [.Name a pa, .Name b pb, .Name c pc] [e, f, h] = some (some [a, b, c])) (hx : chkX M x sc e = true) (hy : chkX M y sc f = true) (hz : chkX M z sc h = true) :
    SndSt g M G sc (.Assign [.Tuple [.Name a pa, .Name b pb, .Name c pc] k1 p1] (.Tuple [e, f, h] k2 p2) pos) (.par3 i j l x y z) := by
  obtain ⟨ta, hp, s⟩ := (sndxs_cons (all_x F x sc e hx) (sndxs_cons (all_x F y sc f hy) (sndxs_cons (all_x F z sc h hz) sndxs_nil))).pa
  refine ⟨tPar3 i j l ta, fun X k => ps_par3 k.c.calm (by rw [k.c.N]; exact k.c.nd) (by rw [k.c.N]; exact h1) (by rw [k.c.N]; exact h2) (by rw [k.c.N]; exact h3) hij hil hjl (by rw [k.c.scope]; exact loc_of la) (by rw [k.c.scope]; exact loc_of lb) (by rw [k.c.scope]; exact loc_of lc) (hp X k.c) (swN_ok (by rw [k.c.scope]; exact hs)), fun ρ σ W H φ out D ii e w => ?_⟩
  simp only [evS] at e
  obtain ⟨⟨o, ρ1⟩, ex, e⟩ := Option.bind_eq_some_iff.mp e
  obtain ⟨⟨q, ρ2⟩, ey, e⟩ := Option.bind_eq_some_iff.mp e
  obtain ⟨⟨m, ρ3⟩, ez, e⟩ := Option.map_eq_some_iff.mp e
  subst e
  refine s ρ σ W H φ [o, q, m] ρ3 _ ii (by simp only [evXs]; rw [ex]; simp only [Option.bind_some]; rw [ey]; simp only [Option.bind_some]; rw [ez]; rfl) fun vs W1 H1 φ1 T s1 i1 r1 => ?_
  match vs, r1 with
  | [v, u, t], r1 =>
    obtain ⟨φ', i', hF⟩ := i1.store3 r1 i j l
    exact ⟨v, u, t, rfl, w _ W1 H1 φ' (s1.weak fun a z => hF a z) i' (((Keep.set pi).trans (Keep.set pj)).trans (Keep.set pl))⟩
  | [], r1 => have := r1.rep.length; simp at this
  | [_], r1 => have := r1.rep.length; simp at this
  | [_, _], r1 => have := r1.rep.length; simp at this
  | _ :: _ :: _ :: _ :: _, r1 => have := r1.rep.length; simp at this
/-- a slot's own cell is written -/
theorem InvO.write {W H : Hp} {ρ : So} {σ : L2.St} {φ : Nat → List Addr} (i : InvO K W H ρ σ φ) {k : Nat} {o' : O} {v : V} (hk : k < ρ.length) (hv : σ[k]? = some (some v)) {a : Addr} {F F' T : List Addr} {u' : HO}
    (eF : φ k = a :: F) (r : ∀ (_ : True), RepO K W (upd H a u') (a :: F') v o') (hT : ∀ b ∈ T, W b = none ∧ ¬ Fp φ b) (hsub : ∀ b ∈ F', b ∈ F ∨ b ∈ T) (nF : (a :: F').Nodup) :
    Stp W H (OKs (Fp φ) T) W (upd H a u') (Fp (fun j => if j = k then a :: F' else φ j)) ∧ InvO K W (upd H a u') (ρ.set k (some o')) σ (fun j => if j = k then a :: F' else φ j) := by
  have hak : a ∈ φ k := by rw [eF]; exact List.mem_cons_self
  have inF : ∀ b ∈ F, b ∈ φ k := fun b hb => by rw [eF]; exact List.mem_cons_of_mem _ hb
  obtain ⟨ua, hua, hma⟩ := i.own ⟨k, hak⟩
  have sm : Sub W (upd H a u') := i.sm.wr (i.dis k a hak) hua (mut_nt hma) (mut_ne hma)
  refine ⟨⟨Same.refl _, fun b u e n _ => ?_, fun b z => ?_, fun b u e => .inl e, tt_upd hua (mut_nt hma), t_upd hua (mut_nt hma) (mut_ne hma)⟩, ?_⟩
  · rw [upd_ne fun z => n (.inl ⟨k, by rw [z]; exact hak⟩)]; exact e
  · rcases fp_change z with z | ⟨j, _, z⟩
    · rcases List.mem_cons.mp z with rfl | z
      · exact .inl (.inl ⟨k, hak⟩)
      · rcases hsub b z with z | z
        · exact .inl (.inl ⟨k, inF b z⟩)
        · exact .inl (.inr z)
    · exact .inl (.inl ⟨j, z⟩)
  · refine i.change (v' := v) (Same.refl _) sm (fun j hj b hb => ⟨fun u e => ?_, i.dis j b hb⟩) (fun _ _ => rfl) rfl (fun _ => hv) (r trivial) nF (fun b hb => ?_) (fun b hb j hj z => ?_) hk
    · rw [upd_ne fun z => hj (i.sep j k a (by rw [← z]; exact hb) hak)]; exact e
    · rcases List.mem_cons.mp hb with rfl | hb
      · exact i.dis k _ hak
      · rcases hsub b hb with q | q
        · exact i.dis k b (inF b q)
        · exact (hT b q).1
    · rcases List.mem_cons.mp hb with rfl | hb
      · exact hj (i.sep j k _ z hak)
      · rcases hsub b hb with q | q
        · exact hj (i.sep j k b z (inF b q))
        · exact (hT b q).2 ⟨j, z⟩
theorem st_app {k : Nat} {x : X} {y : Str} {a : Expr} {p ap cp pos : Pos} (F : Factx g M G) (hl : (ap.endLine == cp.line) = true) (hn : nameB M.m sc k y = true) (hx : chkX M x sc a = true) :
    SndSt g M G sc (.Expr (.Call (.Attribute (.Name y p) "append" ap) [a] [] cp) pos) (.app k x) := by
  obtain ⟨tb, _, hb, sb, _, nb⟩ := all_x F x sc a hx
  refine ⟨tDrop (tBM g.K "list" rAppend (tVar k) (tCons tb tNil)), fun X c => ps_expr ?_ rfl, fun ρ σ W H φ out D i e w => ?_⟩
  · rw [← c.c.K]
    exact pe_bm PySem.F.plainAttrs_list PySem.F.slot_list_append PySem.F.type_list_append mt_append (name_v c.c hn) (pa_cons (hb X c.c).1 pa_nil (star_of nb)) rfl (few_of (by simpa using nb) (by simp)) hl (star_of nb) rfl
  · simp only [evS] at e
    split at e <;> try (cases e; done)
    rename_i os0 ho0
    obtain ⟨v, hv, rp0⟩ := i.rep k _ ho0
    obtain ⟨a0, F0, vs0, rfl, _, hH0, _, _⟩ := ol_inv rp0
    obtain ⟨⟨o, ρ1⟩, ey, e⟩ := Option.bind_eq_some_iff.mp e
    split at e <;> try (cases e; done)
    rename_i os ho
    split at e
    case isFalse => cases e
    rename_i hlen
    cases e
    refine ⟨_, hv, .inl ⟨rfl, _, .of hH0⟩, ?_⟩
    refine sb ρ σ W H φ o ρ1 _ i ey fun u W1 H1 φ1 T s1 i1 r1 => ?_
    have ho : ρ1[k]? = some (some (.ol os)) := ho
    obtain ⟨v1, hv1, rp⟩ := i1.rep k _ ho
    rw [hv] at hv1
    cases hv1
    obtain ⟨a', F, vs, ea, eF, hH, hle, rr⟩ := ol_inv rp
    cases ea
    have nd := i1.nd k
    rw [eF] at nd
    have naF := (List.nodup_cons.mp nd).1
    have hka : a0 ∈ φ1 k := by rw [eF]; exact List.mem_cons_self
    have nTa : ∀ b ∈ T, b ≠ a0 := fun b hb z => r1.sep b hb ⟨k, by rw [z]; exact hka⟩
    have hlv := rr.length
    refine ⟨a0, vs, u, rfl, rfl, hH, by have : (100000 : Nat) ≤ sizeLine := lim_line; have : os.length < 100000 := hlen; omega, ?_⟩
    have rr2 : RepOL g.K W1 (upd H1 a0 (.lst (vs ++ [u]))) F vs os := rr.mono (Same.refl _) fun b hb w e => by
      rw [upd_ne fun z => naF (by rw [← z]; exact hb)]; exact e
    have ro2 : RepO g.K W1 (upd H1 a0 (.lst (vs ++ [u]))) T u o := r1.rep.mono (Same.refl _) fun b hb w e => by
      rw [upd_ne (nTa b hb)]; exact e
    obtain ⟨st, i2⟩ := i1.write (u' := .lst (vs ++ [u])) (o' := .ol (os ++ [o])) (F' := F ++ T) (T := T) (List.getElem?_eq_some_iff.mp ho).1 hv eF (fun _ =>
      .ol upd_same (by have : os.length < 100000 := hlen; show _ ≤ 100000; simp; omega) (rr2.append (by simpa using RepOL.cons ro2 .nil))) (fun b hb => ⟨r1.dis b hb, r1.sep b hb⟩) (fun b hb => List.mem_append.mp hb) (List.nodup_cons.mpr ⟨fun z => by
        rcases List.mem_append.mp z with z | z
        · exact naF z
        · exact nTa _ z rfl, List.nodup_append.mpr ⟨(List.nodup_cons.mp nd).2, r1.nd, fun b hb c hc z => by
          subst z
          exact r1.sep b hc ⟨k, by rw [eF]; exact List.mem_cons_of_mem _ hb⟩⟩⟩)
    exact w σ W1 _ _ (s1.trans st) i2 Keep.refl
theorem zip_map1 {κ : Type} [DecidableEq κ] {k : κ} {v : V} : ∀ {ks : List κ} {xs : List V}, ks.length = xs.length → (ks.zip xs).map (fun kv => if kv.1 = k then (kv.1, v) else kv) = ks.zip ((ks.zip xs).map fun p => if p.1 = k then v else p.2)
  | [], _, _ => by simp
  | j :: ks, [], e => by simp at e
  | j :: ks, x :: xs, e => by
    simp only [List.zip_cons_cons, List.map_cons]
    rw [zip_map1 (ks := ks) (xs := xs) (by simpa using e)]
    split <;> rfl
theorem zip_map2 {κ : Type} [DecidableEq κ] {W : Hp} {k : κ} {v : V} {d : D} (rv : Rep K W v d) : ∀ {ks : List κ} {xs : List V} {ds : List D}, ks.length = xs.length → RepL K W xs ds → RepL K W ((ks.zip xs).map fun p => if p.1 = k then v else p.2) ((ks.zip ds).map fun p => if p.1 = k then d else p.2)
  | [], _, _, _, _ => by simp; exact .nil
  | j :: ks, _, _, e, .nil => by simp at e
  | j :: ks, _, _, e, .cons h r => by
    simp only [List.zip_cons_cons, List.map_cons]
    refine .cons ?_ (zip_map2 rv (by simpa using e) r)
    split
    · exact rv
    · exact h
theorem zip_any {κ : Type} [DecidableEq κ] {k : κ} : ∀ {ks : List κ} {xs : List V}, ks.length = xs.length → ((ks.zip xs).any fun kv => decide (kv.1 = k)) = ks.any fun j => decide (j = k)
  | [], _, _ => by simp
  | j :: ks, [], e => by simp at e
  | j :: ks, x :: xs, e => by
    simp only [List.zip_cons_cons, List.any_cons]
    rw [zip_any (ks := ks) (xs := xs) (by simpa using e)]
theorem putD_zip {κ : Type} [DecidableEq κ] {W : Hp} {ks : List κ} {xs : List V} {ds : List D} {k : κ} {v : V} {d : D} (e : ks.length = xs.length) (r : RepL K W xs ds) (rv : Rep K W v d) : ∃ xs', putK (ks.zip xs) k v = (putD ks ds k d).1.zip xs' ∧ (putD ks ds k d).1.length = xs'.length ∧ RepL K W xs' (putD ks ds k d).2 ∧ (putD ks ds k d).1.length ≤ ks.length + 1 := by
  unfold putD putK
  rw [zip_any e]
  split
  · exact ⟨_, zip_map1 e, by simp [e], zip_map2 rv e r, by simp⟩
  · exact ⟨xs ++ [v], by simp [List.zip_append e], by simp [e], r.snoc rv, by simp⟩
theorem keyL_tup {W : Hp} {v : V} {d : D} {k : List Key} (r : Rep K W v d) (h : d.keyL = some k) : ∃ b, v = .ref b ∧ W b = some (.tup (k.map kV)) := by
  cases r <;> simp only [D.keyL] at h <;> try (cases h; done)
  rename_i b vs ds hw rr
  exact ⟨b, rfl, by rw [hw, repL_keys rr h]⟩
theorem st_put {i : Nat} {kx x : X} {y : Str} {b e : Expr} {p p2 pos : Pos} (F : Factx g M G) (hn : nameB M.m sc i y = true) (hc : noComp e = true) (hk : chkX M kx sc b = true) (hx : chkX M x sc e = true) : SndSt g M G sc (.Assign [.Subscript (.Name y p) b p2] e pos) (.put i kx x) := by
  obtain ⟨tv, _, hv, sv, _, nv⟩ := all_x F x sc e hx
  obtain ⟨tk, _, hkk, sk, _, nk⟩ := all_x F kx sc b hk
  refine ⟨fun D σ H => sDPut (tVar i) tk tv D σ H ∨ tAsg tv (gSub (tVar i) tk rSetL) D σ H, fun X c => PS.or ?_ ?_, fun ρ σ W H φ out D ii ee w => ?_⟩
  · exact ps_dput (room1 c.c.room) (name_v c.c hn) (hkk X c.c).1 (hv X c.c).1 (nocomp_sw hc)
  · exact ps_asg (hv X c.c).1 (pg_sub (name_v c.c hn) (hkk X c.c).1 set_list (by intro v; cases b <;> first | rfl | simp [niceB] at nk)) (by unfold swapsWithSole; exact nocomp_sw hc) rfl rfl
  · simp only [evS] at ee
    obtain ⟨⟨o, ρ1⟩, ex, ee⟩ := Option.bind_eq_some_iff.mp ee
    split at ee <;> try (cases ee; done)
    rename_i so0 hso0
    have hso0 : ρ1[i]? = some (some so0) := hso0
    obtain ⟨⟨ko, ρ2⟩, ek, ee⟩ := Option.bind_eq_some_iff.mp ee
    split at ee <;> try (cases ee; done)
    rename_i so hso
    obtain ⟨so', hput, ee⟩ := Option.map_eq_some_iff.mp ee
    subst ee
    have hso : ρ2[i]? = some (some so) := hso
    have hlt : i < ρ2.length := (List.getElem?_eq_some_iff.mp hso).1
    have hput : putO so ko.d o = some so' := hput
    have ek : evX G kx ρ1 = some (ko, ρ2) := ek
    -- the state at the store
    have go : ∀ (R : V → V → V → Hp → Prop), (∀ (u v0 kv : V) W2 H2 φ2 T, Stp W H (Fp φ) W2 H2 (OKs (Fp φ2) T) → InvO g.K W2 H2 ρ2 σ φ2 → ResO g.K W2 H2 (Fp φ2) T u o → Rep g.K W2 kv ko.d → σ[i]? = some (some v0) → RepO g.K W2 H2 (φ2 i) v0 so → R u v0 kv H2) →
        tv σ H fun u H1 => tVar i σ H1 fun v0 H2 => tk σ H2 fun kv H3 => R u v0 kv H3 := fun R hR => by
      refine sv ρ σ W H φ o ρ1 _ ii ex fun u W1 H1 φ1 T s1 i1 r1 => ?_
      obtain ⟨v0, hv0, _⟩ := i1.rep i so0 hso0
      refine ⟨v0, hv0, ?_⟩
      refine sx_d sk i1 ek fun kv W2 H2 φ2 s2 i2 rk => ?_
      obtain ⟨v1, hv1, rp⟩ := i2.rep i so hso
      rw [hv0] at hv1
      cases hv1
      exact hR u v0 kv W2 H2 φ2 T (s1.trans2 s2) i2 (r1.held s2) rk hv0 rp
    cases so with
    | sh d => simp [putO] at hput
    | ot os => simp [putO] at hput
    | ol os =>
      right
      refine go (fun u v0 kv H3 => rSetL v0 kv u H3 fun H4 => D.nx σ H4) fun u v0 kv W2 H2 φ2 T st i2 r2 rk hv0 rp => ?_
      obtain ⟨a0, F', vs, rfl, eF, hH, hle, rr⟩ := ol_inv rp
      unfold putO at hput
      simp only at hput
      generalize ko.d = kd at hput rk
      cases kd <;> simp only at hput <;> try (cases hput; done)
      rename_i z
      obtain ⟨j, hj, hput⟩ := Option.map_eq_some_iff.mp hput
      subst hput
      have hix := ixN_seq hj
      have hlv := rr.length
      obtain ⟨F1, F2, F3, vj, rfl, hvj, _, _, hset⟩ := rr.split (List.getElem?_eq_getElem hix.2.1)
      have nd := i2.nd i
      rw [eF] at nd
      obtain ⟨naF, ndF⟩ := List.nodup_cons.mp nd
      have hka : a0 ∈ φ2 i := by rw [eF]; exact List.mem_cons_self
      have nTa : ∀ b ∈ T, b ≠ a0 := fun b hb z => r2.sep b hb ⟨i, by rw [z]; exact hka⟩
      have sub : ∀ b, b ∈ F1 ++ (T ++ F3) → b ∈ F1 ++ (F2 ++ F3) ∨ b ∈ T := fun b hb => by
        simp only [List.mem_append] at hb ⊢
        rcases hb with h | h | h
        · exact .inl (.inl h)
        · exact .inr h
        · exact .inl (.inr (.inr h))
      have nTF : ∀ b ∈ T, ∀ c ∈ F1 ++ (F2 ++ F3), b ≠ c := fun b hb c hc q => by
        subst q
        exact r2.sep b hb ⟨i, by rw [eF]; exact List.mem_cons_of_mem _ hc⟩
      obtain ⟨n1, n23, d1⟩ := List.nodup_append.mp ndF
      obtain ⟨n2, n3, d2⟩ := List.nodup_append.mp n23
      have hs2 := (hset T u o r2.rep).mono (H' := upd H2 a0 (.lst (vs.set j u))) (Same.refl _) fun b hb w e => by
        rw [upd_ne fun z => ?_]
        · exact e
        · subst z
          rcases sub _ hb with h | h
          · exact naF h
          · exact nTa _ h rfl
      refine ⟨a0, vs, z, j, rfl, rep_int rk, hH, by rw [hlv]; exact hj, ?_⟩
      obtain ⟨st2, i3⟩ := i2.write (u' := .lst (vs.set j u)) (o' := .ol (os.set j o)) (F' := F1 ++ (T ++ F3)) (T := T) hlt hv0 eF (fun _ => .ol upd_same (by simpa using hle) hs2) (fun b hb => ⟨r2.dis b hb, r2.sep b hb⟩) sub (List.nodup_cons.mpr ⟨fun z => by
        rcases sub _ z with h | h
        · exact naF h
        · exact nTa _ h rfl, List.nodup_append.mpr ⟨n1, List.nodup_append.mpr ⟨r2.nd, n3, fun b hb c hc => nTF b hb c (by simp [hc])⟩, fun b hb c hc => by
          rcases List.mem_append.mp hc with h | h
          · exact fun q => nTF c h b (by simp [hb]) q.symm
          · exact d1 b hb c (by simp [h])⟩⟩)
      exact w σ W2 _ _ (st.trans st2) i3 Keep.refl
    | oK ks vs =>
      left
      refine go (fun u v0 kv H3 => ∃ a H4, v0 = .ref a ∧ DPut H3 a kv u H4 ∧ D.nx σ H4) fun u v0 kv W2 H2 φ2 T st i2 r2 rk hv0 rp => ?_
      unfold putO at hput
      simp only at hput
      obtain ⟨k, hkk2, hput⟩ := Option.bind_eq_some_iff.mp hput
      split at hput
      case isFalse => cases hput
      rename_i hlen
      cases hput
      obtain ⟨W3, st3, i3, ru⟩ := r2.freeze i2
      obtain ⟨v1, hv1, rp3⟩ := i3.rep i _ hso
      rw [hv0] at hv1
      cases hv1
      generalize eF : φ2 i = Fi at rp3
      cases rp3 with | oK hH e1 l1 rr =>
      rename_i a0 xs
      obtain ⟨xs', hz, hl', hr', hle'⟩ := putD_zip (k := k) e1 rr ru
      refine ⟨a0, _, rfl, .inl ⟨_, k, hH, rep_key rk hkk2, ?_, rfl⟩, ?_⟩
      · have : (100000 : Nat) ≤ sizeLine := lim_line
        have : ks.length < 100000 := hlen
        rw [List.length_zip]; omega
      · rw [hz]
        obtain ⟨st4, i4⟩ := i3.write (u' := .dK ((putD ks vs k o.d).1.zip xs')) (o' := .oK (putD ks vs k o.d).1 (putD ks vs k o.d).2) (F := []) (F' := []) (T := []) hlt hv0 eF (fun _ => .oK upd_same hl' (by have : ks.length < 100000 := hlen; show _ ≤ 100000; omega) hr') (by simp) (by simp) (by simp)
        exact w σ W3 _ _ ((st.trans st3).nil.trans st4) i4 Keep.refl
    | oT ks vs =>
      left
      refine go (fun u v0 kv H3 => ∃ a H4, v0 = .ref a ∧ DPut H3 a kv u H4 ∧ D.nx σ H4) fun u v0 kv W2 H2 φ2 T st i2 r2 rk hv0 rp => ?_
      unfold putO at hput
      simp only at hput
      obtain ⟨k, hkk2, hput⟩ := Option.bind_eq_some_iff.mp hput
      split at hput
      case isFalse => cases hput
      rename_i hlen
      cases hput
      obtain ⟨W3, st3, i3, ru⟩ := r2.freeze i2
      obtain ⟨v1, hv1, rp3⟩ := i3.rep i _ hso
      rw [hv0] at hv1
      cases hv1
      generalize eF : φ2 i = Fi at rp3
      cases rp3 with | oT hH e1 l1 rr =>
      rename_i a0 xs
      obtain ⟨xs', hz, hl', hr', hle'⟩ := putD_zip (k := k) e1 rr ru
      obtain ⟨b, rfl, hb⟩ := keyL_tup (rk.mono st3.sW) hkk2
      refine ⟨a0, _, rfl, .inr ⟨_, k, b, hH, rfl, i3.sm _ _ hb, ?_, rfl⟩, ?_⟩
      · have : (100000 : Nat) ≤ sizeLine := lim_line
        have : ks.length < 100000 := hlen
        rw [List.length_zip]; omega
      · rw [hz]
        obtain ⟨st4, i4⟩ := i3.write (u' := .dT ((putD ks vs k o.d).1.zip xs')) (o' := .oT (putD ks vs k o.d).1 (putD ks vs k o.d).2) (F := []) (F' := []) (T := []) hlt hv0 eF (fun _ => .oT upd_same hl' (by have : ks.length < 100000 := hlen; show _ ≤ 100000; omega) hr') (by simp) (by simp) (by simp)
        exact w σ W3 _ _ ((st.trans st3).nil.trans st4) i4 Keep.refl
/-! ### an int appended deep within -/
def tPath (K : PySem.W.Frag) (te : TE) : List Nat → TE
  | [] => te
  | k :: ks => tPath K (tOp (rIxA K) te (tC (.int (k : Int)))) ks
theorem tPath_snoc {K : PySem.W.Frag} : ∀ {ks : List Nat} {te : TE} {k : Nat}, tPath K te (ks ++ [k]) = tOp (rIxA K) (tPath K te ks) (tC (.int (k : Int)))
  | [], _, _ => rfl
  | j :: ks, te, k => by
    show tPath K (tOp (rIxA K) te (tC (.int (j : Int)))) (ks ++ [k]) = _
    rw [tPath_snoc]; rfl
theorem path_pe {X : Cx} (c : Ctx g M.m sc X) {i : Nat} : ∀ {ks : List Nat} {e : Expr}, pathB M.m sc i ks e = true → PE X e (tPath g.K (tVar i) ks.reverse)
  | [], e, h => by
    cases e <;> simp only [pathB] at h <;> try (cases h; done)
    exact name_v c h
  | k :: ks, e, h => by
    unfold pathB at h
    split at h
    · rename_i h0; cases h0
    · rename_i k' ks' e' z a b p e1
      cases e1
      simp only [Bool.and_eq_true, decide_eq_true_eq] at h
      obtain ⟨rfl, h2⟩ := h
      rw [List.reverse_cons, tPath_snoc, ← c.K]
      exact pe_ix (ix_ok (room1 c.room)) (by rw [c.K]; exact path_pe c h2) pe_int (plainIx_of rfl)
    · cases h
theorem RepOL.split2 {W H : Hp} : ∀ {F : List Addr} {vs : List V} {os : List O} {k : Nat} {o : O}, RepOL K W H F vs os → os[k]? = some o → ∃ F1 F2 F3 v, F = F1 ++ (F2 ++ F3) ∧ vs[k]? = some v ∧ RepO K W H F2 v o ∧
    ∀ H' o', (∀ a, a ∈ F1 ∨ a ∈ F3 → ∀ u, H a = some u → H' a = some u) → RepO K W H' F2 v o' → RepOL K W H' (F1 ++ (F2 ++ F3)) vs (os.set k o')
  | _, _, _, _, _, .nil, e => by simp at e
  | _, _, _, 0, _, .cons (F := F) (F' := F') h r, e => by
    simp at e; subst e
    exact ⟨[], F, F', _, rfl, rfl, h, fun H' o' k h' => by simpa using RepOL.cons h' (r.mono (Same.refl _) fun a ha => k a (.inr ha))⟩
  | _, _, _, k + 1, _, .cons (F := F) (F' := F') h r, e => by
    obtain ⟨F1, F2, F3, v, rfl, hv, ho, hs⟩ := RepOL.split2 (k := k) r (by simpa using e)
    refine ⟨F ++ F1, F2, F3, v, by simp, by simpa using hv, ho, fun H' o' kk h' => ?_⟩
    rw [List.append_assoc]
    exact .cons (h.mono (Same.refl _) fun a ha => kk a (.inl (List.mem_append_left _ ha))) (hs H' o' (fun a ha => kk a (ha.elim (fun z => .inl (List.mem_append_right _ z)) .inr)) h')
theorem path_sem {W H : Hp} {z : Int} : ∀ {ks : List Nat} {F : List Addr} {v : V} {o o' : O}, Sub W H → RepO K W H F v o → F.Nodup → putP o ks z = some o' → ∃ a vs, (∀ (te : TE) (σ : L2.St), (∀ Q : VK, Q v H → te σ H Q) → ∀ Q : VK, Q (.ref a) H → tPath K te ks σ H Q) ∧ a ∈ F ∧ H a = some (.lst vs) ∧ vs.length < LIM ∧ (W a = none → (∀ b ∈ F, W b = none) → RepO K W (upd H a (.lst (vs ++ [.int z]))) F v o')
  | [], F, v, o, o', sm, r, nd, e => by
    cases r <;> simp only [putP] at e <;> try (cases e; done)
    rename_i a F vs os hH l rr
    split at e
    case isFalse => cases e
    rename_i hl
    cases e
    refine ⟨a, vs, fun te σ h Q q => h Q q, List.mem_cons_self, hH, by rw [rr.length]; exact hl, fun _ _ => ?_⟩
    have naF := (List.nodup_cons.mp nd).1
    have rr2 : RepOL K W (upd H a (.lst (vs ++ [.int z]))) F vs os := rr.mono (Same.refl _) fun b hb w e => by
      rw [upd_ne fun q => naF (by rw [← q]; exact hb)]; exact e
    have one : RepOL K W (upd H a (.lst (vs ++ [.int z]))) [] [.int z] [.sh (.int z)] := .cons (F := []) (F' := []) (.sh (.int z)) .nil
    have := rr2.append one
    rw [List.append_nil] at this
    exact .ol upd_same (by have : os.length < 100000 := hl; show _ ≤ 100000; simp; omega) this
  | k :: ks, F, v, o, o', sm, r, nd, e => by
    cases r <;> simp only [putP] at e <;> try (cases e; done)
    · rename_i a F vs os hH l rr
      obtain ⟨ok, hok, e⟩ := Option.bind_eq_some_iff.mp e
      obtain ⟨ok', hk', e⟩ := Option.map_eq_some_iff.mp e
      subst e
      obtain ⟨F1, F2, F3, vk, rfl, hvk, rk, hset⟩ := rr.split2 hok
      obtain ⟨naF, ndF⟩ := List.nodup_cons.mp nd
      obtain ⟨n1, n23, d1⟩ := List.nodup_append.mp ndF
      obtain ⟨n2, n3, d2⟩ := List.nodup_append.mp n23
      obtain ⟨b, us, hp, hb, hHb, hlb, hr⟩ := path_sem (ks := ks) sm rk n2 hk'
      refine ⟨b, us, fun te σ h Q q => hp (tOp (rIxA K) te (tC (.int (k : Int)))) σ (fun Q2 q2 => h _ ?_) Q q, by simp [hb], hHb, hlb, fun w0 wF => ?_⟩
      · exact .inl ⟨_, _, _, vk, rfl, rfl, .of hH, atI_natC hvk, q2⟩
      · have r2 := hr w0 fun c hc => wF c (by simp [hc])
        refine .ol (by rw [upd_ne fun q => naF (by rw [q]; simp [hb])]; exact hH) (by simpa using l) (hset _ ok' (fun c hc u e => ?_) r2)
        rw [upd_ne fun q => ?_]
        · exact e
        · subst q
          rcases hc with hc | hc
          · exact d1 _ hc _ (by simp [hb]) rfl
          · exact d2 _ hb _ hc rfl
    · rename_i a vs os hW rr
      obtain ⟨ok, hok, e⟩ := Option.bind_eq_some_iff.mp e
      obtain ⟨ok', hk', e⟩ := Option.map_eq_some_iff.mp e
      subst e
      obtain ⟨F1, F2, F3, vk, rfl, hvk, rk, hset⟩ := rr.split2 hok
      obtain ⟨n1, n23, d1⟩ := List.nodup_append.mp nd
      obtain ⟨n2, n3, d2⟩ := List.nodup_append.mp n23
      obtain ⟨b, us, hp, hb, hHb, hlb, hr⟩ := path_sem (ks := ks) sm rk n2 hk'
      refine ⟨b, us, fun te σ h Q q => hp (tOp (rIxA K) te (tC (.int (k : Int)))) σ (fun Q2 q2 => h _ ?_) Q q, by simp [hb], hHb, hlb, fun w0 wF => ?_⟩
      · exact .inr (.inl ⟨_, _, _, vk, rfl, rfl, .of (sm _ _ hW), atI_natC hvk, q2⟩)
      · have r2 := hr w0 fun c hc => wF c (by simp [hc])
        refine .ot hW (hset _ ok' (fun c hc u e => ?_) r2)
        rw [upd_ne fun q => ?_]
        · exact e
        · subst q
          rcases hc with hc | hc
          · exact d1 _ hc _ (by simp [hb]) rfl
          · exact d2 _ hb _ hc rfl
theorem st_appP {k : Nat} {ks : List Nat} {z : Int} {e : Expr} {kk : Nat} {p ap cp pos : Pos} (F : Factx g M G) (hl : (ap.endLine == cp.line) = true) (hni : niceB e = true) (hn : pathB M.m sc k ks.reverse e = true) :
    SndSt g M G sc (.Expr (.Call (.Attribute e "append" ap) [.Constant (.int z) kk p] [] cp) pos) (.appP k ks z) := by
  refine ⟨tDrop (tBM g.K "list" rAppend (tPath g.K (tVar k) ks) (tCons (tC (.int z)) tNil)), fun X c => ps_expr ?_ rfl, fun ρ σ W H φ out D i e w => ?_⟩
  · have hp := path_pe c.c hn
    rw [List.reverse_reverse] at hp
    rw [← c.c.K] at hp ⊢
    exact pe_bm PySem.F.plainAttrs_list PySem.F.slot_list_append PySem.F.type_list_append mt_append hp (pa_cons pe_int pa_nil) (base_of hni _) (few_of (by simp [niceB]) (by simp)) hl rfl rfl
  · simp only [evS] at e
    split at e <;> try (cases e; done)
    rename_i o ho
    obtain ⟨o', hput, e⟩ := Option.map_eq_some_iff.mp e
    subst e
    obtain ⟨v, hv, rp⟩ := i.rep k _ ho
    obtain ⟨a, vs, hp, haF, hH, hlen, hr⟩ := path_sem i.sm rp (i.nd k) hput
    have r2 := hr (i.dis k a haF) fun b hb => i.dis k b hb
    refine hp (tVar k) σ (fun Q q => ⟨v, hv, q⟩) _ ?_
    refine ⟨.inl ⟨rfl, _, .of hH⟩, a, vs, .int z, rfl, rfl, hH, by have : (100000 : Nat) ≤ sizeLine := lim_line; have : vs.length < 100000 := hlen; omega, ?_⟩
    have hk : k < ρ.length := (List.getElem?_eq_some_iff.mp ho).1
    have sm : Sub W (upd H a (.lst (vs ++ [.int z]))) := i.sm.wr (i.dis k a haF) hH
    have i2 := i.change (k := k) (σ' := σ) (v' := v) (F' := φ k) (Same.refl _) sm (fun j hj b hb => ⟨fun u e => by
      rw [upd_ne fun q => hj (i.sep j k a (by rw [← q]; exact hb) haF)]; exact e, i.dis j b hb⟩) (fun _ _ => rfl) rfl (fun _ => hv) r2 (i.nd k) (fun b hb => i.dis k b hb) (fun b hb j hj q => hj (i.sep j k b q hb)) hk
    refine w σ W _ _ ⟨Same.refl _, fun b u e n _ => ?_, fun b q => ?_, fun b u e => .inl e, tt_upd hH, t_upd hH⟩ i2 Keep.refl
    · rw [upd_ne fun q => n ⟨k, by rw [q]; exact haF⟩]; exact e
    · rcases fp_change q with q | ⟨j, _, q⟩
      · exact .inl ⟨k, q⟩
      · exact .inl ⟨j, q⟩
theorem oInts_rep {W H : Hp} : ∀ {F : List Addr} {vs : List V} {os : List O} {ns : List Int}, RepOL K W H F vs os → oInts os = some ns → vs = ns.map V.int ∧ F = [] ∧ os = ns.map fun k => .sh (.int k)
  | _, _, _, ns, .nil, e => by simp only [oInts] at e; cases e; exact ⟨rfl, rfl, rfl⟩
  | _, _, _, ns, .cons h r, e => by
    unfold oInts at e
    split at e
    · rename_i z; cases z
    · rename_i k q z
      cases z
      obtain ⟨ms, em, e⟩ := Option.map_eq_some_iff.mp e
      subst e
      obtain ⟨rfl, rfl, rfl⟩ := oInts_rep r em
      cases h with | sh h => cases h; exact ⟨rfl, rfl, rfl⟩
    · cases e
theorem asI_some {r : R} {k : Int} (h : asI r = some k) : r = .sh (.int k) := by
  unfold asI at h
  split at h <;> cases h; rfl
theorem shR_ol {ρ : So} {i : Nat} {os os' : List O} (h : ρ[i]? = some (some (.ol os))) : ShR (ρ.set i (some (.ol os'))) = ShR ρ := by
  unfold ShR
  apply List.ext_getElem?
  intro j
  rw [List.getElem?_map, List.getElem?_map]
  by_cases q : i = j
  · subst q
    rw [h, List.getElem?_set_self (List.getElem?_eq_some_iff.mp h).1]; rfl
  · rw [List.getElem?_set_ne q]
theorem repOL_ints {W H : Hp} : ∀ ns : List Int, RepOL K W H [] (ns.map V.int) (ns.map fun k => .sh (.int k))
  | [] => .nil
  | n :: ns => .cons (F := []) (F' := []) (.sh (.int n)) (repOL_ints ns)
theorem st_aa {i j : Nat} {z : Int} {x y y2 : Str} {px py p2 ap p1 cp p0 pos : Pos} {kk : Nat} (hl : (ap.endLine == cp.line) = true) (nx : nameB M.m sc i x = true) (ny : nameB M.m sc j y2 = true) (hj : M.m.N[j]? = some y) (ly : lcB sc y = true) (pi : M.p ≤ i) (pj : M.p ≤ j) :
    SndSt g M G sc (.For (.Name y py) (.Name x px) [.Expr (.Call (.Attribute (.Name y2 p2) "append" ap) [.Constant (.int z) kk p1] [] cp) p0] [] pos) (.aa i j z) := by
  refine ⟨tFor (iSeq g.K (tVar i)) (gName j) (tDrop (tBM g.K "list" rAppend (tVar j) (tCons (tC (.int z)) tNil))), fun X c => ?_, fun ρ σ W H φ out D ii ee w => ?_⟩
  · rw [← c.c.K]
    exact ps_for c.pass c.c.calm (pi_seq (name_v c.c nx)) (pg_name (by rw [c.c.N]; exact c.c.nd) (by rw [c.c.N]; exact hj) (by rw [c.c.scope]; exact lc_of ly) (.inl (c.fn y)))
      (pss_one (ps_expr (pe_bm PySem.F.plainAttrs_list PySem.F.slot_list_append PySem.F.type_list_append mt_append (name_v c.c ny) (pa_cons pe_int pa_nil) rfl (few_of (by simp [niceB]) (by simp)) hl rfl rfl) rfl))
  · simp only [evS] at ee
    split at ee <;> try (cases ee; done)
    rename_i os ho
    split at ee <;> cases ee
    rename_i hall
    rw [Bool.and_eq_true, decide_eq_true_eq] at hall
    obtain ⟨hall, hjr⟩ := hall
    obtain ⟨v0, hv0, rp⟩ := ii.rep i _ ho
    generalize eF : φ i = Fi at rp
    cases rp with | ol hH hle rr =>
    rename_i a0 Fl vs
    have hlv := rr.length
    have nd := ii.nd i
    rw [eF] at nd
    have naF := (List.nodup_cons.mp nd).1
    have inF : ∀ b ∈ Fl, b ∈ φ i := fun b hb => by rw [eF]; exact List.mem_cons_of_mem _ hb
    obtain ⟨φ0, i0, h1, h2⟩ := ii.unS [i, j]
    have sub0 : ∀ a, Fp φ0 a → Fp φ a := fun a ⟨k, hk⟩ => by
      by_cases q : k ∈ [i, j]
      · rw [h1 k q] at hk; cases hk
      · rw [h2 k q] at hk; exact ⟨k, hk⟩
    have nF0 : ∀ b ∈ Fl, ¬ Fp φ0 b := fun b hb ⟨k, hk⟩ => by
      by_cases q : k ∈ [i, j]
      · rw [h1 k q] at hk; cases hk
      · rw [h2 k q] at hk
        exact q (by rw [ii.sep k i b hk (inF b hb)]; simp)
    refine ⟨.ref a0, hv0, a0, rfl, .inl ⟨⟨vs, .of hH⟩, ?_⟩⟩
    refine for_it (walk_list (K := g.K) (a := a0) (xs := vs)) (fun n σ' H' => ∃ Fn, InvO g.K W H' (KP.unS [i, j] ρ) σ' φ0 ∧ Stp W H (Fp φ) W H' (Fp φ0) ∧ Keep M.p σ σ' ∧ H' a0 = some (.lst vs) ∧ RepOL g.K W H' Fn (vs.drop n) (os.drop n) ∧ Fn.Nodup ∧ ∀ b ∈ Fn, b ∈ Fl)
      ⟨Fl, i0, Stp.refl.weak sub0, Keep.refl, hH, by simpa using rr, (List.nodup_cons.mp nd).2, fun b hb => hb⟩ ?_ ?_ ?_
    · rintro n σ' H' _ ⟨_, _, _, _, h, _⟩
      exact .of h
    · rintro n xv σ' H' H2 hn ⟨Fn, i', ss, kk, ha, rn, ndn, hsub⟩ ⟨rfl, hx⟩
      have hno : n < os.length := by omega
      rw [List.drop_eq_getElem_cons hn, List.drop_eq_getElem_cons hno] at rn
      have exv : vs[n] = xv := by
        have := List.getElem?_eq_getElem hn
        rw [hx] at this
        exact (Option.some.inj this).symm
      rw [exv] at rn
      have ho' : olB os[n] = true := List.all_eq_true.mp hall _ (List.getElem_mem _)
      generalize os[n] = on at rn ho'
      cases rn with | cons hh hr =>
      rename_i F1 F2
      cases hh with
      | sh => simp [olB] at ho'
      | ot => simp [olB] at ho'
      | oK => simp [olB] at ho'
      | oT => simp [olB] at ho'
      | ol hb hlb rb =>
      rename_i b F1 us os1
      have hbl : os1.length < 100000 := by simpa [olB] using ho'
      have hul := rb.length
      have bF : b ∈ Fl := hsub b (by simp)
      have hba : b ≠ a0 := fun q => naF (by rw [← q]; exact bF)
      have hWb : W b = none := ii.dis i b (inF b bF)
      have hjl : j < σ'.length := by
        have e1 := kk.1
        have e2 := ii.len
        omega
      refine ⟨.ref b, List.getElem?_set_self hjl, .inl ⟨rfl, _, .of hb⟩, b, us, .int z, rfl, rfl, hb, by have : (100000 : Nat) ≤ sizeLine := lim_line; omega, ?_⟩
      have nbF : ∀ c ∈ F2, c ≠ b := fun c hc q => by
        have := (List.nodup_append.mp ndn).2.2 b (by simp) c hc
        exact this q.symm
      have ir : InvO g.K W H2 (KP.unS [i, j] ρ) (σ'.set j (some (.ref b))) φ0 := i'.resig (by simp) fun k o e => by
        by_cases q : k ∈ [i, j]
        · exact absurd e (unS_none [i, j] ρ k q o)
        · exact List.getElem?_set_ne (fun z => q (by subst z; simp))
      refine ⟨F2, ir.move (Same.refl _) (ir.sm.wr hWb hb) (fun c hc => ⟨fun u e => ?_, ?_⟩), ⟨Same.refl _, fun c u e n q => ?_, ss.nf, ss.nw, fun c ps e => ?_, fun t => tabs_upd (ss.t t) hb (fun _ e => by cases e) (fun _ e => by cases e)⟩, kk.trans (Keep.set pj), ?_, hr.mono (Same.refl _) fun c hc u e => ?_, (List.nodup_append.mp ndn).2.1, fun c hc => hsub c (List.mem_append_right _ hc)⟩
      · rw [upd_ne fun q => nF0 b bF (by rw [← q]; exact hc)]; exact e
      · obtain ⟨k, hk⟩ := hc
        exact ir.dis k c hk
      · rw [upd_ne fun q' => n ⟨i, by rw [q']; exact inF b bF⟩]
        exact ss.pr c u e n q
      · rcases ss.tt c ps e with z | ⟨ps', z⟩
        · exact .inl z
        · refine .inr ⟨ps', ?_⟩
          rw [upd_ne fun q => by rw [q, hb] at z; cases z]; exact z
      · rw [upd_ne hba.symm]; exact ha
      · rw [upd_ne (nbF c hc)]; exact e
    · rintro σ' H' ⟨Fn, i', ss, kk, -⟩
      exact w σ' W H' φ0 ss i' kk
theorem swap_none {o1 i1 o2 i2 : Expr} {q1 q2 t1 : Pos} {k1 k2 : Nat} {t2 : Pos} {v1 v2 : Expr} {env : Env} : swappedStores [.Tuple [.Subscript o1 i1 q1, .Subscript o2 i2 q2] k1 t1] (.Tuple [v1, v2] k2 t2) env = pure none := by
  unfold swappedStores
  simp
theorem st_swp {i : Nat} {a b : E} {y1 y2 y3 y4 : Str} {p1 p2 p3 p4 q1 q2 q3 q4 t1 t2 pos : Pos} {k1 k2 : Nat} {a1 a2 b1 b2 : Expr} (F : Factx g M G) (n1 : nameB M.m sc i y1 = true) (n2 : nameB M.m sc i y2 = true) (n3 : nameB M.m sc i y3 = true) (n4 : nameB M.m sc i y4 = true)
    (ha1 : chkE M.m a sc a1 = true) (hb1 : chkE M.m b sc b1 = true) (hb2 : chkE M.m b sc b2 = true) (ha2 : chkE M.m a sc a2 = true) :
    SndSt g M G sc (.Assign [.Tuple [.Subscript (.Name y1 p1) a1 q1, .Subscript (.Name y2 p2) b1 q2] k1 t1] (.Tuple [.Subscript (.Name y3 p3) b2 q3, .Subscript (.Name y4 p4) a2 q4] k2 t2) pos) (.swp i a b) := by
  obtain ⟨ta1, _, pa1, sa1, _, na1⟩ := all_e F.F a sc a1 ha1
  obtain ⟨tb1, _, pb1, sb1, _, nb1⟩ := all_e F.F b sc b1 hb1
  obtain ⟨tb2, _, pb2, sb2, _, nb2⟩ := all_e F.F b sc b2 hb2
  obtain ⟨ta2, _, pa2, sa2, _, na2⟩ := all_e F.F a sc a2 ha2
  refine ⟨tAsg (tTup (tCons (tOp (rIxA g.K) (tVar i) tb2) (tCons (tOp (rIxA g.K) (tVar i) ta2) tNil))) (gTup g.K 2 (gCons (gSub (tVar i) ta1 rSetL) (gCons (gSub (tVar i) tb1 rSetL) gNil))), fun X c => ?_, fun ρ σ W H φ out D ii ee w => ?_⟩
  · have hK := c.c.K
    rw [← hK]
    refine ps_asg (pe_tup (pa_cons (pe_ix (ix_ok (room1 c.c.room)) (name_v c.c n3) (pb2 X c.c).1 (plainIx_of nb2)) (pa_cons (pe_ix (ix_ok (room1 c.c.room)) (name_v c.c n4) (pa2 X c.c).1 (plainIx_of na2)) pa_nil))) (pg_tup c.c.calm (pgs_cons (pg_sub (name_v c.c n1) (pa1 X c.c).1 set_list (by intro v; cases a1 <;> first | rfl | simp [niceB] at na1)) (pgs_cons (pg_sub (name_v c.c n2) (pb1 X c.c).1 set_list (by intro v; cases b1 <;> first | rfl | simp [niceB] at nb1)) pgs_nil))) rfl (swap_none)
  · simp only [evS] at ee
    split at ee <;> try (cases ee; done)
    rename_i os ho
    obtain ⟨ns, eos, ee⟩ := Option.bind_eq_some_iff.mp ee
    obtain ⟨ia, eia, ee⟩ := Option.bind_eq_some_iff.mp ee
    obtain ⟨ib, eib, ee⟩ := Option.bind_eq_some_iff.mp ee
    obtain ⟨ja, hja, ee⟩ := Option.bind_eq_some_iff.mp ee
    obtain ⟨jb, hjb, ee⟩ := Option.bind_eq_some_iff.mp ee
    cases ee
    obtain ⟨ra, era, eia⟩ := Option.bind_eq_some_iff.mp eia
    obtain ⟨rb, erb, eib⟩ := Option.bind_eq_some_iff.mp eib
    have := asI_some eia; subst this
    have := asI_some eib; subst this
    obtain ⟨v0, hv0, rp⟩ := ii.rep i _ ho
    generalize eF : φ i = Fi at rp
    cases rp with | ol hH hle rr =>
    rename_i a0 Fl vs
    obtain ⟨rfl, rfl, rfl⟩ := oInts_rep rr eos
    have hlt : i < ρ.length := (List.getElem?_eq_some_iff.mp ho).1
    have ga := ixN_seq hja
    have gb := ixN_seq hjb
    -- the right side
    refine ⟨.ref a0, hv0, ?_⟩
    refine sb2 _ σ W H _ _ ii.sm ii.shR erb fun vb W1 H1 g1 rb1 => ?_
    have i1 := ii.grow g1
    have h1 := g1.sH.l hH
    cases (show Rep g.K W1 vb (.int ib) from rb1)
    refine .inl ⟨a0, _, ib, .int (ns.getD jb 0), rfl, rfl, .of h1, by unfold L2.atI; rw [List.length_map, hjb]; simp [List.getD, List.getElem?_eq_getElem gb.2.1], ?_⟩
    refine ⟨.ref a0, hv0, ?_⟩
    refine sa2 _ σ W1 H1 _ _ i1.sm i1.shR era fun va W2 H2 g2 ra1 => ?_
    have i2 := i1.grow g2
    have h2 := g2.sH.l h1
    cases (show Rep g.K W2 va (.int ia) from ra1)
    refine .inl ⟨a0, _, ia, .int (ns.getD ja 0), rfl, rfl, .of h2, by unfold L2.atI; rw [List.length_map, hja]; simp [List.getD, List.getElem?_eq_getElem ga.2.1], ?_⟩
    refine ⟨Nat.le_trans (show 2 ≤ LIM by decide) lim_line, fun p hp => ?_⟩
    -- the tuple
    have g3 : Grow W2 H2 (upd W2 p (.tup [.int (ns.getD jb 0), .int (ns.getD ja 0)])) (upd H2 p (.tup [.int (ns.getD jb 0), .int (ns.getD ja 0)])) := Grow.new i2.sm hp
    have i3 := i2.grow g3
    have h3 := g3.sH.l h2
    refine ⟨p, _, rfl, .of upd_same, rfl, _, _, rfl, .ref a0, hv0, ?_⟩
    refine sa1 _ σ _ _ _ _ i3.sm i3.shR era fun va' W4 H4 g4 ra2 => ?_
    have i4 := i3.grow g4
    have h4 := g4.sH.l h3
    cases (show Rep g.K W4 va' (.int ia) from ra2)
    refine ⟨a0, _, ia, ja, rfl, rfl, h4, by rw [List.length_map]; exact hja, ?_⟩
    have e1 : (ns.map V.int).set ja (.int (ns.getD jb 0)) = (ns.set ja (ns.getD jb 0)).map V.int := by rw [List.map_set]
    rw [e1]
    obtain ⟨st5, i5⟩ := i4.write (k := i) (v := .ref a0) (u' := .lst ((ns.set ja (ns.getD jb 0)).map V.int)) (o' := .ol ((ns.set ja (ns.getD jb 0)).map fun k => .sh (.int k))) (F := []) (F' := []) (T := []) hlt hv0 eF (fun _ => .ol upd_same (by simpa using hle) (repOL_ints _)) (by simp) (by simp) (by simp)
    refine ⟨_, _, rfl, .ref a0, hv0, ?_⟩
    refine sb1 _ σ _ _ _ _ i5.sm i5.shR (by rw [shR_ol ho]; exact erb) fun vb' W6 H6 g6 rb2 => ?_
    have i6 := i5.grow g6
    have h6 := g6.sH.l (upd_same (H := H4) (a := a0) (o := .lst ((ns.set ja (ns.getD jb 0)).map V.int)))
    cases (show Rep g.K W6 vb' (.int ib) from rb2)
    refine ⟨a0, _, ib, jb, rfl, rfl, h6, by rw [List.length_map, List.length_set]; exact hjb, ?_⟩
    have e2 : ((ns.set ja (ns.getD jb 0)).map V.int).set jb (.int (ns.getD ja 0)) = (swapI ns ja jb).map V.int := by unfold swapI; exact (List.map_set ..).symm
    rw [e2]
    obtain ⟨st7, i7⟩ := i6.write (k := i) (v := .ref a0) (u' := .lst ((swapI ns ja jb).map V.int)) (o' := .ol ((swapI ns ja jb).map fun k => .sh (.int k))) (F := []) (F' := []) (T := []) (by simpa using hlt) hv0 (by simp) (fun _ => .ol upd_same (by unfold swapI; simpa using hle) (repOL_ints _)) (by simp) (by simp) (by simp)
    refine ⟨rfl, ?_⟩
    rw [List.set_set] at i7
    have gg := ((g1.trans g2).trans g3).trans g4
    have nil : ∀ {W H W' H' : Hp} {F F1 : Addr → Prop}, Stp W H (OKs F []) W' H' F1 → Stp W H F W' H' F1 := fun {W H W' H' F F1} s => by
      have : OKs F [] = F := by
        funext a
        exact propext ⟨fun z => z.elim id (fun z => by cases z), .inl⟩
      rw [this] at s
      exact s
    exact w σ _ _ _ (((Grow.stp gg).trans (nil st5)).trans ((Grow.stp g6).trans (nil st7))) i7 Keep.refl
theorem st_ex {x : X} {e : Expr} {pos : Pos} (F : Factx g M G) (hc : noComp e = true) (hx : chkX M x sc e = true) : SndSt g M G sc (.Expr e pos) (.ex x) := by
  obtain ⟨t, _, hp, s, _, _⟩ := all_x F x sc e hx
  refine ⟨tDrop t, fun X c => ps_expr (hp X c.c).1 (nocomp_sw hc), fun ρ σ W H φ out D i e w => ?_⟩
  simp only [evS] at e
  obtain ⟨⟨o, ρ1⟩, ex, e⟩ := Option.map_eq_some_iff.mp e
  subst e
  exact s ρ σ W H φ o ρ1 _ i ex fun v W1 H1 φ1 T s1 i1 r1 => w σ W1 H1 φ1 (s1.weak fun a z => .inl z) i1 Keep.refl
theorem st_ret {x : X} {e : Expr} {pos : Pos} (F : Factx g M G) (hx : chkX M x sc e = true) : SndSt g M G sc (.Return (some e) pos) (.ret x) := by
  obtain ⟨t, _, hp, s, _, _⟩ := all_x F x sc e hx
  refine ⟨tRet t, fun X c => ps_ret (hp X c.c).1, fun ρ σ W H φ out D i e w => ?_⟩
  simp only [evS] at e
  obtain ⟨⟨o, ρ1⟩, ex, e⟩ := Option.map_eq_some_iff.mp e
  subst e
  exact s ρ σ W H φ o ρ1 _ i ex fun v W1 H1 φ1 T s1 i1 r1 => w v σ W1 H1 φ1 T s1 i1 Keep.refl r1
theorem st_ite {c : X} {a b : Ss} {t : Expr} {u v : List Stmt} {pos : Pos} (F : Factx g M G) (hc : chkX M c sc t = true) (ha : SndSs g M G sc u a) (hb : SndSs g M G sc v b) : SndSt g M G sc (.If t u v pos) (.ite c a b) := by
  obtain ⟨_, tt, hp, _, st, _⟩ := all_x F c sc t hc
  obtain ⟨ta, ha, sa⟩ := ha
  obtain ⟨tb, hb, sb⟩ := hb
  refine ⟨tIfS tt ta tb, fun X k => ps_if (hp X k.c).2 (ha X k) (hb X k), fun ρ σ W H φ out D i e w => ?_⟩
  simp only [evS] at e
  obtain ⟨⟨k, ρ1⟩, ek, e⟩ := Option.bind_eq_some_iff.mp e
  refine sxt_at st i ek fun W1 H1 φ1 s1 i1 => ?_
  cases k with
  | true => exact iteT (sa ρ1 σ W1 H1 φ1 out D i1 (by simpa using e) (w.at s1 Keep.refl))
  | false => exact iteF (sb ρ1 σ W1 H1 φ1 out D i1 (by simpa using e) (w.at s1 Keep.refl))
theorem st_fo {tg : Tg} {it : Xt} {b : Ss} {t e : Expr} {body : List Stmt} {pos : Pos} (F : Factx g M G) (h1 : chkXt M it sc e = true) (h2 : chkT M.m (lcB sc) tg t = true) (h3 : tg.ids.all (fun i => decide (M.p ≤ i)) = true) (h4 : enumOkX it tg = true) (hb : SndSs g M G sc body b) :
    SndSt g M G sc (.For t e body [] pos) (.fo tg it b) := by
  obtain ⟨wi, hi, si, hf⟩ := all_xt F it sc t e h1 fun z => or_of_tp h2 (by cases it <;> first | exact h4 | cases z)
  obtain ⟨gt, hg, sg⟩ := tgo_ok (g := g) (sc := sc) tg t h2
  obtain ⟨tb, hb, sb⟩ := hb
  refine ⟨tFor wi gt tb, fun X k => ps_for k.pass k.c.calm (hi X k.c) (hg X k.c k.okl) (hb X k) (fun x => hf _ x), fun ρ σ W H φ out D i e w => ?_⟩
  simp only [evS] at e
  obtain ⟨⟨ds, ρ1⟩, eds, e⟩ := Option.bind_eq_some_iff.mp e
  refine si ρ σ W H φ ds ρ1 _ i eds fun J W1 H1 φ1 s1 i1 wk => ?_
  obtain ⟨hlim, Y, wk, hY⟩ := wk
  have w1 : OutK g.K W1 H1 φ1 σ M.p D out := w.at s1 Keep.refl
  refine for_it wk (fun n σ' H' => ∃ Wi φi ρi, InvO g.K Wi H' ρi σ' φi ∧ Stp W1 H1 (Fp φ1) Wi H' (Fp φi) ∧ Keep M.p σ σ' ∧ forN (fun d ρ' => (bindO tg (.sh d) ρ').bind fun ρ'' => evSs G b ρ'') (ds.drop n) ρi = some out) ⟨W1, φ1, ρ1, i1, Stp.refl, Keep.refl, e⟩ ?_ ?_ ?_
  · rintro n σ' H' _ ⟨Wi, φi, ρi, ii, ss, _⟩
    exact ss.sW.trans ii.sm.s
  · rintro n xv σ' H' H2 hn ⟨Wi, φi, ρi, ii, ss, kk, ef⟩ hy
    obtain ⟨d, hd, yy⟩ := hY n H' xv H2 hn (ss.sW.trans ii.sm.s) hy
    obtain ⟨W2, g2, rx⟩ := yy Wi ss.sW ii.sm
    have hdrop : ds.drop n = d :: ds.drop (n + 1) := by
      obtain ⟨hlt, he⟩ := List.getElem?_eq_some_iff.mp hd
      rw [List.drop_eq_getElem_cons hlt, he]
    rw [hdrop] at ef
    unfold forN at ef
    obtain ⟨o1, eo, ef⟩ := Option.bind_eq_some_iff.mp ef
    obtain ⟨ρb, eρ, eo⟩ := Option.bind_eq_some_iff.mp eo
    refine sg xv (.sh d) [] σ' W2 H2 φi ρi ρb _ (ii.grow g2) (res_sh rx) eρ fun σ2 φb ib hFb l2 k2 => ?_
    have sb2 : Stp W1 H1 (Fp φ1) W2 H2 (Fp φb) := ss.trans ((Grow.stp g2).weak fun a z => (hFb a z).elim id fun z => by cases z)
    have kb : Keep M.p σ σ2 := kk.trans ⟨l2, fun j hj => k2 j fun z => by
      have := List.all_eq_true.mp h3 j z
      simp at this; omega⟩
    refine sb ρb σ2 W2 H2 φb o1 _ ib eo ?_
    have wb := w1.at sb2 kb
    cases o1 with
    | nx ρn => exact fun σ3 W3 H3 φ3 s3 i3 k3 => ⟨W3, φ3, ρn, i3, sb2.trans s3, kb.trans k3, ef⟩
    | ct ρn => exact fun σ3 W3 H3 φ3 s3 i3 k3 => ⟨W3, φ3, ρn, i3, sb2.trans s3, kb.trans k3, ef⟩
    | bk ρn =>
      cases ef
      exact wb
    | rt o ρn =>
      cases ef
      exact wb
  · rintro σ' H' ⟨Wi, φi, ρi, ii, ss, kk, ef⟩
    rw [List.drop_length] at ef
    simp only [forN] at ef
    cases ef
    exact w1 σ' Wi H' φi ss ii kk
theorem st_whl {c : X} {b : Ss} {t : Expr} {body : List Stmt} {pos : Pos} (F : Factx g M G) (hc : chkX M c sc t = true) (hb : SndSs g M G sc body b) : SndSt g M G sc (.While t body [] pos) (.whl c b) := by
  obtain ⟨_, tt, hp, _, st, _⟩ := all_x F c sc t hc
  obtain ⟨tb, hb, sb⟩ := hb
  refine ⟨tWhile tt tb, fun X k => ps_while k.pass (hp X k.c).2 (hb X k), fun ρ σ W H φ out D i e w => ?_⟩
  simp only [evS] at e
  refine ⟨fun m σ' H' => ∃ Wi φi ρi, InvO g.K Wi H' ρi σ' φi ∧ Stp W H (Fp φ) Wi H' (Fp φi) ∧ Keep M.p σ σ' ∧ whlN (fun ρ' => at2 (evX G c ρ')) (fun ρ' => evSs G b ρ') m ρi = some out, ⟨FUEL, W, φ, ρ, i, Stp.refl, Keep.refl, e⟩, ?_⟩
  rintro m σ' H' ⟨Wi, φi, ρi, ii, ss, kk, ef⟩
  cases m with
  | zero => simp [whlN] at ef
  | succ m =>
    unfold whlN at ef
    obtain ⟨⟨k, ρ1⟩, ek, ef⟩ := Option.bind_eq_some_iff.mp ef
    refine sxt_at st ii ek fun W1 H1 φ1 s1 i1 => ?_
    have s01 := ss.trans s1
    have w1 := w.at s01 kk
    cases k with
    | false =>
      simp at ef
      subst ef
      exact iteF (w1.self i1)
    | true =>
      rw [if_pos rfl] at ef
      obtain ⟨o1, eo, ef⟩ := Option.bind_eq_some_iff.mp ef
      refine iteT ⟨fun σ2 H2 => ∃ Wi φi ρi, InvO g.K Wi H2 ρi σ2 φi ∧ Stp W H (Fp φ) Wi H2 (Fp φi) ∧ Keep M.p σ σ2 ∧ whlN (fun ρ' => at2 (evX G c ρ')) (fun ρ' => evSs G b ρ') m ρi = some out, fun σ2 H2 h => ⟨m, Nat.lt_succ_self m, h⟩, ?_⟩
      refine sb ρ1 σ' W1 H1 φ1 o1 _ i1 eo ?_
      cases o1 with
      | nx ρn => exact fun σ3 W3 H3 φ3 s3 i3 k3 => ⟨W3, φ3, ρn, i3, s01.trans s3, kk.trans k3, ef⟩
      | ct ρn => exact fun σ3 W3 H3 φ3 s3 i3 k3 => ⟨W3, φ3, ρn, i3, s01.trans s3, kk.trans k3, ef⟩
      | bk ρn => cases ef; exact w1
      | rt o ρn => cases ef; exact w1
theorem ss_nil : SndSs g M G sc [] .nil := ⟨tNext, fun X c => pss_nil, fun ρ σ W H φ out D i e w => by
  simp only [evSs] at e; cases e
  exact Nxt.self w i⟩
theorem ss_cons {st : Stmt} {sts : List Stmt} {s : S} {ss : Ss} (h : SndSt g M G sc st s) (hs : SndSs g M G sc sts ss) : SndSs g M G sc (st :: sts) (.cons s ss) := by
  obtain ⟨t, hp, h⟩ := h
  obtain ⟨u, hu, hs⟩ := hs
  refine ⟨tSeq t u, fun X c => pss_cons (hp X c) (hu X c), fun ρ σ W H φ out D i e w => ?_⟩
  simp only [evSs] at e
  obtain ⟨o1, eo, e⟩ := Option.bind_eq_some_iff.mp e
  refine h ρ σ W H φ o1 _ i eo ?_
  cases o1 with
  | nx ρ1 => exact fun σ1 W1 H1 φ1 s1 i1 k1 => hs ρ1 σ1 W1 H1 φ1 out D i1 e (w.at s1 k1)
  | bk ρ1 => cases e; exact w
  | ct ρ1 => cases e; exact w
  | rt o ρ1 => cases e; exact w
theorem ss_fz {sts : List Stmt} {is : List Nat} {ss : Ss} (hs : SndSs g M G sc sts ss) : SndSs g M G sc sts (.fz is ss) := by
  obtain ⟨u, hu, hs⟩ := hs
  refine ⟨u, hu, fun ρ σ W H φ out D i e w => ?_⟩
  simp only [evSs] at e
  obtain ⟨W1, φ1, s1, i1⟩ := i.frzS is
  exact hs _ σ W1 H φ1 out D i1 e (w.at s1 Keep.refl)
mutual
theorem all_st (F : Factx g M G) : ∀ (s : S) (st : Stmt), chkSt M s sc st = true → SndSt g M G sc st s
  | .set i x, st, h => by
    unfold chkSt at h
    split at h <;> try (cases h; done)
    simp only [Bool.and_eq_true, decide_eq_true_eq] at h
    obtain ⟨⟨⟨⟨h1, h2⟩, h3⟩, h4⟩, h5⟩ := h
    exact st_set F h1 h2 h3 h4 h5
  | .unp tg x, st, h => by
    unfold chkSt at h
    split at h <;> try (cases h; done)
    simp only [Bool.and_eq_true] at h
    obtain ⟨⟨⟨h1, h2⟩, h3⟩, h4⟩ := h
    exact st_unp F h1 h2 h3 h4
  | .par2 i j x y, st, h => by
    unfold chkSt at h
    split at h <;> try (cases h; done)
    simp only [Bool.and_eq_true, decide_eq_true_eq] at h
    obtain ⟨⟨⟨⟨⟨⟨⟨⟨⟨h1, h2⟩, h3⟩, h4⟩, h5⟩, h6⟩, h7⟩, h8⟩, h9⟩, h10⟩ := h
    exact st_par2 F h1 h2 h3 h4 h5 h6 h7 h8 h9 h10
  | .par3 i j l x y z, st, h => by
    unfold chkSt at h
    split at h <;> try (cases h; done)
    simp only [Bool.and_eq_true, decide_eq_true_eq] at h
    obtain ⟨⟨⟨⟨⟨⟨⟨⟨⟨⟨⟨⟨⟨⟨⟨h1, h2⟩, h3⟩, h4⟩, h5⟩, h6⟩, h7⟩, h8⟩, h9⟩, h10⟩, h11⟩, h12⟩, h13⟩, h14⟩, h15⟩, h16⟩ := h
    exact st_par3 F h1 h2 h3 h4 h5 h6 h7 h8 h9 h10 h11 h12 h13 h14 h15 h16
  | .app i x, st, h => by
    unfold chkSt at h
    split at h <;> try (cases h; done)
    simp only [Bool.and_eq_true, decide_eq_true_eq] at h
    obtain ⟨⟨⟨rfl, h1⟩, h2⟩, h3⟩ := h
    exact st_app F h1 h2 h3
  | .put i k x, st, h => by
    unfold chkSt at h
    split at h <;> try (cases h; done)
    simp only [Bool.and_eq_true] at h
    obtain ⟨⟨⟨h1, h2⟩, h3⟩, h4⟩ := h
    exact st_put F h1 h2 h3 h4
  | .ex x, st, h => by
    unfold chkSt at h
    split at h <;> try (cases h; done)
    simp only [Bool.and_eq_true] at h
    exact st_ex F h.1 h.2
  | .aa i j z, st, h => by
    unfold chkSt at h
    split at h <;> try (cases h; done)
    simp only [Bool.and_eq_true, decide_eq_true_eq] at h
    obtain ⟨⟨⟨⟨⟨⟨⟨⟨rfl, h1⟩, rfl⟩, h2⟩, h3⟩, h4⟩, h5⟩, h6⟩, h7⟩ := h
    exact st_aa h1 h2 h3 h4 h5 h6 h7
  | .swp i a b, st, h => by
    unfold chkSt at h
    split at h <;> try (cases h; done)
    simp only [Bool.and_eq_true] at h
    obtain ⟨⟨⟨⟨⟨⟨⟨h1, h2⟩, h3⟩, h4⟩, h5⟩, h6⟩, h7⟩, h8⟩ := h
    exact st_swp F h1 h2 h3 h4 h5 h6 h7 h8
  | .appP i ks z, st, h => by
    unfold chkSt at h
    split at h <;> try (cases h; done)
    simp only [Bool.and_eq_true, decide_eq_true_eq] at h
    obtain ⟨⟨⟨⟨rfl, h1⟩, rfl⟩, h2⟩, h3⟩ := h
    exact st_appP F h1 h2 h3
  | .ite c a b, st, h => by
    unfold chkSt at h
    split at h <;> try (cases h; done)
    simp only [Bool.and_eq_true] at h
    exact st_ite F h.1.1 (all_ss F a _ h.1.2) (all_ss F b _ h.2)
  | .fo tg it b, st, h => by
    unfold chkSt at h
    split at h <;> try (cases h; done)
    simp only [Bool.and_eq_true] at h
    obtain ⟨⟨⟨⟨h1, h2⟩, h3⟩, h4⟩, h5⟩ := h
    exact st_fo F h1 h2 h3 h4 (all_ss F b _ h5)
  | .whl c b, st, h => by
    unfold chkSt at h
    split at h <;> try (cases h; done)
    simp only [Bool.and_eq_true] at h
    exact st_whl F h.1 (all_ss F b _ h.2)
  | .ret x, st, h => by
    unfold chkSt at h
    split at h <;> try (cases h; done)
    exact st_ret F h
  | .retN, st, h => by
    unfold chkSt at h
    split at h <;> try (cases h; done)
    exact ⟨tRetN, fun X c => ps_retN, fun ρ σ W H φ out D i e w => by
      simp only [evS] at e; cases e
      exact w .non σ W H φ [] Stp.refl.nil i Keep.refl (res_sh .non)⟩
  | .brk, st, h => by
    unfold chkSt at h
    split at h <;> try (cases h; done)
    exact ⟨tBreak, fun X c => ps_break, fun ρ σ W H φ out D i e w => by
      simp only [evS] at e; cases e
      exact Nxt.self w i⟩
  | .cnt, st, h => by
    unfold chkSt at h
    split at h <;> try (cases h; done)
    exact ⟨tCont, fun X c => ps_continue, fun ρ σ W H φ out D i e w => by
      simp only [evS] at e; cases e
      exact Nxt.self w i⟩
  | .pass, st, h => by
    unfold chkSt at h
    split at h <;> try (cases h; done)
    · exact ⟨tNext, fun X c => ps_pass, fun ρ σ W H φ out D i e w => by
        simp only [evS] at e; cases e
        exact Nxt.self w i⟩
    · exact ⟨tNext, fun X c => ps_doc, fun ρ σ W H φ out D i e w => by
        simp only [evS] at e; cases e
        exact Nxt.self w i⟩
  | .bad, st, h => ⟨tNever, fun X c => ps_never, fun ρ σ W H φ out D i e w => by simp only [evS] at e; cases e⟩
theorem all_ss (F : Factx g M G) : ∀ (ss : Ss) (sts : List Stmt), chkSs M ss sc sts = true → SndSs g M G sc sts ss
  | .nil, [], h => ss_nil
  | .nil, _ :: _, h => by simp [chkSs] at h
  | .cons s ss, [], h => by simp [chkSs] at h
  | .cons s ss, st :: sts, h => by
    simp only [chkSs, Bool.and_eq_true] at h
    exact ss_cons (all_st F s st h.1) (all_ss F ss sts h.2)
  | .fz is ss, sts, h => ss_fz (all_ss F ss sts (by simpa only [chkSs] using h))
end
end
end KP
/-! KPv: a def by its body; tables of callees. -/
namespace KP
open PySem L2

def start0 (os : List O) (ds : List D) (len : Nat) : So := os.map some ++ (ds.map fun d => some (.sh d)) ++ List.replicate (len - (os.length + ds.length)) none
/-- what a def computes -/
def runF (G : Cy) (p n len : Nat) (body : Ss) : Fn := fun os ds =>
  if os.length = p ∧ ds.length = n then
    match evSs G body (start0 os ds len) with
    | some (.rt o ρ) => (getAll ρ (List.range p)).map fun os' => (o, os')
    | some (.nx ρ) => (getAll ρ (List.range p)).map fun os' => (.sh .non, os')
    | _ => none
  else none
def pf (f : Fn) : PFn := fun ds => match f [] ds with
  | some (o, []) => some (.sh o.d)
  | _ => none
/-- a def of the program's top -/
structure DefOk (K : PySem.W.Frag) (mg : Str → Option Value) (x : Str) (st : Stmt) (ps : List Str) : Prop where
  ex : ∃ f fd, mg x = some (.ref f) ∧ Fun K x x st f fd ∧ Binds K fd ps []
def GG.at (g : GG) (k : Nat) : GG := { g with k := k }
/-- a def keeps its promise at level k -/
structure FnAt (g : GG) (k : Nat) (x : Str) (st : Stmt) (ps : List Str) (p n : Nat) (f : Fn) : Prop where
  ex : ∃ a fd, g.mg x = some (.ref a) ∧ Fun g.K x x st a fd ∧ Binds g.K fd ps [] ∧ FnOk g.P g.w g.K g.mg g.base (L2.CX g.P g.w) k a fd ps (spF g.K p n f)
theorem FnAt.up {g : GG} {x : Str} {st : Stmt} {ps : List Str} {p n j k : Nat} {f : Fn} (h : FnAt g j x st ps p n f) (hk : j ≤ k) : FnAt g k x st ps p n f := by
  obtain ⟨a, fd, h1, h2, h3, h4⟩ := h.ex
  exact ⟨a, fd, h1, h2, h3, h4.mono hk⟩
theorem FnAt.call {g : GG} {x : Str} {st : Stmt} {ps : List Str} {p n j k : Nat} {f : Fn} (h : FnAt g j x st ps p n f) (hk : j ≤ k) : CallF (g.at k) x p n f := by
  obtain ⟨a, fd, h1, h2, h3, h4⟩ := h.ex
  exact ⟨a, fd, ps, h1, h2.kp, h3, h4.mono hk⟩
theorem spOf_spF {K : PySem.W.Frag} {n : Nat} {f : Fn} (vs : List V) (H : Hp) (Q : VK) (E : XK) (h : spOf K n (pf f) vs H Q E) : spF K 0 n f vs H Q E := by
  obtain ⟨hl, W, ds, r, sm, hr, e, w⟩ := h
  unfold pf at e
  split at e <;> cases e
  rename_i o ef
  refine ⟨by omega, W, [], [], ds, o, [], sm, .nil, List.nodup_nil, by simp, by simpa using hr, ef, rfl, fun v W' H' F' T st sm' rl rv nd dis => ?_⟩
  have hS : ∀ a, a ∈ T → W' a = none := fun a ha => dis a (List.mem_append_right _ ha)
  refine w v (ovl W' H' (· ∈ T)) H' ⟨st.sW.trans (ovl_same hS), ⟨fun a u e q => st.pr a u e (by simp) q, fun a ps e => (st.tt a ps e).resolve_left (by simp), st.t⟩, ovl_sub sm' rv.dom, fun a u e => ?_⟩ (rv.frz hS fun a ha => ha)
  by_cases q : a ∈ T
  · rcases st.nf a (.inr q) with z | z
    · cases z
    · exact .inr (.inl z)
  · rw [ovl_out q] at e
    rcases st.nw a u e with z | z | z
    · exact .inl z
    · cases z
    · exact .inr z
theorem FnAt.prf {g : GG} {x : Str} {st : Stmt} {ps : List Str} {n j k : Nat} {f : Fn} (h : FnAt g j x st ps 0 n f) (hk : j ≤ k) : CallOk (g.at k) x n (pf f) := by
  obtain ⟨a, fd, h1, h2, h3, h4⟩ := h.ex
  exact ⟨a, fd, ps, h1, h2.kp, h3, (h4.mono hk).imp spOf_spF⟩
/-- called by names alone -/
theorem FnAt.kw {g : GG} {x : Str} {st : Stmt} {ps : List Str} {n j k : Nat} {f : Fn} (h : FnAt g j x st ps 0 n f) (hk : j ≤ k) (ks : List Str) (pm : List Nat) (hn : pm.length = n)
    (hb : ∀ (kV doc pm' : Value) (an : Option Addr) (cdv ct : Value) (ws : List Value), ws.length = ks.length → bindArgs (PySem.W.fnOf x x (defArgs st) (defBody st) (defScope st) .none kV doc pm' an cdv ct) ⟨[], ks.zip ws⟩ = pure (ps.zip (pm.map fun i => ws.getD i .none))) : CallOkK (g.at k) x ks pm (pf f) := by
  obtain ⟨a, fd, h1, h2, h3, h4⟩ := h.ex
  have kp := h2.kp
  obtain ⟨oc, od, kV, doc, pm', an, cdv, ct, osl, rfl, lk, hcd⟩ := h2.ex
  refine ⟨a, _, ps, fun _ ws => pm.map fun i => ws.getD i .none, h1, kp, ⟨fun s us ws X hu hw => ?_, fun {vs us zs ws} r1 r2 => ?_⟩, (h4.mono hk).imp fun vs H Q E hh => spOf_spF vs H Q E (by rw [← hn]; exact hh)⟩
  · have : us = [] := List.eq_nil_of_length_eq_zero hu
    subst this
    exact .of_eq (hb kV doc pm' an cdv ct ws hw)
  · clear hn hb
    induction pm with
    | nil => exact .nil
    | cons i pm ih =>
      refine .cons ?_ ih
      show RelV (zs.getD i .non) (ws.getD i .none)
      rw [List.getD_eq_getElem?_getD, List.getD_eq_getElem?_getD]
      cases e : zs[i]? with
      | none => rw [r2.none_of e]; exact rfl
      | some v =>
        obtain ⟨u, hu, ru⟩ := r2.get e
        rw [hu]; exact ru
/-! ### tables -/
inductive TabF (g : GG) : List (Str × Nat) → List PFn → Prop
  | nil : TabF g [] []
  | cons {x : Str} {n : Nat} {f : PFn} {ms : List (Str × Nat)} {fs : List PFn} : CallOk g x n f → TabF g ms fs → TabF g ((x, n) :: ms) (f :: fs)
inductive TabK (g : GG) : List (Str × List Str) → List (List Nat × PFn) → Prop
  | nil : TabK g [] []
  | cons {x : Str} {ks : List Str} {pm : List Nat} {f : PFn} {ms : List (Str × List Str)} {fs : List (List Nat × PFn)} : CallOkK g x ks pm f → TabK g ms fs → TabK g ((x, ks) :: ms) ((pm, f) :: fs)
inductive TabX (g : GG) : List (Str × Nat × Nat) → List Fn → Prop
  | nil : TabX g [] []
  | cons {x : Str} {p n : Nat} {f : Fn} {ms : List (Str × Nat × Nat)} {fs : List Fn} : CallF g x p n f → TabX g ms fs → TabX g ((x, p, n) :: ms) (f :: fs)
inductive TabC (K : PySem.W.Frag) (mg : Str → Option Value) : List Str → List D → Prop
  | nil : TabC K mg [] []
  | cons {x : Str} {d : D} {ms : List Str} {ds : List D} : (∃ u v, mg x = some u ∧ RelV v u ∧ ∀ W, Rep K W v d) → TabC K mg ms ds → TabC K mg (x :: ms) (d :: ds)
theorem TabF.get {g : GG} : ∀ {ms : List (Str × Nat)} {fs : List PFn}, TabF g ms fs → ∀ (j : Nat) (x : Str) (n : Nat) (f : PFn), ms[j]? = some (x, n) → fs[j]? = some f → CallOk g x n f
  | _, _, .nil, j, x, n, f, h, _ => by simp at h
  | _, _, .cons c r, 0, x, n, f, h, h2 => by simp at h h2; obtain ⟨rfl, rfl⟩ := h; subst h2; exact c
  | _, _, .cons c r, j + 1, x, n, f, h, h2 => r.get j x n f (by simpa using h) (by simpa using h2)
theorem TabK.get {g : GG} : ∀ {ms : List (Str × List Str)} {fs : List (List Nat × PFn)}, TabK g ms fs → ∀ (j : Nat) (x : Str) (ks : List Str) (pm : List Nat) (f : PFn), ms[j]? = some (x, ks) → fs[j]? = some (pm, f) → CallOkK g x ks pm f
  | _, _, .nil, j, x, n, _, f, h, _ => by simp at h
  | _, _, .cons c r, 0, x, n, pm, f, h, h2 => by simp at h h2; obtain ⟨rfl, rfl⟩ := h; obtain ⟨rfl, rfl⟩ := h2; exact c
  | _, _, .cons c r, j + 1, x, n, pm, f, h, h2 => r.get j x n pm f (by simpa using h) (by simpa using h2)
theorem TabX.get {g : GG} : ∀ {ms : List (Str × Nat × Nat)} {fs : List Fn}, TabX g ms fs → ∀ (j : Nat) (x : Str) (p n : Nat) (f : Fn), ms[j]? = some (x, p, n) → fs[j]? = some f → CallF g x p n f
  | _, _, .nil, j, x, _, n, f, h, _ => by simp at h
  | _, _, .cons c r, 0, x, p, n, f, h, h2 => by simp at h h2; obtain ⟨rfl, rfl, rfl⟩ := h; subst h2; exact c
  | _, _, .cons c r, j + 1, x, p, n, f, h, h2 => r.get j x p n f (by simpa using h) (by simpa using h2)
theorem TabC.get {K : PySem.W.Frag} {mg : Str → Option Value} : ∀ {ms : List Str} {ds : List D}, TabC K mg ms ds → ∀ (j : Nat) (x : Str) (d : D), ms[j]? = some x → ds[j]? = some d → ∃ u v, mg x = some u ∧ RelV v u ∧ ∀ W, Rep K W v d
  | _, _, .nil, j, x, d, h, _ => by simp at h
  | _, _, .cons c r, 0, x, d, h, h2 => by simp at h h2; subst h h2; exact c
  | _, _, .cons c r, j + 1, x, d, h, h2 => r.get j x d (by simpa using h) (by simpa using h2)
/-- an int constant of the top -/
theorem cst_int {K : PySem.W.Frag} {h : Heap} {mg : Str → Option Value} {x : Str} {n : Int} {t : Tok} (X : K.In h) (G : h.Ns mainGlobals mg) (a : PySem.W.nsIn K mainGlobals x = some (some (.int n t))) : ∃ u v, mg x = some u ∧ RelV v u ∧ ∀ W, Rep K W v (.int n) :=
  ⟨_, .int n, PySem.W.mg_of X G a, ⟨t, rfl⟩, fun W => .int n⟩
theorem factx_of {g : GG} {M : Nx} {G : Cy} (hb : ∀ x ∈ M.m.bs, g.mg x = none) (hc : TabC g.K g.mg M.m.cs G.G.cs) (hf : TabF g M.m.fs G.G.fs) (hk : TabK g M.m.ks G.G.ks) (hx : TabX g M.fx G.fx) : Factx g M G :=
  ⟨⟨fun x h => hb x (by simpa using h), fun j x d h1 h2 => hc.get j x d h1 h2, fun j x n f h1 h2 => hf.get j x n f h1 h2, fun j x ks pm f h1 h2 => hk.get j x ks pm f h1 h2⟩, fun j x p n f h1 h2 => hx.get j x p n f h1 h2⟩

/-! ### a def by its body -/
theorem slots_of {K : PySem.W.Frag} {W H : Hp} : ∀ {F : List Addr} {vs : List V} {os : List O}, RepOL K W H F vs os → F.Nodup → ∃ φ : Nat → List Addr, (∀ (i : Nat) o, os[i]? = some o → ∃ v, vs[i]? = some v ∧ RepO K W H (φ i) v o) ∧ (∀ i, os.length ≤ i → φ i = []) ∧ (∀ i a, a ∈ φ i → a ∈ F) ∧ (∀ i, (φ i).Nodup) ∧ ∀ i j a, a ∈ φ i → a ∈ φ j → i = j
  | _, _, _, .nil, _ => ⟨fun _ => [], by simp, by simp, by simp, by simp, by simp⟩
  | _, _, _, .cons (F := F1) (F' := F2) h r, nd => by
    obtain ⟨n1, n2, d12⟩ := List.nodup_append.mp nd
    obtain ⟨φ, h1, h2, h3, h4, h5⟩ := slots_of r n2
    refine ⟨fun i => match i with | 0 => F1 | i + 1 => φ i, fun i o e => ?_, fun i hi => ?_, fun i a ha => ?_, fun i => ?_, fun i j a ha hb => ?_⟩
    · cases i with
      | zero => simp at e; subst e; exact ⟨_, rfl, h⟩
      | succ i => exact h1 i o (by simpa using e)
    · cases i with
      | zero => simp at hi
      | succ i => exact h2 i (by simpa using hi)
    · cases i with
      | zero => exact List.mem_append_left _ ha
      | succ i => exact List.mem_append_right _ (h3 i a ha)
    · cases i with
      | zero => exact n1
      | succ i => exact h4 i
    · cases i with
      | zero => cases j with
        | zero => rfl
        | succ j => exact absurd rfl (d12 a ha a (h3 j a hb))
      | succ i => cases j with
        | zero => exact absurd rfl (d12 a hb a (h3 i a ha))
        | succ j => rw [h5 i j a ha hb]
theorem start_inv {K : PySem.W.Frag} {W H : Hp} {F : List Addr} {vs : List V} {os : List O} {ds : List D} {N : List Str} {p : Nat} (sm : Sub W H) (hr : RepOL K W H F (vs.take p) os) (nd : F.Nodup) (dis : ∀ a ∈ F, W a = none) (hd : RepL K W (vs.drop p) ds) (hp : os.length = p) (hv : vs.length = p + ds.length) (hN : vs.length ≤ N.length) :
    ∃ φ, InvO K W H (start0 os ds N.length) (start N vs) φ ∧ ∀ a, Fp φ a → a ∈ F := by
  obtain ⟨φ, h1, h2, h3, h4, h5⟩ := slots_of hr nd
  have get : ∀ (i : Nat), (start0 os ds N.length)[i]? = if i < os.length then (os[i]?).map some else if i < os.length + ds.length then (ds[i - os.length]?).map (fun d => some (O.sh d)) else if i < N.length then some none else none := fun i => by
    unfold start0
    by_cases h1 : i < os.length
    · rw [if_pos h1, List.getElem?_append_left (by simp; omega), List.getElem?_append_left (by simpa using h1), List.getElem?_map]
    · rw [if_neg h1]
      by_cases h2 : i < os.length + ds.length
      · rw [if_pos h2, List.getElem?_append_left (by simpa using h2), List.getElem?_append_right (by simp; omega), List.getElem?_map, List.length_map]
      · rw [if_neg h2, List.getElem?_append_right (by simp; omega), List.getElem?_replicate]
        simp only [List.length_append, List.length_map]
        by_cases h3 : i < N.length
        · rw [if_pos h3, if_pos (by omega)]
        · rw [if_neg h3, if_neg (by omega)]
  refine ⟨φ, ⟨by unfold start0 L2.start; simp; omega, fun i o e => ?_, fun i e => ?_, fun i a ha => dis a (h3 i a ha), h5, h4, sm⟩, fun a ⟨i, hi⟩ => h3 i a hi⟩
  · have gs : ∀ v, vs[i]? = some v → (start N vs)[i]? = some (some v) := fun v hv' => by
      unfold L2.start
      rw [List.getElem?_append_left (by simpa using (List.getElem?_eq_some_iff.mp hv').1), List.getElem?_map, hv']; rfl
    rw [get] at e
    split at e
    · obtain ⟨o', ho, e⟩ := Option.map_eq_some_iff.mp e
      cases e
      obtain ⟨v, hv', r⟩ := h1 i o ho
      refine ⟨v, gs v ?_, r⟩
      rw [List.getElem?_take] at hv'
      split at hv'
      · exact hv'
      · cases hv'
    · rename_i hi
      split at e
      · obtain ⟨d, hd', e⟩ := Option.map_eq_some_iff.mp e
        cases e
        obtain ⟨v, hv', r⟩ := hd.get hd'
        rw [List.getElem?_drop] at hv'
        refine ⟨v, gs v (by rw [← hv']; congr 1; omega), ?_⟩
        rw [h2 i (by omega)]
        exact .sh r
      · split at e
        · cases e
        · cases e
  · by_cases hi : i < os.length
    · exfalso
      refine e os[i] ?_
      rw [get, if_pos hi, List.getElem?_eq_getElem hi]; rfl
    · exact h2 i (by omega)
/-- where the def's lambdas' code objects are told -/
def LamEx (g : GG) (x : Str) (q : Str) : Prop := ∃ c P, (∀ f fd oc od osl, g.mg x = some (.ref f) → g.K.lookup f = some ⟨oc, od, .func fd, osl⟩ → fd.code = .ref c) ∧ (x ++ (".<locals>." : Str)) ++ ("<lambda>" : Str) = q ∧ LamX.TabB g.base g.mg c P ∧ (P, q) ∈ tbT ∧ ∀ p ∈ tbT, p.1 = P → p.2 = q
structure LamAt (g : GG) (x : Str) (k : Nat) (q : Str) : Prop where
  k2 : 2 ≤ k
  ex : LamEx g x q
theorem def_okL {g : GG} {k : Nat} {M : Nx} {G : Cy} {x : Str} {st : Stmt} {ps : List Str} {body : Ss} {n : Nat} (D : DefOk g.K g.mg x st ps) (S : FnScope M.m.N ps (defScope st)) (chk : chkSs M body (defScope st) (defBody st) = true) (F : Factx (g.at k) M G) (hp : ps.length = M.p + n) (L : ∀ q, M.m.lam = some q → LamAt g x k q) :
    FnAt g (k + 1) x st ps M.p n (runF G M.p n M.m.N.length body) := by
  obtain ⟨f, fd, hm, hF, hB⟩ := D.ex
  have hF0 := hF
  obtain ⟨oc, od, kV, doc, pm, an, cdv, ct, osl, rfl, lk, hcd⟩ := hF.ex
  refine ⟨f, _, hm, hF0, hB, fn_of lk hcd S (fun vs H Q E h => by rw [hp]; exact h.1) fun A outer s H vs Q E hr h => ?_⟩
  obtain ⟨t, ht, hs⟩ := all_ss (sc := defScope st) F body _ chk
  refine ⟨t, ht _ ⟨⟨rfl, rfl, rfl, rfl, rfl, rfl, S.nd, rfl, rfl, hr, fun q hq => ?_⟩, passes_of rfl, fun _ => rfl⟩, ?_⟩
  · obtain ⟨k2, c, P, h1, h2, h3, h4, h5⟩ := L q hq
    exact ⟨k2, c, P, h1 _ _ _ _ _ hm lk, h2, h3, h4, h5⟩
  obtain ⟨hl, W, Fo, os, ds, r, os', sm, rl, nd, dis, rd, ef, hos', w⟩ := h
  have hol : os.length = M.p := by
    have := rl.length
    rw [List.length_take] at this
    omega
  have hdl : ds.length = n := by
    have := rd.length
    rw [List.length_drop] at this
    omega
  have hN : vs.length ≤ M.m.N.length := by
    have := congrArg List.length S.pre
    rw [List.length_take] at this
    omega
  obtain ⟨φ, i, hφ⟩ := start_inv (N := M.m.N) sm rl nd dis rd hol (by omega) hN
  unfold runF at ef
  rw [if_pos ⟨hol, hdl⟩] at ef
  have fin : ∀ (o : O) (ρ' : So), (getAll ρ' (List.range M.p)).map (fun os' => (o, os')) = some (r, os') → ∀ v σ' W' H' φ' T, Stp W H (Fp φ) W' H' (OKs (Fp φ') T) → InvO g.K W' H' ρ' σ' φ' → Keep M.p (start M.m.N vs) σ' → ResO g.K W' H' (Fp φ') T v o → Q v H' := fun o ρ' e v σ' W' H' φ' T st i' kk rr => by
    obtain ⟨os2, e2, e⟩ := Option.map_eq_some_iff.mp e
    cases e
    obtain ⟨vis, hvl, hvs, hrr⟩ := getAll_rep i' e2
    have hvis : vis = vs.take M.p := by
      apply List.ext_getElem?
      intro j
      by_cases hj : j < M.p
      · obtain ⟨u, hu, hs⟩ := hvs j j (by simp [hj])
        rw [hu, List.getElem?_take, if_pos hj]
        rw [kk.2 j hj] at hs
        unfold L2.start at hs
        rw [List.getElem?_append_left (by simp; omega), List.getElem?_map] at hs
        obtain ⟨u', hu', hs⟩ := Option.map_eq_some_iff.mp hs
        cases hs
        exact hu'.symm
      · rw [List.getElem?_eq_none (by rw [hvl]; simp; omega), List.getElem?_eq_none (by simp; omega)]
    subst hvis
    have ndF : ∀ {l : List Nat}, l.Nodup → (l.flatMap φ').Nodup := fun {l} => by
      induction l with
      | nil => intro _; simp
      | cons x l ih =>
        intro h
        obtain ⟨a1, a2⟩ := List.nodup_cons.mp h
        rw [List.flatMap_cons]
        refine List.nodup_append.mpr ⟨i'.nd x, ih a2, fun b hb c hc z => ?_⟩
        subst z
        obtain ⟨y, hy, hb2⟩ := List.mem_flatMap.mp hc
        exact a1 ((i'.sep x y b hb hb2) ▸ hy)
    refine w v W' H' ((List.range M.p).flatMap φ') T ⟨st.sW, fun a u e n q => st.pr a u e (fun z => n (hφ a z)) q, fun a z => ?_, fun a u e => ?_, fun a ps e => (st.tt a ps e).imp (hφ a) id, st.t⟩ i'.sm hrr rr.rep (List.nodup_append.mpr ⟨ndF List.nodup_range, rr.nd, fun a ha b hb z => ?_⟩) fun a ha => ?_
    · have z' : OKs (Fp φ') T a := z.elim (fun z => .inl (let ⟨j, _, hj⟩ := List.mem_flatMap.mp z; ⟨j, hj⟩)) .inr
      rcases st.nf a z' with q | q
      · exact .inl (hφ a q)
      · exact .inr q
    · rcases st.nw a u e with q | q | q
      · exact .inl q
      · exact .inr (.inl (hφ a q))
      · exact .inr (.inr q)
    · subst z
      obtain ⟨j, _, hj⟩ := List.mem_flatMap.mp ha
      exact rr.sep a hb ⟨j, hj⟩
    · rcases List.mem_append.mp ha with q | q
      · obtain ⟨j, _, hj⟩ := List.mem_flatMap.mp q
        exact i'.dis j a hj
      · exact rr.dis a q
  cases eo : evSs G body (start0 os ds M.m.N.length) with
  | none => rw [eo] at ef; cases ef
  | some out =>
    rw [eo] at ef
    refine hs _ _ W H φ out _ i eo ?_
    cases out with
    | nx ρ' => exact fun σ' W' H' φ' s' i' kk => fin (.sh .non) ρ' ef .non σ' W' H' φ' [] s'.nil i' kk (res_sh .non)
    | rt o ρ' => exact fun v σ' W' H' φ' T s' i' kk rr => fin o ρ' ef v σ' W' H' φ' T s' i' kk rr
    | bk ρ' => cases ef
    | ct ρ' => cases ef
theorem def_ok {g : GG} {k : Nat} {M : Nx} {G : Cy} {x : Str} {st : Stmt} {ps : List Str} {body : Ss} {n : Nat} (D : DefOk g.K g.mg x st ps) (S : FnScope M.m.N ps (defScope st)) (chk : chkSs M body (defScope st) (defBody st) = true) (F : Factx (g.at k) M G) (hp : ps.length = M.p + n) (hn : M.m.lam = none := by rfl) :
    FnAt g (k + 1) x st ps M.p n (runF G M.p n M.m.N.length body) := def_okL D S chk F hp fun q hq => by rw [hn] at hq; cases hq
/-- a def that is never called with an answer -/
theorem def_none {g : GG} {k : Nat} {x : Str} {st : Stmt} {ps : List Str} {p n : Nat} (D : DefOk g.K g.mg x st ps) (hp : ps.length = p + n) : FnAt g k x st ps p n (fun _ _ => none) := by
  obtain ⟨f, fd, hm, hF, hB⟩ := D.ex
  exact ⟨f, fd, hm, hF, hB, ⟨fun vs H Q E h => by rw [hp]; exact h.1, fun A outer s H args us vs Q E _ _ _ _ h => by
    obtain ⟨_, _, _, _, _, _, _, _, _, _, _, _, e, _⟩ := h
    cases e⟩⟩
/-- the facts behind the top as the head gives them -/
theorem defOk_of {K : PySem.W.Frag} {h : Heap} {mg : Str → Option Value} {x : Str} {st : Stmt} {ps : List Str} {f : Addr} {oc : Value} {od an : Option Addr} {osl : Array (Option Value)} {kV doc pm cdv ct : Value} (X : K.In h) (G : h.Ns mainGlobals mg) (a : PySem.W.nsIn K mainGlobals x = some (some (.ref f)))
    (l : K.lookup f = some ⟨oc, od, .func (PySem.W.fnOf x x (defArgs st) (defBody st) (defScope st) .none kV doc pm an cdv ct), osl⟩) (c : PySem.W.codeIn K cdv x = true) (k : PySem.W.keepIn K (.ref f) = true)
    (hb : ∀ (kV doc pm : Value) (an : Option Addr) (cdv ct : Value) (us : List Value), us.length = ps.length → bindArgs (PySem.W.fnOf x x (defArgs st) (defBody st) (defScope st) .none kV doc pm an cdv ct) ⟨us, []⟩ = pure (ps.zip us)) : DefOk K mg x st ps :=
  ⟨f, _, PySem.W.mg_of X G a, fun_mk l c k, (fun_mk l c k).binds hb⟩
abbrev frOf {K : PySem.W.Frag} {h : Heap} (_ : K.In h) : PySem.W.Frag := K
theorem nb_nil {mg : Str → Option Value} : ∀ x ∈ ([] : List Str), mg x = none := fun _ h => by cases h
theorem nb_cons {mg : Str → Option Value} {b : Str} {bs : List Str} (h : mg b = none) (r : ∀ x ∈ bs, mg x = none) : ∀ x ∈ b :: bs, mg x = none := fun x hx => by
  rcases List.mem_cons.mp hx with rfl | hx
  · exact h
  · exact r x hx
/-! ### the law's own end -/
theorem law_end {P : Program} {w : World} {K : PySem.W.Frag} {mg : Str → Option Value} {fa : Addr} {st : Stmt} {f : Fn} {k : Nat} (D : DefOk K mg "law" st ["script"]) (hfa : mg "law" = some (.ref fa))
    (hb : ∀ (kV doc pm : Value) (an : Option Addr) (cdv ct : Value) (v : Value), bindArgs (PySem.W.fnOf "law" "law" (defArgs st) (defBody st) (defScope st) .none kV doc pm an cdv ct) ⟨[v], []⟩ = pure [(("script" : Str), v)])
    (H : ∀ base : Heap, FnAt ⟨P, w, K, mg, base, 0⟩ k "law" st ["script"] 0 1 f) :
    ∃ fd : FuncData, (∀ (s : Shared) (v : Value), BindsTo s fd ⟨[v], []⟩ [("script", v)]) ∧ ∀ base : Heap, K.In base → base.Ns mainGlobals mg → FnOk P w K mg base (L2.CX P w) k fa fd ["script"] (spF K 0 1 f) := by
  obtain ⟨f0, fd, hm, hF, hB⟩ := D.ex
  rw [hfa] at hm
  cases hm
  obtain ⟨oc, od, kV, doc, pm, an, cdv, ct, osl, rfl, lk, hcd⟩ := hF.ex
  refine ⟨_, fun s v => .of_eq (hb kV doc pm an cdv ct v), fun base _ _ => ?_⟩
  obtain ⟨a, fd2, h1, h2, h3, h4⟩ := (H base).ex
  have h1 : mg "law" = some (.ref a) := h1
  rw [hfa] at h1
  cases h1
  obtain ⟨oc2, od2, kV2, doc2, pm2, an2, cdv2, ct2, osl2, rfl, lk2, _⟩ := h2.ex
  rw [show K.lookup fa = _ from lk] at lk2
  cases lk2
  exact h4
/-- .. where some defs hold lambdas: cs, their code objects and tables -/
theorem law_endT {P : Program} {w : World} {K : PySem.W.Frag} {mg : Str → Option Value} {fa : Addr} {st : Stmt} {f : Fn} {k : Nat} {cs : List (Addr × Addr)} (D : DefOk K mg "law" st ["script"]) (hfa : mg "law" = some (.ref fa))
    (hb : ∀ (kV doc pm : Value) (an : Option Addr) (cdv ct : Value) (v : Value), bindArgs (PySem.W.fnOf "law" "law" (defArgs st) (defBody st) (defScope st) .none kV doc pm an cdv ct) ⟨[v], []⟩ = pure [(("script" : Str), v)])
    (H : ∀ base : Heap, (∀ p ∈ cs, LamX.TabB base mg p.1 p.2) → FnAt ⟨P, w, K, mg, base, 0⟩ k "law" st ["script"] 0 1 f) :
    ∃ fd : FuncData, (∀ (s : Shared) (v : Value), BindsTo s fd ⟨[v], []⟩ [("script", v)]) ∧ ∀ base : Heap, K.In base → base.Ns mainGlobals mg → (∀ p ∈ cs, LamX.TabB base mg p.1 p.2) → FnOk P w K mg base (L2.CX P w) k fa fd ["script"] (spF K 0 1 f) := by
  obtain ⟨f0, fd, hm, hF, hB⟩ := D.ex
  rw [hfa] at hm
  cases hm
  obtain ⟨oc, od, kV, doc, pm, an, cdv, ct, osl, rfl, lk, hcd⟩ := hF.ex
  refine ⟨_, fun s v => .of_eq (hb kV doc pm an cdv ct v), fun base _ _ hT => ?_⟩
  obtain ⟨a, fd2, h1, h2, h3, h4⟩ := (H base hT).ex
  have h1 : mg "law" = some (.ref a) := h1
  rw [hfa] at h1
  cases h1
  obtain ⟨oc2, od2, kV2, doc2, pm2, an2, cdv2, ct2, osl2, rfl, lk2, _⟩ := h2.ex
  rw [show K.lookup fa = _ from lk] at lk2
  cases lk2
  exact h4
theorem lamEx_of {Pr : Program} {w : World} {K : PySem.W.Frag} {h base : Heap} {mg : Str → Option Value} {x q : Str} {f c P : Addr} {oc : Value} {od an : Option Addr} {osl : Array (Option Value)} {st : Stmt} {kV doc pm ct : Value} {n : Nat} (X : K.In h) (G : h.Ns mainGlobals mg) (a : PySem.W.nsIn K mainGlobals x = some (some (.ref f)))
    (l : K.lookup f = some ⟨oc, od, .func (PySem.W.fnOf x x (defArgs st) (defBody st) (defScope st) .none kV doc pm an (.ref c) ct), osl⟩) (hq : (x ++ (".<locals>." : Str)) ++ ("<lambda>" : Str) = q) (TB : LamX.TabB base mg c P) (hm : (P, q) ∈ tbT) (hu : ∀ p ∈ tbT, p.1 = P → p.2 = q) : LamEx ⟨Pr, w, K, mg, base, n⟩ x q := by
  refine ⟨c, P, fun f' fd oc' od' osl' h1 h2 => ?_, hq, TB, hm, hu⟩
  have h1 : mg x = some (.ref f') := h1
  rw [PySem.W.mg_of X G a] at h1
  cases h1
  have h2 : K.lookup f = some ⟨oc', od', .func fd, osl'⟩ := h2
  rw [l] at h2
  cases h2
  rfl
theorem tabs_start {H : Hp} (h : ∀ p ∈ tbT, H p.1 = some (.tbl #[])) : LamX.Tabs tbT H := fun p hp => LamX.TabS.nil (h p hp)
def Prb (_ _ : Addr) : Prop := True
theorem probe {K : PySem.W.Frag} {h : Heap} {Z : Prop} {x : Str} {f c P : Addr} {oc : Value} {od an dd : Option Addr} {osl sl : Array (Option Value)} {st : Stmt} {kV doc pm ct e : Value} {vs : Array Value} (X : K.In h) (a : PySem.W.nsIn K mainGlobals x = some (some (.ref f)))
    (l : K.lookup f = some ⟨oc, od, .func (PySem.W.fnOf x x (defArgs st) (defBody st) (defScope st) .none kV doc pm an (.ref c) ct), osl⟩) (k : K.lookup c = some ⟨e, dd, .fields vs, sl⟩) (t : vs[11]? = some (.ref P)) (z : Prb c P → Z) : Z := z trivial
/-- the view at the start: all but the tables -/
def noT (H : Hp) : Hp := fun a => match H a with
  | some (.tbl _) => none
  | u => u
theorem noT_some {H : Hp} {a : Addr} {u : HO} (h : noT H a = some u) : H a = some u ∧ NTb u := by
  unfold noT at h
  split at h
  · cases h
  · rename_i n
    exact ⟨h, fun ps z => by subst z; exact n ps h⟩
theorem noT_of {H : Hp} {a : Addr} {u : HO} (h : H a = some u) (n : NTb u) : noT H a = some u := by
  unfold noT
  split
  · rename_i ps e
    rw [h] at e; cases e; exact absurd rfl (n ps)
  · exact h
theorem noT_seq {K : PySem.W.Frag} {H : Hp} {a : Addr} {xs : List V} (h : SqL K H a xs) : SqL K (noT H) a xs := by
  rcases h with (h | ⟨o, h⟩) | h
  · exact .inl (.inl (noT_of h fun _ e => by cases e))
  · exact .inl (.inr ⟨o, noT_of h fun _ e => by cases e⟩)
  · exact .inr h
theorem law_sp {K : PySem.W.Frag} {H : Hp} {a : Addr} {ns : List Int} {f : Fn} (hl : ns.length ≤ 63) (hS : SqL K H a (ns.map V.int)) (hT : LamX.Tabs tbT H) (h : f [] [.scr ns] = some (.sh (.bl true), [])) : spF K 0 1 f [.ref a] H (fun v _ => v = .bl true) fun _ _ _ => False :=
  ⟨rfl, noT H, [], [], [.scr ns], _, [], ⟨fun _ _ e => (noT_some e).1, fun _ _ e => (noT_some e).2, hT⟩, .nil, List.nodup_nil, by simp, .cons (.scr (noT_seq hS) (by show _ ≤ 100000; omega)) .nil, h, rfl, fun v W' H' F' T _ _ _ rv _ _ => by
    have := sh_inv rv
    exact rep_bl this⟩
theorem cx_false {P : Program} {w : World} {H : Hp} {s s' : Shared} {e : Value} (h : L2.CX P w [] H s (fun _ _ _ => False) e s') : False := by
  obtain ⟨_, _, _, _, _, _, _, _, _, _, _, _, z⟩ := h
  exact z.elim
end KP
/-! KPw: defs that stand in many laws, as forms. -/
namespace KP
namespace Com
open PySem L2
/-! is_whole -/
def N_is_whole : List Str := ["value"]
def M_is_whole : Nx := ⟨⟨N_is_whole, [], [], [], ["bool", "int", "isinstance"], none⟩, 0, []⟩
def B_is_whole : Ss := (.cons (.ret (.p (.an (.cons (.isi (.v 0) .int) (.cons (.nt (.isi (.v 0) .bool)) .nil))))) .nil)
def G_is_whole : Cy := ⟨⟨[], [], []⟩, []⟩
def F_is_whole : Fn := runF G_is_whole 0 1 1 B_is_whole
/-! is_count -/
def N_is_count : List Str := ["value"]
def M_is_count : Nx := ⟨⟨N_is_count, [("is_whole", 1)], [], [], [], none⟩, 0, []⟩
def B_is_count : Ss := (.cons (.ret (.p (.an (.cons (.ca 0 (.cons (.v 0) .nil)) (.cons (.c2 .ge (.v 0) (.k (.int 0))) .nil))))) .nil)
def G_is_count : Cy := ⟨⟨[pf (F_is_whole)], [], []⟩, []⟩
def F_is_count : Fn := runF G_is_count 0 1 1 B_is_count
/-! is_below -/
def N_is_below : List Str := ["value", "bound"]
def M_is_below : Nx := ⟨⟨N_is_below, [("is_count", 1)], [], [], [], none⟩, 0, []⟩
def B_is_below : Ss := (.cons (.ret (.p (.an (.cons (.ca 0 (.cons (.v 0) .nil)) (.cons (.c2 .lt (.v 0) (.v 1)) .nil))))) .nil)
def G_is_below : Cy := ⟨⟨[pf (F_is_count)], [], []⟩, []⟩
def F_is_below : Fn := runF G_is_below 0 2 2 B_is_below
/-! is_thing -/
def N_is_thing : List Str := ["value"]
def M_is_thing : Nx := ⟨⟨N_is_thing, [("is_below", 2)], [], ["MOST_THINGS"], [], none⟩, 0, []⟩
def B_is_thing : Ss := (.cons (.ret (.p (.ca 0 (.cons (.v 0) (.cons (.g 0) .nil))))) .nil)
def G_is_thing : Cy := ⟨⟨[pf (F_is_below)], [], [.int 26]⟩, []⟩
def F_is_thing : Fn := runF G_is_thing 0 1 1 B_is_thing
/-! is_row -/
def N_is_row : List Str := ["value", "thing"]
def M_is_row : Nx := ⟨⟨N_is_row, [("is_thing", 1)], [], ["LONGEST"], ["isinstance", "len", "list"], none⟩, 0, []⟩
def B_is_row : Ss := (.cons (.ite (.p (.or (.cons (.nt (.isi (.v 0) .list)) (.cons (.nt (.ch .le .le (.k (.int 1)) (.bi .len (.cons (.v 0) .nil)) (.g 0))) .nil)))) (.cons (.ret (.p (.k (.bl false)))) .nil) .nil) (.cons (.ret (.p (.c2 .eq (.co (.nm 1) (.sq (.v 0)) (.so (.nt (.ca 0 (.cons (.v 1) .nil)))) (.v 1)) (.lst .nil)))) .nil))
def G_is_row : Cy := ⟨⟨[pf (F_is_thing)], [], [.int 60]⟩, []⟩
def F_is_row : Fn := runF G_is_row 0 1 2 B_is_row
/-! check_row -/
def N_check_row : List Str := ["row"]
def M_check_row : Nx := ⟨⟨N_check_row, [("is_row", 1)], [], [], [], none⟩, 0, []⟩
def B_check_row : Ss := (.cons (.ite (.p (.nt (.ca 0 (.cons (.v 0) .nil)))) (.cons .bad .nil) .nil) .nil)
def G_check_row : Cy := ⟨⟨[pf (F_is_row)], [], []⟩, []⟩
def F_check_row : Fn := runF G_check_row 0 1 1 B_check_row
/-! is_places -/
def N_is_places : List Str := ["value"]
def M_is_places : Nx := ⟨⟨N_is_places, [("is_whole", 1)], [], ["MOST_THINGS"], [], none⟩, 0, []⟩
def B_is_places : Ss := (.cons (.ret (.p (.an (.cons (.ca 0 (.cons (.v 0) .nil)) (.cons (.ch .le .le (.k (.int 1)) (.v 0) (.g 0)) .nil))))) .nil)
def G_is_places : Cy := ⟨⟨[pf (F_is_whole)], [], [.int 26]⟩, []⟩
def F_is_places : Fn := runF G_is_places 0 1 1 B_is_places
/-! check_places -/
def N_check_places : List Str := ["places"]
def M_check_places : Nx := ⟨⟨N_check_places, [("is_places", 1)], [], [], [], none⟩, 0, []⟩
def B_check_places : Ss := (.cons (.ite (.p (.nt (.ca 0 (.cons (.v 0) .nil)))) (.cons .bad .nil) .nil) .nil)
def G_check_places : Cy := ⟨⟨[pf (F_is_places)], [], []⟩, []⟩
def F_check_places : Fn := runF G_check_places 0 1 1 B_check_places
/-! _law_hash -/
def N__law_hash : List Str := ["seed", "index", "mixed"]
def M__law_hash : Nx := ⟨⟨N__law_hash, [], [], [], ["int"], none⟩, 0, []⟩
def B__law_hash : Ss := (.cons (.set 2 (.p (.b2 .mod (.bi .int (.cons (.b2 .add (.b2 .add (.b2 .add (.b2 .mul (.v 0) (.k (.int 1140671))) (.b2 .mul (.b2 .mul (.k (.int 27644437)) (.v 1)) (.v 1))) (.b2 .mul (.k (.int 131)) (.v 1))) (.k (.int 19))) .nil)) (.k (.int 2147483629))))) (.cons (.set 2 (.p (.b2 .mod (.bi .int (.cons (.b2 .add (.b2 .add (.b2 .mul (.v 2) (.v 2)) (.b2 .mul (.k (.int 62089)) (.v 1))) (.k (.int 32416187))) .nil)) (.k (.int 2147483587))))) (.cons (.ret (.p (.b2 .mod (.bi .int (.cons (.b2 .mul (.v 2) (.k (.int 48271))) .nil)) (.k (.int 2147483647))))) .nil)))
def G__law_hash : Cy := ⟨⟨[], [], []⟩, []⟩
def F__law_hash : Fn := runF G__law_hash 0 2 3 B__law_hash
/-! _law_random -/
def N__law_random : List Str := ["generator", "bound", "drawn", "turn"]
def M__law_random : Nx := ⟨⟨N__law_random, [("_law_hash", 2)], [], [], ["int", "range"], none⟩, 1, []⟩
def Y__law_random_1 : Ss := (.cons (.put 0 (.p (.k (.int 2))) (.q (.b2 .add (.ix (.v 0) (.k (.int 2))) (.k (.int 1))))) (.cons (.set 2 (.q (.b2 .add (.b2 .mul (.v 2) (.k (.int 2147483587))) (.ca 0 (.cons (.ix (.v 0) (.k (.int 1))) (.cons (.ix (.v 0) (.k (.int 2))) .nil)))))) .nil))
def W__law_random_1 : S := (.fo (.nm 3) (.r1 (.p (.b2 .add (.k (.int 1)) (.b2 .fdiv (.me .bitlen (.v 1) .nil) (.k (.int 30)))))) Y__law_random_1)
def B__law_random : Ss := (.cons (.ite (.q (.c2 .gt (.ix (.v 0) (.k (.int 0))) (.k (.int 0)))) (.cons (.set 2 (.q (.b2 .mod (.bi .int (.cons (.ix (.v 0) (.k (.int 0))) .nil)) (.v 1)))) (.cons (.put 0 (.p (.k (.int 0))) (.q (.b2 .fdiv (.ix (.v 0) (.k (.int 0))) (.v 1)))) (.cons (.ret (.p (.v 2))) .nil))) .nil) (.cons (.set 2 (.p (.k (.int 0)))) (.cons W__law_random_1 (.cons (.ret (.p (.b2 .mod (.bi .int (.cons (.v 2) .nil)) (.v 1)))) .nil))))
def G__law_random : Cy := ⟨⟨[pf (F__law_hash)], [], []⟩, []⟩
def F__law_random : Fn := runF G__law_random 1 1 4 B__law_random
/-! _law_cell -/
def N__law_cell : List Str := ["script", "index"]
def M__law_cell : Nx := ⟨⟨N__law_cell, [], [], [], ["len", "sum"], none⟩, 0, []⟩
def B__law_cell : Ss := (.cons (.ite (.p (.c2 .lt (.v 1) (.bi .len (.cons (.v 0) .nil)))) (.cons (.ret (.p (.ix (.v 0) (.v 1)))) .nil) .nil) (.cons (.ret (.p (.b2 .mod (.bi .sum (.cons (.sl (.v 0) .no (.so (.k (.int 1)))) .nil)) (.k (.int 1000003))))) .nil))
def G__law_cell : Cy := ⟨⟨[], [], []⟩, []⟩
def F__law_cell : Fn := runF G__law_cell 0 2 2 B__law_cell
/-! _law_generator -/
def N__law_generator : List Str := ["script", "index", "seed"]
def M__law_generator : Nx := ⟨⟨N__law_generator, [("_law_cell", 2)], [], [], ["int", "max"], none⟩, 0, []⟩
def B__law_generator : Ss := (.cons (.set 2 (.p (.ca 0 (.cons (.v 0) (.cons (.v 1) .nil))))) (.cons (.ret (.p (.lst (.cons (.b2 .mod (.bi .int (.cons (.bi .max (.cons (.b2 .sub (.v 2) (.b2 .pow (.k (.int 10)) (.k (.int 18)))) (.cons (.k (.int 0)) .nil))) .nil)) (.b2 .pow (.b2 .pow (.k (.int 10)) (.k (.int 60))) (.k (.int 10)))) (.cons (.b2 .mod (.bi .int (.cons (.v 2) .nil)) (.k (.int 2147483647))) (.cons (.b2 .mul (.k (.int 1000)) (.v 1)) .nil)))))) .nil))
def G__law_generator : Cy := ⟨⟨[pf (F__law_cell)], [], []⟩, []⟩
def F__law_generator : Fn := runF G__law_generator 0 2 3 B__law_generator
/-! _law_exact -/
def N__law_exact : List Str := ["told", "due", "at", "part"]
def M__law_exact : Nx := ⟨⟨N__law_exact, [("_law_exact", 2)], [], [], ["all", "bool", "enumerate", "int", "isinstance", "len", "list", "str", "tuple"], none⟩, 0, []⟩
def B__law_exact : Ss := (.cons (.ite (.p (.isT (.v 1) .list .tuple)) (.cons (.ite (.p (.or (.cons (.c2 .ne (.isi (.v 0) .list) (.isi (.v 1) .list)) (.cons (.c2 .ne (.isi (.v 0) .tuple) (.isi (.v 1) .tuple)) .nil)))) (.cons (.ret (.p (.k (.bl false)))) .nil) .nil) (.cons (.ret (.p (.an (.cons (.c2 .eq (.bi .len (.cons (.v 0) .nil)) (.bi .len (.cons (.v 1) .nil))) (.cons (.bi .all (.cons (.co (.tp (.cons (.nm 2) (.cons (.nm 3) .nil))) (.en (.v 1)) .no (.ca 0 (.cons (.ix (.v 0) (.v 2)) (.cons (.v 3) .nil)))) .nil)) .nil))))) .nil)) .nil) (.cons (.ite (.p (.isi (.v 1) .str)) (.cons (.ret (.p (.an (.cons (.isi (.v 0) .str) (.cons (.c2 .eq (.v 0) (.v 1)) .nil))))) .nil) .nil) (.cons (.ite (.p (.isi (.v 1) .bool)) (.cons (.ret (.p (.an (.cons (.isi (.v 0) .bool) (.cons (.c2 .eq (.v 0) (.v 1)) .nil))))) .nil) .nil) (.cons (.ite (.p (.isi (.v 1) .int)) (.cons (.ret (.p (.an (.cons (.isi (.v 0) .int) (.cons (.nt (.isi (.v 0) .bool)) (.cons (.c2 .eq (.v 0) (.v 1)) .nil)))))) .nil) .nil) (.cons (.ret (.p (.an (.cons (.c2 .is (.v 0) (.k .non)) (.cons (.c2 .is (.v 1) (.k .non)) .nil))))) .nil)))))
def F__law_exact : Nat → Fn
  | 0 => fun _ _ => none
  | n + 1 => runF ⟨⟨[pf (F__law_exact n)], [], []⟩, []⟩ 0 2 4 B__law_exact
/-! _law_drawn_order -/
def N__law_drawn_order : List Str := ["generator", "things", "left", "found"]
def M__law_drawn_order : Nx := ⟨⟨N__law_drawn_order, [], [], [], ["len", "list"], none⟩, 1, [("_law_random", 1, 1)]⟩
def Y__law_drawn_order_1 : Ss := (.cons (.app 3 (.pop 2 (.io 0 [0] (.cons (.q (.bi .len (.cons (.v 2) .nil))) .nil)))) .nil)
def W__law_drawn_order_1 : S := (.whl (.q (.c2 .ne (.v 2) (.lst .nil))) Y__law_drawn_order_1)
def B__law_drawn_order : Ss := (.cons (.par2 2 3 (.p (.bi .list (.cons (.v 1) .nil))) (.p (.lst .nil))) (.cons W__law_drawn_order_1 (.cons (.ret (.mv 3)) .nil)))
def G__law_drawn_order : Cy := ⟨⟨[], [], []⟩, [(F__law_random)]⟩
def F__law_drawn_order : Fn := runF G__law_drawn_order 1 1 4 B__law_drawn_order
/-! _law_row -/
def N__law_row : List Str := ["generator", "most", "things", "way", "size", "wide", "ask", "row", "near", "order", "thing"]
def M__law_row : Nx := ⟨⟨N__law_row, [], [], [], ["int", "len", "list", "max", "min", "range"], none⟩, 1, [("_law_random", 1, 1), ("_law_drawn_order", 1, 1)]⟩
def Y__law_row_1 : Ss := (.cons (.ite (.an (.cons (.p (.c2 .inn (.v 3) (.tup (.cons (.k (.int 1)) (.cons (.k (.int 2)) .nil))))) (.cons (.q (.c2 .ne (.v 7) (.lst .nil))) (.cons (.c2 .gt (.io 0 [0] (.cons (.p (.k (.int 4))) .nil)) (.p (.k (.int 0)))) .nil)))) (.cons (.app 7 (.ixv 7 (.bi .max (.cons (.p (.k (.int 0))) (.cons (.b2 .sub (.q (.b2 .sub (.bi .len (.cons (.v 7) .nil)) (.k (.int 1)))) (.io 0 [0] (.cons (.p (.b2 .add (.v 8) (.k (.int 1)))) .nil))) .nil))))) .nil) (.cons (.ite (.p (.c2 .eq (.v 3) (.k (.int 3)))) (.cons (.app 7 (.bi .min (.cons (.io 0 [0] (.cons (.p (.v 5)) .nil)) (.cons (.io 0 [0] (.cons (.p (.v 5)) .nil)) .nil)))) .nil) (.cons (.app 7 (.io 0 [0] (.cons (.p (.v 5)) .nil))) .nil)) .nil)) .nil)
def W__law_row_1 : S := (.fo (.nm 6) (.r1 (.p (.v 4))) Y__law_row_1)
def B__law_row : Ss := (.cons (.par2 3 4 (.io 0 [0] (.cons (.p (.k (.int 6))) .nil)) (.b2 .add (.p (.k (.int 1))) (.io 0 [0] (.cons (.p (.v 1)) .nil)))) (.cons (.set 5 (.b2 .add (.p (.k (.int 1))) (.io 0 [0] (.cons (.p (.v 2)) .nil)))) (.cons (.ite (.p (.c2 .eq (.v 3) (.k (.int 0)))) (.cons (.ret (.p (.co (.nm 6) (.r1 (.v 4)) .no (.b2 .mod (.bi .int (.cons (.v 6) .nil)) (.v 5))))) .nil) .nil) (.cons (.par2 7 8 (.p (.lst .nil)) (.b2 .add (.p (.k (.int 1))) (.io 0 [0] (.cons (.p (.k (.int 4))) .nil)))) (.cons W__law_row_1 (.cons (.set 9 (.io 1 [0] (.cons (.p (.lr1 (.k (.int 26)))) .nil))) (.cons (.ret (.ife (.p (.c2 .lt (.v 3) (.k (.int 4)))) (.mv 7) (.q (.co (.nm 10) (.sq (.v 7)) .no (.ix (.v 9) (.v 10)))))) .nil)))))))
def G__law_row : Cy := ⟨⟨[], [], []⟩, [(F__law_random), (F__law_drawn_order)]⟩
def F__law_row : Fn := runF G__law_row 1 2 11 B__law_row
/-! _law_goes -/
def N__law_goes : List Str := ["rule", "there", "born", "used", "many", "thing"]
def M__law_goes : Nx := ⟨⟨N__law_goes, [], [], [], ["sorted"], none⟩, 0, []⟩
def B__law_goes : Ss := (.cons (.ite (.p (.c2 .eq (.v 0) (.k (.str ("lru" : String))))) (.cons (.ret (.p (.ix (.ix (.bi .sorted (.cons (.co (.nm 5) (.sq (.v 1)) .no (.tup (.cons (.ix (.v 3) (.v 5)) (.cons (.v 5) .nil)))) .nil)) (.k (.int 0))) (.k (.int 1))))) .nil) .nil) (.cons (.ite (.p (.c2 .eq (.v 0) (.k (.str ("fifo" : String))))) (.cons (.ret (.p (.ix (.ix (.bi .sorted (.cons (.co (.nm 5) (.sq (.v 1)) .no (.tup (.cons (.ix (.v 2) (.v 5)) (.cons (.v 5) .nil)))) .nil)) (.k (.int 0))) (.k (.int 1))))) .nil) .nil) (.cons (.ite (.p (.c2 .eq (.v 0) (.k (.str ("mru" : String))))) (.cons (.ret (.p (.ix (.ix (.bi .sorted (.cons (.co (.nm 5) (.sq (.v 1)) .no (.tup (.cons (.neg (.ix (.v 3) (.v 5))) (.cons (.v 5) .nil)))) .nil)) (.k (.int 0))) (.k (.int 1))))) .nil) .nil) (.cons (.ite (.p (.c2 .eq (.v 0) (.k (.str ("lfu" : String))))) (.cons (.ret (.p (.ix (.ix (.bi .sorted (.cons (.co (.nm 5) (.sq (.v 1)) .no (.tup (.cons (.ix (.v 4) (.v 5)) (.cons (.ix (.v 3) (.v 5)) (.cons (.v 5) .nil))))) .nil)) (.k (.int 0))) (.k (.int 2))))) .nil) .nil) (.cons (.ret (.p (.ix (.ix (.bi .sorted (.cons (.co (.nm 5) (.sq (.v 1)) .no (.tup (.cons (.neg (.me .index (.ix (.v 0) (.k (.int 1))) (.cons (.v 5) .nil))) (.cons (.v 5) .nil)))) .nil)) (.k (.int 0))) (.k (.int 1))))) .nil)))))
def G__law_goes : Cy := ⟨⟨[], [], []⟩, []⟩
def F__law_goes : Fn := runF G__law_goes 0 5 6 B__law_goes
/-! _law_run -/
def N__law_run : List Str := ["row", "places", "rule", "there", "born", "used", "many", "plan", "hits", "ask", "thing", "gone", "other"]
def M__law_run : Nx := ⟨⟨N__law_run, [("_law_goes", 5)], [], [], ["enumerate", "len", "sorted"], none⟩, 0, []⟩
def Y__law_run_1 : Ss := (.cons (.app 8 (.q (.c2 .inn (.v 10) (.v 3)))) (.cons (.put 6 (.p (.v 10)) (.q (.b2 .add (.me .get2 (.v 6) (.cons (.v 10) (.cons (.k (.int 0)) .nil))) (.k (.int 1))))) (.cons (.ite (.q (.c2 .nin (.v 10) (.v 3))) (.cons (.ite (.q (.c2 .eq (.bi .len (.cons (.v 3) .nil)) (.v 1))) (.cons (.set 11 (.q (.ca 0 (.cons (.v 2) (.cons (.v 3) (.cons (.v 4) (.cons (.v 5) (.cons (.v 6) .nil)))))))) (.cons (.set 3 (.q (.co (.nm 12) (.sq (.v 3)) (.so (.c2 .ne (.v 12) (.v 11))) (.v 12)))) .nil)) .nil) (.cons (.set 3 (.q (.b2 .add (.v 3) (.lst (.cons (.v 10) .nil))))) (.cons (.put 4 (.p (.v 10)) (.p (.v 9))) .nil))) .nil) (.cons (.put 5 (.p (.v 10)) (.p (.v 9))) (.cons (.app 7 (.q (.bi .sorted (.cons (.v 3) .nil)))) .nil)))))
def W__law_run_1 : S := (.fo (.tp (.cons (.nm 9) (.cons (.nm 10) .nil))) (.en (.p (.v 0))) Y__law_run_1)
def B__law_run : Ss := (.cons (.unp (.tp (.cons (.nm 3) (.cons (.nm 4) (.cons (.nm 5) (.cons (.nm 6) (.cons (.nm 7) (.cons (.nm 8) .nil))))))) (.tup (.cons (.p (.lst .nil)) (.cons .dnK (.cons .dnK (.cons .dnK (.cons (.p (.lst .nil)) (.cons (.p (.lst .nil)) .nil)))))))) (.cons W__law_run_1 (.cons (.ret (.lst (.cons (.mv 7) (.cons (.mv 8) .nil)))) .nil)))
def G__law_run : Cy := ⟨⟨[pf (F__law_goes)], [], []⟩, []⟩
def F__law_run : Fn := runF G__law_run 0 3 13 B__law_run
/-! _law_fetched -/
def N__law_fetched : List Str := ["row", "places", "rule", "ask", "hit"]
def M__law_fetched : Nx := ⟨⟨N__law_fetched, [("_law_run", 3)], [], [], ["enumerate"], none⟩, 0, []⟩
def B__law_fetched : Ss := (.cons (.ret (.p (.co (.tp (.cons (.nm 3) (.cons (.nm 4) .nil))) (.en (.ix (.ca 0 (.cons (.v 0) (.cons (.v 1) (.cons (.v 2) .nil)))) (.k (.int 1)))) (.so (.nt (.v 4))) (.v 3)))) .nil)
def G__law_fetched : Cy := ⟨⟨[pf (F__law_run)], [], []⟩, []⟩
def F__law_fetched : Fn := runF G__law_fetched 0 3 5 B__law_fetched
/-! _law_is_number -/
def N__law_is_number : List Str := ["value"]
def M__law_is_number : Nx := ⟨⟨N__law_is_number, [], [], [], ["bool", "int", "isinstance"], none⟩, 0, []⟩
def B__law_is_number : Ss := (.cons (.ret (.p (.an (.cons (.isi (.v 0) .int) (.cons (.nt (.isi (.v 0) .bool)) .nil))))) .nil)
def G__law_is_number : Cy := ⟨⟨[], [], []⟩, []⟩
def F__law_is_number : Fn := runF G__law_is_number 0 1 1 B__law_is_number
/-! _law_members -/
def N__law_members : List Str := ["value", "bound", "number", "at"]
def M__law_members : Nx := ⟨⟨N__law_members, [("_law_is_number", 1)], [], [], ["all", "isinstance", "len", "list", "range"], none⟩, 0, []⟩
def B__law_members : Ss := (.cons (.ite (.p (.or (.cons (.nt (.isi (.v 0) .list)) (.cons (.nt (.bi .all (.cons (.co (.nm 2) (.sq (.v 0)) .no (.an (.cons (.ca 0 (.cons (.v 2) .nil)) (.cons (.ch .le .lt (.k (.int 0)) (.v 2) (.v 1)) .nil)))) .nil))) .nil)))) (.cons (.ret (.p (.k (.bl false)))) .nil) .nil) (.cons (.ret (.p (.bi .all (.cons (.co (.nm 3) (.r2 (.k (.int 1)) (.bi .len (.cons (.v 0) .nil))) .no (.c2 .lt (.ix (.v 0) (.b2 .sub (.v 3) (.k (.int 1)))) (.ix (.v 0) (.v 3)))) .nil)))) .nil))
def G__law_members : Cy := ⟨⟨[pf (F__law_is_number)], [], []⟩, []⟩
def F__law_members : Fn := runF G__law_members 0 2 4 B__law_members
/-! _law_is_plan -/
def N__law_is_plan : List Str := ["row", "places", "value", "ahead", "ask", "content", "thing"]
def M__law_is_plan : Nx := ⟨⟨N__law_is_plan, [("_law_members", 2)], [], [], ["enumerate", "isinstance", "len", "list"], none⟩, 0, []⟩
def Y__law_is_plan_1 : Ss := (.cons (.ite (.p (.or (.cons (.nt (.ca 0 (.cons (.v 5) (.cons (.k (.int 26)) .nil)))) (.cons (.c2 .gt (.bi .len (.cons (.v 5) .nil)) (.v 1)) (.cons (.c2 .nin (.ix (.v 0) (.v 4)) (.v 5)) .nil))))) (.cons (.ret (.p (.k (.bl false)))) .nil) .nil) (.cons (.ite (.q (.c2 .ne (.co (.nm 6) (.sq (.v 5)) (.so (.an (.cons (.c2 .ne (.v 6) (.ix (.v 0) (.v 4))) (.cons (.c2 .nin (.v 6) (.v 3)) .nil)))) (.v 6)) (.lst .nil))) (.cons (.ret (.p (.k (.bl false)))) .nil) .nil) (.cons (.set 3 (.p (.v 5))) .nil)))
def W__law_is_plan_1 : S := (.fo (.tp (.cons (.nm 4) (.cons (.nm 5) .nil))) (.en (.p (.v 2))) Y__law_is_plan_1)
def B__law_is_plan : Ss := (.cons (.ite (.p (.or (.cons (.nt (.isi (.v 2) .list)) (.cons (.c2 .ne (.bi .len (.cons (.v 2) .nil)) (.bi .len (.cons (.v 0) .nil))) .nil)))) (.cons (.ret (.p (.k (.bl false)))) .nil) .nil) (.cons (.set 3 (.p (.lst .nil))) (.cons W__law_is_plan_1 (.cons (.ret (.p (.k (.bl true)))) .nil))))
def G__law_is_plan : Cy := ⟨⟨[pf (F__law_members)], [], []⟩, []⟩
def F__law_is_plan : Fn := runF G__law_is_plan 0 3 7 B__law_is_plan
/-! are_tiers -/
def N_are_tiers : List Str := ["value"]
def M_are_tiers : Nx := ⟨⟨N_are_tiers, [("is_whole", 1)], [], ["THINGS"], ["isinstance", "len", "tuple"], none⟩, 0, []⟩
def B_are_tiers : Ss := (.cons (.ite (.p (.or (.cons (.nt (.isi (.v 0) .tuple)) (.cons (.c2 .ne (.bi .len (.cons (.v 0) .nil)) (.k (.int 2))) .nil)))) (.cons (.ret (.p (.k (.bl false)))) .nil) .nil) (.cons (.ite (.p (.or (.cons (.nt (.ca 0 (.cons (.ix (.v 0) (.k (.int 0))) .nil))) (.cons (.nt (.ca 0 (.cons (.ix (.v 0) (.k (.int 1))) .nil))) .nil)))) (.cons (.ret (.p (.k (.bl false)))) .nil) .nil) (.cons (.ret (.p (.an (.cons (.c2 .ge (.ix (.v 0) (.k (.int 0))) (.k (.int 1))) (.cons (.c2 .ge (.ix (.v 0) (.k (.int 1))) (.k (.int 1))) (.cons (.c2 .le (.b2 .add (.ix (.v 0) (.k (.int 0))) (.ix (.v 0) (.k (.int 1)))) (.g 0)) .nil)))))) .nil)))
def G_are_tiers : Cy := ⟨⟨[pf (F_is_whole)], [], [.int 26]⟩, []⟩
def F_are_tiers : Fn := runF G_are_tiers 0 1 1 B_are_tiers
/-! check_tiers -/
def N_check_tiers : List Str := ["tiers"]
def M_check_tiers : Nx := ⟨⟨N_check_tiers, [("are_tiers", 1)], [], [], [], none⟩, 0, []⟩
def B_check_tiers : Ss := (.cons (.ite (.p (.nt (.ca 0 (.cons (.v 0) .nil)))) (.cons .bad .nil) .nil) .nil)
def G_check_tiers : Cy := ⟨⟨[pf (F_are_tiers)], [], []⟩, []⟩
def F_check_tiers : Fn := runF G_check_tiers 0 1 1 B_check_tiers
/-! with_scan_of -/
def N_with_scan_of : List Str := ["row", "ask", "scan"]
def M_with_scan_of : Nx := ⟨⟨N_with_scan_of, [], [], [], [], none⟩, 0, []⟩
def B_with_scan_of : Ss := (.cons (.ret (.p (.b2 .add (.b2 .add (.sl (.v 0) .no (.so (.v 1))) (.v 2)) (.sl (.v 0) (.so (.v 1)) .no)))) .nil)
def G_with_scan_of : Cy := ⟨⟨[], [], []⟩, []⟩
def F_with_scan_of : Fn := runF G_with_scan_of 0 3 3 B_with_scan_of
/-! check_scan -/
def N_check_scan : List Str := ["row", "ask", "scan", "thing"]
def M_check_scan : Nx := ⟨⟨N_check_scan, [("check_row", 1), ("is_below", 2), ("is_row", 1)], [], ["LONGEST"], ["len", "set"], none⟩, 0, []⟩
def B_check_scan : Ss := (.cons (.ex (.p (.ca 0 (.cons (.v 0) .nil)))) (.cons (.ite (.p (.nt (.ca 1 (.cons (.v 1) (.cons (.b2 .add (.bi .len (.cons (.v 0) .nil)) (.k (.int 1))) .nil))))) (.cons .bad .nil) .nil) (.cons (.ite (.p (.or (.cons (.nt (.ca 2 (.cons (.v 2) .nil))) (.cons (.c2 .ne (.lenset (.v 2)) (.bi .len (.cons (.v 2) .nil))) (.cons (.c2 .ne (.co (.nm 3) (.sq (.v 2)) (.so (.c2 .inn (.v 3) (.v 0))) (.v 3)) (.lst .nil)) .nil))))) (.cons .bad .nil) .nil) (.cons (.ite (.p (.c2 .gt (.b2 .add (.bi .len (.cons (.v 0) .nil)) (.bi .len (.cons (.v 2) .nil))) (.g 0))) (.cons .bad .nil) .nil) .nil))))
def G_check_scan : Cy := ⟨⟨[pf (F_check_row), pf (F_is_below), pf (F_is_row)], [], [.int 60]⟩, []⟩
def F_check_scan : Fn := runF G_check_scan 0 3 4 B_check_scan
end Com
end KP
/-! KPx: what the common defs compute. -/
namespace KP
namespace Com
open PySem L2

/-! ### the evaluator in small steps -/
theorem bT1 {i : Nat} {d : D} {ρ : Sg} : bindT (.nm i) d ρ = some (ρ.set i (some d)) := rfl
theorem bT2 {ts : Tgs} {ds : List D} {ρ : Sg} : bindT (.tp ts) (.tup ds) ρ = bindTs ts ds ρ := by simp only [bindT]
theorem bT3 {ts : Tgs} {ds : List D} {ρ : Sg} : bindT (.tp ts) (.lst ds) ρ = bindTs ts ds ρ := by simp only [bindT]
theorem bT4 {ρ : Sg} : bindTs .nil [] ρ = some ρ := rfl
theorem bT5 {t : Tg} {ts : Tgs} {d : D} {ds : List D} {ρ : Sg} : bindTs (.cons t ts) (d :: ds) ρ = (bindT t d ρ).bind fun ρ' => bindTs ts ds ρ' := by simp only [bindTs]
theorem bO1 {i : Nat} {o : O} {ρ : So} : bindO (.nm i) o ρ = some (ρ.set i (some o)) := rfl
theorem bO2 {ts : Tgs} {os : List O} {ρ : So} : bindO (.tp ts) (.ot os) ρ = bindOs ts os ρ := by simp only [bindO]
theorem bO3 {ts : Tgs} {os : List O} {ρ : So} : bindO (.tp ts) (.ol os) ρ = bindOs ts os ρ := by simp only [bindO]
def bindOD (ts : Tgs) (ds : List D) (ρ : So) : Option So := bindOs ts (ds.map O.sh) ρ
theorem bO4 {ts : Tgs} {ds : List D} {ρ : So} : bindO (.tp ts) (.sh (.tup ds)) ρ = bindOD ts ds ρ := by simp only [bindO, bindOD]
theorem bO5 {ts : Tgs} {ds : List D} {ρ : So} : bindO (.tp ts) (.sh (.lst ds)) ρ = bindOD ts ds ρ := by simp only [bindO, bindOD]
theorem bO8 {ρ : So} : bindOD .nil [] ρ = some ρ := rfl
theorem bO9 {t : Tg} {ts : Tgs} {d : D} {ds : List D} {ρ : So} : bindOD (.cons t ts) (d :: ds) ρ = (bindO t (.sh d) ρ).bind fun ρ' => bindOD ts ds ρ' := by simp only [bindOD, List.map_cons, bindOs]
theorem bO6 {ρ : So} : bindOs .nil [] ρ = some ρ := rfl
theorem bO7 {t : Tg} {ts : Tgs} {o : O} {os : List O} {ρ : So} : bindOs (.cons t ts) (o :: os) ρ = (bindO t o ρ).bind fun ρ' => bindOs ts os ρ' := by simp only [bindOs]
theorem Ro1 {d : D} : (R.sh d).o = .sh d := rfl
theorem Ro2 {ds : List D} : (R.fl ds).o = .ol (ds.map O.sh) := rfl
theorem Ro3 {ks : List Key} {vs : List D} : (R.fK ks vs).o = .oK ks vs := rfl
theorem Ro4 {ks : List (List Key)} {vs : List D} : (R.fT ks vs).o = .oT ks vs := rfl
theorem Rd1 {d : D} : (R.sh d).d = d := rfl
theorem Rd2 {ds : List D} : (R.fl ds).d = .lst ds := rfl
theorem Rd3 {ks : List Key} {vs : List D} : (R.fK ks vs).d = .dK ks vs := rfl
theorem Rd4 {ks : List (List Key)} {vs : List D} : (R.fT ks vs).d = .dT ks vs := rfl
theorem Rf1 {d : D} : (R.sh d).flat = d.fl := rfl
theorem Rf2 {ds : List D} : (R.fl ds).flat = D.flL ds := rfl
theorem Rf3 {ks : List Key} {vs : List D} : (R.fK ks vs).flat = D.flL vs := rfl
theorem Rf4 {ks : List (List Key)} {vs : List D} : (R.fT ks vs).flat = D.flL vs := rfl
theorem iteB1 {c : Prop} [Decidable c] : (if c then some true else some false) = some (decide c) := by split <;> simp [*]
theorem iteB2 {c : Prop} [Decidable c] {b : Bool} : (if c then some b else some false) = some (decide c && b) := by split <;> simp [*]
theorem iteR1 {c : Prop} [Decidable c] {b : Bool} : (if c then some (R.sh (.bl b)) else some (R.sh (.bl false))) = some (R.sh (.bl (decide c && b))) := by split <;> simp [*]
theorem iteR {c : Prop} [Decidable c] {x y : D} : (if c then some (R.sh x) else some (R.sh y)) = some (R.sh (if c then x else y)) := by split <;> rfl
theorem iteBl {c : Prop} [Decidable c] {x y : Bool} : (if c then D.bl x else D.bl y) = D.bl (if c then x else y) := by split <;> rfl
theorem iteIn {c : Prop} [Decidable c] {x y : Int} : (if c then D.int x else D.int y) = D.int (if c then x else y) := by split <;> rfl
theorem asB1 {b : Bool} : asB (.sh (.bl b)) = some b := rfl
theorem asO1 {b : Bool} : asBO (.sh (.bl b)) = some b := rfl
theorem at21 {b : Bool} {ρ : So} : at2 (some (.sh (.bl b), ρ)) = some (b, ρ) := rfl
theorem oAdd {i j : Int} : o2D .add (.int i) (.int j) = some (.sh (.int (i + j))) := rfl
theorem oAddL {a b : List D} (h : a.length + b.length ≤ LIM) : o2D .add (.lst a) (.lst b) = some (.fl (a ++ b)) := by simp [o2D, h]
theorem oSub {i j : Int} : o2D .sub (.int i) (.int j) = some (.sh (.int (i - j))) := rfl
theorem oMul1 {i j : Int} (h : i.natAbs < 2 ^ 64) : o2D .mul (.int i) (.int j) = some (.sh (.int (i * j))) := by simp only [o2D]; rw [if_pos (.inl h)]
theorem oMul2 {i j : Int} (h : j.natAbs < 2 ^ 64) : o2D .mul (.int i) (.int j) = some (.sh (.int (i * j))) := by simp only [o2D]; rw [if_pos (.inr h)]
theorem oMulC {i : Int} {n : Int} (h0 : 0 < n) (h : n ≤ 2 ^ 63) {j : Int} : o2D .mul (.int (i % n)) (.int j) = some (.sh (.int (i % n * j))) := oMul1 (by
  have := Int.emod_nonneg i (show n ≠ 0 by omega)
  have := Int.emod_lt_of_pos i h0
  omega)
theorem oMod {i j : Int} (h : 0 < j) : o2D .mod (.int i) (.int j) = some (.sh (.int (i % j))) := by simp [o2D, h]
theorem oFdiv {i j : Int} (h : 0 < j) (h2 : j < 1073741824) : o2D .fdiv (.int i) (.int j) = some (.sh (.int (i / j))) := by simp [o2D, h, h2]
theorem cEq {i j : Int} : c2D .eq (.int i) (.int j) = some (decide (i = j)) := rfl
theorem cNe {i j : Int} : c2D .ne (.int i) (.int j) = some (!decide (i = j)) := rfl
theorem cLt {i j : Int} : c2D .lt (.int i) (.int j) = some (decide (i < j)) := rfl
theorem cLe {i j : Int} : c2D .le (.int i) (.int j) = some (decide (i ≤ j)) := rfl
theorem cGt {i j : Int} : c2D .gt (.int i) (.int j) = some (decide (j < i)) := rfl
theorem cGe {i j : Int} : c2D .ge (.int i) (.int j) = some (decide (j ≤ i)) := rfl
theorem ixL {ds : List D} {i : Int} : ixD (.lst ds) (.int i) = L2.atI ds i := rfl
theorem ixT {ds : List D} {i : Int} : ixD (.tup ds) (.int i) = L2.atI ds i := rfl
theorem ai0 {α : Type} {x : α} {xs : List α} : L2.atI (x :: xs) 0 = some x := by
  unfold L2.atI ixN; simp
theorem ai1 {α : Type} {x y : α} {xs : List α} : L2.atI (x :: y :: xs) 1 = some y := by
  unfold L2.atI ixN; simp; rw [if_pos (by omega)]; rfl
theorem ai2 {α : Type} {x y z : α} {xs : List α} : L2.atI (x :: y :: z :: xs) 2 = some z := by
  unfold L2.atI ixN; simp; rw [if_pos (by omega)]; rfl
theorem xn0 {n : Nat} : ixN (n + 1) 0 = some 0 := by unfold ixN; simp
theorem xn1 {n : Nat} : ixN (n + 1 + 1) 1 = some 1 := by unfold ixN; simp; omega
theorem xn2 {n : Nat} : ixN (n + 1 + 1 + 1) 2 = some 2 := by unfold ixN; simp; omega
theorem putL {os : List O} {z : Int} {v : O} : putO (.ol os) (.int z) v = (ixN os.length z).map fun j => .ol (os.set j v) := rfl
theorem p_is_whole (i : Int) : pf F_is_whole [.int i] = some (.sh (.bl true)) := rfl
theorem p_is_count (i : Int) : pf F_is_count [.int i] = some (.sh (.bl (decide (0 ≤ i)))) := by
  unfold pf F_is_count runF
  simp [evSs, evS, evX, evXs, evXan, evXor, evXo, evXc, evXt, evp, evs, evAnd, evOr, evo, evc, evi, start0, ShR, AlR, shS, alS, O.pu, O.puL, O.d, O.dL, Ro1, Ro2, Ro3, Ro4, Rd1, Rd2, Rd3, Rd4, Rf1, Rf2, Rf3, Rf4, iteB1, iteB2, iteR1, iteR, iteBl, iteIn, D.fl, D.flL, asB1, asO1, at21, getAll, setAll, unS, frz1, frzS, backS, bT1, bT2, bT3, bT4, bT5, bO1, bO2, bO3, bO4, bO5, bO6, bO7, bO8, bO9, C.d, oAdd, oAddL, oSub, oMul1, oMul2, oMulC, oMod, oFdiv, itemsD, ixL, ixT, ai0, ai1, ai2, putL, xn0, xn1, xn2, cEq, cLt, cLe, cGt, cGe, cNe, G_is_count, B_is_count, p_is_whole, c2D]
theorem p_is_below (i j : Int) : pf F_is_below [.int i, .int j] = some (.sh (.bl (decide (0 ≤ i) && decide (i < j)))) := by
  unfold pf F_is_below runF
  simp [evSs, evS, evX, evXs, evXan, evXor, evXo, evXc, evXt, evp, evs, evAnd, evOr, evo, evc, evi, start0, ShR, AlR, shS, alS, O.pu, O.puL, O.d, O.dL, Ro1, Ro2, Ro3, Ro4, Rd1, Rd2, Rd3, Rd4, Rf1, Rf2, Rf3, Rf4, iteB1, iteB2, iteR1, iteR, iteBl, iteIn, D.fl, D.flL, asB1, asO1, at21, getAll, setAll, unS, frz1, frzS, backS, bT1, bT2, bT3, bT4, bT5, bO1, bO2, bO3, bO4, bO5, bO6, bO7, bO8, bO9, C.d, oAdd, oAddL, oSub, oMul1, oMul2, oMulC, oMod, oFdiv, itemsD, ixL, ixT, ai0, ai1, ai2, putL, xn0, xn1, xn2, cEq, cLt, cLe, cGt, cGe, cNe, G_is_below, B_is_below, p_is_count, c2D]
theorem p_is_thing (i : Int) : pf F_is_thing [.int i] = some (.sh (.bl (decide (0 ≤ i) && decide (i < 26)))) := by
  unfold pf F_is_thing runF
  simp [evSs, evS, evX, evXs, evXan, evXor, evXo, evXc, evXt, evp, evs, evAnd, evOr, evo, evc, evi, start0, ShR, AlR, shS, alS, O.pu, O.puL, O.d, O.dL, Ro1, Ro2, Ro3, Ro4, Rd1, Rd2, Rd3, Rd4, Rf1, Rf2, Rf3, Rf4, iteB1, iteB2, iteR1, iteR, iteBl, iteIn, D.fl, D.flL, asB1, asO1, at21, getAll, setAll, unS, frz1, frzS, backS, bT1, bT2, bT3, bT4, bT5, bO1, bO2, bO3, bO4, bO5, bO6, bO7, bO8, bO9, C.d, oAdd, oAddL, oSub, oMul1, oMul2, oMulC, oMod, oFdiv, itemsD, ixL, ixT, ai0, ai1, ai2, putL, xn0, xn1, xn2, cEq, cLt, cLe, cGt, cGe, cNe, G_is_thing, B_is_thing, p_is_below]
/-- the hash -/
def hashI (seed index : Int) : Int :=
  let m := (seed * 1140671 + 27644437 * index * index + 131 * index + 19) % 2147483629
  let m := (m * m + 62089 * index + 32416187) % 2147483587
  (m * 48271) % 2147483647
theorem p_law_hash (s i : Int) (hi : i.natAbs < 2 ^ 60) : pf F__law_hash [.int s, .int i] = some (.sh (.int (hashI s i))) := by
  unfold pf F__law_hash runF
  have h1 : i.natAbs < 2 ^ 64 := by omega
  simp [evSs, evS, evX, evXs, evXan, evXor, evXo, evXc, evXt, evp, evs, evAnd, evOr, evo, evc, evi, start0, ShR, AlR, shS, alS, O.pu, O.puL, O.d, O.dL, Ro1, Ro2, Ro3, Ro4, Rd1, Rd2, Rd3, Rd4, Rf1, Rf2, Rf3, Rf4, iteB1, iteB2, iteR1, iteR, iteBl, iteIn, D.fl, D.flL, asB1, asO1, at21, getAll, setAll, unS, frz1, frzS, backS, bT1, bT2, bT3, bT4, bT5, bO1, bO2, bO3, bO4, bO5, bO6, bO7, bO8, bO9, C.d, oAdd, oAddL, oSub, oMul1, oMul2, oMulC, oMod, oFdiv, itemsD, ixL, ixT, ai0, ai1, ai2, putL, xn0, xn1, xn2, cEq, cLt, cLe, cGt, cGe, cNe, G__law_hash, B__law_hash, biD, h1, hashI]

/-! ### the generator -/
structure Gn where
  a : Int
  b : Int
  c : Int
def gO (g : Gn) : O := .ol [.sh (.int g.a), .sh (.int g.b), .sh (.int g.c)]
/-- a drawn number below k -/
def rnd (g : Gn) (k : Int) : Int × Gn := if 0 < g.a then (g.a % k, ⟨g.a / k, g.b, g.c⟩) else (hashI g.b (g.c + 1) % k, ⟨g.a, g.b, g.c + 1⟩)
theorem bits_small {k : Int} (h0 : 0 < k) (h : k < 2 ^ 29) : ((Builtin.Int.intBits k : Nat) : Int) / 30 = 0 := by
  have : Builtin.Int.intBits k < 30 := by
    unfold Builtin.Int.intBits
    split
    · omega
    · have h1 : k.natAbs < 2 ^ 29 := by omega
      have h2 : k.natAbs ≠ 0 := by omega
      have := (Nat.log2_lt h2).mpr h1
      omega
  omega
theorem r_random (g : Gn) (k : Int) (h0 : 0 < k) (h : k < 2 ^ 29) (hc : g.c.natAbs < 2 ^ 59) : F__law_random [gO g] [.int k] = some (.sh (.int (rnd g k).1), [gO (rnd g k).2]) := by
  unfold F__law_random runF
  by_cases ha : 0 < g.a
  · simp [evSs, evS, evX, evXs, evXan, evXor, evXo, evXc, evXt, evp, evs, evAnd, evOr, evo, evc, evi, start0, ShR, AlR, shS, alS, O.pu, O.puL, O.d, O.dL, Ro1, Ro2, Ro3, Ro4, Rd1, Rd2, Rd3, Rd4, Rf1, Rf2, Rf3, Rf4, iteB1, iteB2, iteR1, iteR, iteBl, iteIn, D.fl, D.flL, asB1, asO1, at21, getAll, setAll, unS, frz1, frzS, backS, bT1, bT2, bT3, bT4, bT5, bO1, bO2, bO3, bO4, bO5, bO6, bO7, bO8, bO9, C.d, oAdd, oAddL, oSub, oMul1, oMul2, oMulC, oMod, oFdiv, itemsD, ixL, ixT, ai0, ai1, ai2, putL, xn0, xn1, xn2, cEq, cLt, cLe, cGt, cGe, cNe, G__law_random, B__law_random, biD, gO, rnd, ha, h0, show k < 1073741824 by omega]
  · have hh := p_law_hash g.b (g.c + 1) (by omega)
    simp [evSs, evS, evX, evXs, evXan, evXor, evXo, evXc, evXt, evp, evs, evAnd, evOr, evo, evc, evi, start0, ShR, AlR, shS, alS, O.pu, O.puL, O.d, O.dL, Ro1, Ro2, Ro3, Ro4, Rd1, Rd2, Rd3, Rd4, Rf1, Rf2, Rf3, Rf4, iteB1, iteB2, iteR1, iteR, iteBl, iteIn, D.fl, D.flL, asB1, asO1, at21, getAll, setAll, unS, frz1, frzS, backS, bT1, bT2, bT3, bT4, bT5, bO1, bO2, bO3, bO4, bO5, bO6, bO7, bO8, bO9, C.d, oAdd, oAddL, oSub, oMul1, oMul2, oMulC, oMod, oFdiv, itemsD, ixL, ixT, ai0, ai1, ai2, putL, xn0, xn1, xn2, cEq, cLt, cLe, cGt, cGe, cNe, G__law_random, B__law_random, W__law_random_1, Y__law_random_1, biD, gO, rnd, ha, h0, meD, meBits, bits_small h0 h, smallI, rangeD, forN, hh]

/-! ### the start -/
theorem r_cell (ns : List Int) : ∃ v : Int, pf F__law_cell [.scr ns, .int 0] = some (.sh (.int v)) := by
  unfold pf F__law_cell runF
  cases ns with
  | nil => simp [evSs, evS, evX, evXs, evXan, evXor, evXo, evXc, evXt, evp, evs, evAnd, evOr, evo, evc, evi, start0, ShR, AlR, shS, alS, O.pu, O.puL, O.d, O.dL, Ro1, Ro2, Ro3, Ro4, Rd1, Rd2, Rd3, Rd4, Rf1, Rf2, Rf3, Rf4, iteB1, iteB2, iteR1, iteR, iteBl, iteIn, D.fl, D.flL, asB1, asO1, at21, getAll, setAll, unS, frz1, frzS, backS, bT1, bT2, bT3, bT4, bT5, bO1, bO2, bO3, bO4, bO5, bO6, bO7, bO8, bO9, C.d, oAdd, oAddL, oSub, oMul1, oMul2, oMulC, oMod, oFdiv, itemsD, ixL, ixT, ai0, ai1, ai2, putL, xn0, xn1, xn2, cEq, cLt, cLe, cGt, cGe, cNe, G__law_cell, B__law_cell, biD, slD, cutL, HT.sIx, ints?]
  | cons n ns => simp [evSs, evS, evX, evXs, evXan, evXor, evXo, evXc, evXt, evp, evs, evAnd, evOr, evo, evc, evi, start0, ShR, AlR, shS, alS, O.pu, O.puL, O.d, O.dL, Ro1, Ro2, Ro3, Ro4, Rd1, Rd2, Rd3, Rd4, Rf1, Rf2, Rf3, Rf4, iteB1, iteB2, iteR1, iteR, iteBl, iteIn, D.fl, D.flL, asB1, asO1, at21, getAll, setAll, unS, frz1, frzS, backS, bT1, bT2, bT3, bT4, bT5, bO1, bO2, bO3, bO4, bO5, bO6, bO7, bO8, bO9, C.d, oAdd, oAddL, oSub, oMul1, oMul2, oMulC, oMod, oFdiv, itemsD, ixL, ixT, ai0, ai1, ai2, putL, xn0, xn1, xn2, cEq, cLt, cLe, cGt, cGe, cNe, G__law_cell, B__law_cell, biD, slD, ixD]
end Com
end KP
/-! KPy: typed lists, loops, draws. -/
namespace KP
open PySem L2

/-! ### typed lists -/
theorem okn_non {n : Nat} : D.okn n .non = true := by cases n <;> rfl
theorem okn_bl {n : Nat} {b : Bool} : D.okn n (.bl b) = true := by cases n <;> rfl
theorem okn_int {n : Nat} {i : Int} : D.okn n (.int i) = true := by cases n <;> rfl
theorem okn_lst {n : Nat} {xs : List D} : D.okn (n + 1) (.lst xs) = xs.all (D.okn n) := rfl
theorem okn_tup {n : Nat} {xs : List D} : D.okn (n + 1) (.tup xs) = xs.all (D.okn n) := rfl
theorem ok_non : D.ok .non = true := rfl
theorem ok_bl {b : Bool} : D.ok (.bl b) = true := rfl
theorem ok_int {i : Int} : D.ok (.int i) = true := rfl
theorem ok_lst {xs : List D} : D.ok (.lst xs) = xs.all (D.okn 8) := rfl
theorem ok_tup {xs : List D} : D.ok (.tup xs) = xs.all (D.okn 8) := rfl
theorem okn_ints {n : Nat} {α : Type} {xs : List α} {f : α → Int} : (xs.map fun x => D.int (f x)).all (D.okn n) = true := by
  rw [List.all_eq_true]; intro x h; obtain ⟨y, _, rfl⟩ := List.mem_map.mp h; exact okn_int
theorem okn_ints' {n : Nat} {xs : List Int} : (xs.map D.int).all (D.okn n) = true := okn_ints (f := id)
theorem flat_ints {xs : List Int} : (xs.map D.int).all D.flat = true := by
  rw [List.all_eq_true]; intro x h; obtain ⟨y, _, rfl⟩ := List.mem_map.mp h; rfl
theorem flL_ints {xs : List Int} : D.flL (xs.map D.int) = true := by
  induction xs with
  | nil => rfl
  | cons x xs ih => simp [D.flL, D.fl, ih]
theorem flL_eq : ∀ xs : List D, D.flL xs = xs.all D.fl
  | [] => by simp [D.flL]
  | x :: xs => by simp [D.flL, flL_eq xs]
theorem flL_mapI {α : Type} {f : α → Int} {xs : List α} : D.flL (xs.map fun x => D.int (f x)) = true := by
  induction xs with
  | nil => rfl
  | cons x xs ih => simp [D.flL, D.fl, ih]
theorem mapOI {α : Type} {f : α → Int} {xs : List α} : (xs.map f).map (fun x => O.sh (.int x)) = xs.map fun x => O.sh (.int (f x)) := by rw [List.map_map]; rfl
theorem eqv_int {i j : Int} : D.eqv (.int i) (.int j) = decide (i = j) := by
  simp only [D.eqv, D.py, PyData.eqv]; rw [Bool.eq_iff_iff]; simp
theorem eqv_bl {a b : Bool} : D.eqv (.bl a) (.bl b) = (a == b) := by
  simp [D.eqv, D.py, PyData.eqv]
theorem eqvAll_map {α : Type} [DecidableEq α] {e : α → D} (h : ∀ a b, D.eqv (e a) (e b) = decide (a = b)) : ∀ xs ys : List α, PyData.eqvAll (D.pyL (xs.map e)) (D.pyL (ys.map e)) = decide (xs = ys)
  | [], [] => by simp [D.pyL, PyData.eqvAll]
  | [], y :: ys => by simp [D.pyL, PyData.eqvAll]
  | x :: xs, [] => by simp [D.pyL, PyData.eqvAll]
  | x :: xs, y :: ys => by
    have := h x y
    unfold D.eqv at this
    simp [D.pyL, PyData.eqvAll, this, eqvAll_map h xs ys]
theorem eqv_lst {α : Type} [DecidableEq α] {e : α → D} (h : ∀ a b, D.eqv (e a) (e b) = decide (a = b)) (xs ys : List α) : D.eqv (.lst (xs.map e)) (.lst (ys.map e)) = decide (xs = ys) := by
  simp [D.eqv, D.py, PyData.eqv, eqvAll_map h xs ys]
theorem eqv_LI {xs ys : List Int} : D.eqv (.lst (xs.map .int)) (.lst (ys.map .int)) = decide (xs = ys) := eqv_lst (fun _ _ => eqv_int) xs ys
theorem eqD_LI {xs ys : List Int} : eqD (.lst (xs.map .int)) (.lst (ys.map .int)) = some (decide (xs = ys)) := by
  unfold eqD; rw [ok_lst, ok_lst, okn_ints', okn_ints', eqv_LI]; rfl
theorem eqv_nil {xs : List D} : D.eqv (.lst xs) (.lst []) = xs.isEmpty := by
  cases xs <;> simp [D.eqv, D.py, D.pyL, PyData.eqv, PyData.eqvAll]
theorem eqD_nil {xs : List D} (h : xs.all (D.okn 8) = true) : eqD (.lst xs) (.lst []) = some xs.isEmpty := by
  unfold eqD; rw [ok_lst, ok_lst, h, eqv_nil]; rfl
theorem eqD_nilI {xs : List Int} : eqD (.lst (xs.map .int)) (.lst []) = some (decide (xs = [])) := by
  rw [eqD_nil okn_ints']; cases xs <;> rfl
theorem eqD_nil0 : eqD (.lst []) (.lst []) = some true := rfl
theorem filterT {α : Type} {xs : List α} : xs.filter (fun _ => true) = xs := List.filter_eq_self.mpr fun _ _ => rfl
def iran (a b : Int) : List Int := (List.range (b - a).toNat).map fun i : Nat => a + (i : Int)
theorem rangeD_I {a b : Int} : rangeD a b = (iran a b).map D.int := by unfold rangeD iran; rw [List.map_map]; rfl
theorem iran_length {a b : Int} : (iran a b).length = (b - a).toNat := by simp [iran]
theorem mem_iran {a b x : Int} : x ∈ iran a b ↔ a ≤ x ∧ x < b := by
  unfold iran
  rw [List.mem_map]
  constructor
  · rintro ⟨i, h, rfl⟩
    have := List.mem_range.mp h
    omega
  · intro h
    exact ⟨(x - a).toNat, List.mem_range.mpr (by omega), by omega⟩
theorem iran_get {a b : Int} {i : Nat} (h : i < (b - a).toNat) : (iran a b)[i]? = some (a + i) := by
  unfold iran; simp [h]
theorem cEqD {x y : D} : c2D .eq x y = eqD x y := rfl
theorem cNeD {x y : D} : c2D .ne x y = (eqD x y).map not := rfl
theorem inD_LI {x : Int} {xs : List Int} : inD (.int x) (.lst (xs.map .int)) = some (decide (x ∈ xs)) := by
  simp only [inD, okn_ints', ok_int, Bool.and_self, if_true, List.any_map, Function.comp_def, eqv_int]
  congr 1
  rw [Bool.eq_iff_iff]
  simp
theorem eqD_int {i j : Int} : eqD (.int i) (.int j) = some (decide (i = j)) := by unfold eqD; rw [ok_int, ok_int, eqv_int]; rfl
theorem eqD_bl {i j : Bool} : eqD (.bl i) (.bl j) = some (i == j) := by unfold eqD; rw [ok_bl, ok_bl, eqv_bl]; rfl
theorem inD_nilI {x : Int} : inD (.int x) (.lst []) = some false := rfl
theorem inD_nil {x : D} (h : x.ok = true) : inD x (.lst []) = some false := by
  unfold inD; simp [h]
theorem cIn {x y : D} : c2D .inn x y = inD x y := rfl
theorem cNin {x y : D} : c2D .nin x y = (inD x y).map not := rfl
theorem cIs {x y : D} : c2D .is x y = isD x y := rfl
theorem cIsn {x y : D} : c2D .isn x y = (isD x y).map not := rfl
theorem ints?_map {α : Type} {f : α → Int} {xs : List α} : ints? (xs.map fun x => D.int (f x)) = some (xs.map f) := by
  induction xs with
  | nil => rfl
  | cons x xs ih => simp [ints?, ih]
theorem atI_map {α β : Type} {e : α → β} {xs : List α} {i : Int} : L2.atI (xs.map e) i = (L2.atI xs i).map e := by
  unfold L2.atI; rw [List.length_map]; cases L2.ixN xs.length i <;> simp
theorem atI_nat {α : Type} {xs : List α} {i : Nat} : L2.atI xs (i : Int) = xs[i]? := by
  unfold L2.atI L2.ixN
  by_cases h : i < xs.length
  · simp [h]
  · simp [h]
theorem atI_pos {α : Type} {xs : List α} {i : Int} (h0 : 0 ≤ i) (h : i < xs.length) : L2.atI xs i = some (xs[i.toNat]'(by omega)) := by
  obtain ⟨n, rfl⟩ := Int.eq_ofNat_of_zero_le h0
  rw [atI_nat]; simp
theorem atI_last {α : Type} {xs : List α} : L2.atI xs (-1) = xs.getLast? := by
  unfold L2.atI L2.ixN
  cases xs with
  | nil => simp
  | cons x xs =>
    simp
    rw [if_pos (by omega), show (-1 + ((xs.length : Int) + 1)).toNat = xs.length by omega]
    rw [List.getLast?_eq_getElem?]; simp
theorem ixN_pos {n : Nat} {i : Int} (h0 : 0 ≤ i) (h : i < n) : ixN n i = some i.toNat := by unfold ixN; rw [if_pos h0, if_pos h]
theorem eraseIdx_map {α β : Type} {f : α → β} : ∀ {xs : List α} {i : Nat}, (xs.map f).eraseIdx i = (xs.eraseIdx i).map f
  | [], _ => rfl
  | _ :: _, 0 => rfl
  | _ :: xs, i + 1 => by simp [eraseIdx_map (xs := xs)]
theorem perm_erase {α : Type} : ∀ {xs : List α} {i : Nat} {x : α}, xs[i]? = some x → xs.Perm (x :: xs.eraseIdx i)
  | [], _, _, h => by simp at h
  | _ :: _, 0, _, h => by simp at h; subst h; exact .refl _
  | y :: xs, i + 1, x, h => by
    have := perm_erase (xs := xs) (i := i) (x := x) (by simpa using h)
    exact (List.Perm.cons y this).trans (List.Perm.swap x y _)
theorem cutL_map {α β : Type} {e : α → β} {xs : List α} {lo hi : Option Int} : cutL (xs.map e) lo hi = (cutL xs lo hi).map e := by
  unfold cutL; rw [List.length_map, List.map_take, List.map_drop]
theorem cutL_to {α : Type} {xs : List α} {k : Int} (h : 0 ≤ k) : cutL xs none (some k) = xs.take k.toNat := by
  obtain ⟨n, rfl⟩ := Int.eq_ofNat_of_zero_le h
  unfold cutL
  rw [HT.sIx_none, HT.sIx_nat]
  simp [List.take_eq_take_iff]
theorem cutL_from {α : Type} {xs : List α} {k : Int} (h : 0 ≤ k) : cutL xs (some k) none = xs.drop k.toNat := by
  obtain ⟨n, rfl⟩ := Int.eq_ofNat_of_zero_le h
  unfold cutL
  rw [HT.sIx_none, HT.sIx_nat]
  simp
  by_cases q : n ≤ xs.length
  · rw [Nat.min_eq_left q, List.take_of_length_le (by simp)]
  · rw [Nat.min_eq_right (by omega)]
    simp; omega
theorem slD_map {α : Type} {e : α → D} {xs : List α} {lo hi : Option Int} : slD (.lst (xs.map e)) lo hi = some (.fl ((cutL xs lo hi).map e)) := by
  unfold slD; simp only [cutL_map]
theorem fold1 {α : Type} {e : α → D} {x : α} : [e x] = [x].map e := rfl
theorem foldI1 {x : Int} : D.lst [D.int x] = .lst ([x].map D.int) := rfl
theorem foldI {x : Int} {xs : List Int} : D.lst (D.int x :: xs.map D.int) = .lst ((x :: xs).map D.int) := rfl
theorem addL {α : Type} {e : α → D} {xs ys : List α} (h : xs.length + ys.length ≤ LIM) : o2D .add (.lst (xs.map e)) (.lst (ys.map e)) = some (.fl ((xs ++ ys).map e)) := by
  simp [o2D, h]
theorem addNL {ys : List D} (h : ys.length ≤ LIM) : o2D .add (.lst []) (.lst ys) = some (.fl ys) := by
  simp [o2D, h]
theorem addNR {ys : List D} (h : ys.length ≤ LIM) : o2D .add (.lst ys) (.lst []) = some (.fl ys) := by
  simp [o2D, h]
theorem dL_sh {α : Type} {e : α → D} {xs : List α} : O.dL (xs.map fun x => O.sh (e x)) = xs.map e := by
  rw [O.dL_eq, List.map_map]; rfl
theorem dL_sh' {xs : List D} : O.dL (xs.map O.sh) = xs := by
  rw [O.dL_eq, List.map_map]; induction xs <;> simp_all [O.d]
theorem map_sh {α : Type} {e : α → D} {xs : List α} : (xs.map e).map O.sh = xs.map fun x => O.sh (e x) := by rw [List.map_map]; rfl
theorem biLen {xs : List D} : biD .len [.lst xs] = some (.sh (.int (xs.length : Int))) := rfl
theorem biLenT {xs : List D} : biD .len [.tup xs] = some (.sh (.int (xs.length : Int))) := rfl
theorem biListL {xs : List D} : biD .list [.lst xs] = some (.fl xs) := rfl
theorem biSorted {xs : List Int} : biD .sorted [.lst (xs.map D.int)] = some (.fl ((isort xs).map D.int)) := by simp only [biD, ints?_ints]
theorem biMax2 {i j : Int} : biD .max [.int i, .int j] = some (.sh (.int (max i j))) := by
  simp only [biD]; congr 3; omega
theorem biMin2 {i j : Int} : biD .min [.int i, .int j] = some (.sh (.int (min i j))) := by
  simp only [biD]; congr 3; omega
theorem biInt {i : Int} : biD .int [.int i] = some (.sh (.int i)) := rfl
theorem isD1 : isD .non .non = some true := rfl
theorem isD2 {i : Int} : isD (.int i) .non = some false := rfl
def mapS : List O → So → So
  | [], r => r
  | o :: os, r => some o :: mapS os r
def mapD : List D → So → So
  | [], r => r
  | d :: ds, r => some (.sh d) :: mapD ds r
theorem mapS_eq : ∀ (os : List O) (r : So), mapS os r = os.map some ++ r
  | [], r => rfl
  | o :: os, r => by simp [mapS, mapS_eq os]
theorem mapD_eq : ∀ (os : List D) (r : So), mapD os r = (os.map fun d => some (.sh d)) ++ r
  | [], r => rfl
  | o :: os, r => by simp [mapD, mapD_eq os]
theorem start0_eq (os : List O) (ds : List D) (n : Nat) : start0 os ds n = mapS os (mapD ds (List.replicate (n - (os.length + ds.length)) none)) := by
  rw [mapS_eq, mapD_eq, ← List.append_assoc]; rfl
theorem foldO {f : List Int} {y : Int} : f.map (fun x => O.sh (.int x)) ++ [.sh (.int y)] = (f ++ [y]).map fun x => O.sh (.int x) := by simp
theorem snocM {α β : Type} (e : α → β) (f : List α) (y : α) : f.map e ++ [e y] = (f ++ [y]).map e := by simp
theorem biAll {α : Type} {p : α → Bool} {xs : List α} : biD .all [.lst (xs.map fun x => .bl (p x))] = some (.sh (.bl (xs.all p))) := by
  have : bools? (xs.map fun x => D.bl (p x)) = some (xs.map p) := by
    induction xs with
    | nil => rfl
    | cons x xs ih => simp [bools?, ih]
  simp [biD, this, List.all_map, Function.comp_def]
def pmap : List Nat → List D → List D
  | [], _ => []
  | i :: is, ds => (ds[i]?).getD .non :: pmap is ds
theorem pmapE {ds : List D} : ∀ {pm : List Nat}, pm.map (fun i => (ds[i]?).getD .non) = pmap pm ds
  | [] => rfl
  | i :: is => by rw [List.map_cons, pmapE]; rfl
/-! ### comprehensions -/
def compG {α : Type} (c : α → Option Bool) (f : α → Option D) : List α → Option (List D)
  | [] => some []
  | x :: xs => (c x).bind fun b => if b then (f x).bind fun y => (compG c f xs).map (y :: ·) else compG c f xs
theorem compL_map {α : Type} {e : α → D} {c : D → Option Bool} {f : D → Option D} {xs : List α} : compL c f (xs.map e) = compG (fun x => c (e x)) (fun x => f (e x)) xs := by
  induction xs with
  | nil => rfl
  | cons x xs ih => simp only [List.map_cons, compL, compG, ih]
theorem compL_enum {α : Type} {e : α → D} {c : D → Option Bool} {f : D → Option D} {xs : List α} {k : Nat} : compL c f (enumD k (xs.map e)) = compG (fun x => c (.tup [.int (x.2 : Int), e x.1])) (fun x => f (.tup [.int (x.2 : Int), e x.1])) (xs.zipIdx k) := by
  induction xs generalizing k with
  | nil => rfl
  | cons x xs ih => simp only [List.map_cons, enumD, compL, List.zipIdx_cons, compG, ih]
theorem compL_enumD {c : D → Option Bool} {f : D → Option D} {xs : List D} {k : Nat} : compL c f (enumD k xs) = compG (fun x => c (.tup [.int (x.2 : Int), x.1])) (fun x => f (.tup [.int (x.2 : Int), x.1])) (xs.zipIdx k) := by
  have := compL_enum (e := id) (c := c) (f := f) (xs := xs) (k := k)
  rwa [List.map_id] at this
theorem compL_range {a b : Int} {c : D → Option Bool} {f : D → Option D} : compL c f (rangeD a b) = compG (fun i => c (.int (a + (i : Nat)))) (fun i => f (.int (a + (i : Nat)))) (List.range (b - a).toNat) := by
  unfold rangeD; rw [compL_map]
theorem compG_congr {α : Type} {c c' : α → Option Bool} {f f' : α → Option D} {xs ys : List α} (h : xs = ys) (hc : ∀ x ∈ ys, c x = c' x) (hf : ∀ x ∈ ys, f x = f' x) : compG c f xs = compG c' f' ys := by
  subst h
  induction xs with
  | nil => rfl
  | cons x xs ih =>
    simp only [compG]
    rw [hc x List.mem_cons_self, hf x List.mem_cons_self, ih (fun y hy => hc y (List.mem_cons_of_mem _ hy)) (fun y hy => hf y (List.mem_cons_of_mem _ hy))]
theorem compG_some {α : Type} {p : α → Bool} {g : α → D} {xs : List α} : compG (fun x => some (p x)) (fun x => some (g x)) xs = some ((xs.filter p).map g) := by
  induction xs with
  | nil => rfl
  | cons x xs ih =>
    simp only [compG, ih]
    by_cases h : p x <;> simp [h]
theorem compG_all {α : Type} {g : α → D} {xs : List α} : compG (fun x => some true) (fun x => some (g x)) xs = some (xs.map g) := by
  rw [compG_some (p := fun _ => true), List.filter_eq_self.mpr (fun _ _ => rfl)]
theorem compG_rule {α : Type} {c : α → Option Bool} {f : α → Option D} {xs : List α} (p : α → Bool) (g : α → D) (hc : ∀ x ∈ xs, c x = some (p x)) (hf : ∀ x ∈ xs, p x = true → f x = some (g x)) : compG c f xs = some ((xs.filter p).map g) := by
  induction xs with
  | nil => rfl
  | cons x xs ih =>
    simp only [compG, hc x List.mem_cons_self, Option.bind_some]
    have := ih (fun y hy => hc y (List.mem_cons_of_mem _ hy)) (fun y hy => hf y (List.mem_cons_of_mem _ hy))
    by_cases h : p x
    · simp [h, hf x List.mem_cons_self h, this]
    · simp [h, this]
theorem compG_map {α : Type} {c : α → Option Bool} {f : α → Option D} {xs : List α} (g : α → D) (hc : ∀ x ∈ xs, c x = some true) (hf : ∀ x ∈ xs, f x = some (g x)) : compG c f xs = some (xs.map g) := by
  rw [compG_rule (fun _ => true) g hc fun x hx _ => hf x hx, List.filter_eq_self.mpr (fun _ _ => rfl)]
theorem compX_map {α : Type} {e : α → D} {c : D → So → Option (Bool × So)} {f : D → So → Option (O × So)} {w : So → So} {xs : List α} {ρ : So} (g : α → O)
    (h : ∀ x ∈ xs, ∃ ρ1 ρ2, c (e x) ρ = some (true, ρ1) ∧ f (e x) ρ1 = some (g x, ρ2) ∧ w ρ2 = ρ) : compX c f w (xs.map e) ρ = some (xs.map g, ρ) := by
  induction xs with
  | nil => rfl
  | cons x xs ih =>
    obtain ⟨ρ1, ρ2, h1, h2, h3⟩ := h x List.mem_cons_self
    rw [List.map_cons, compX, h1, Option.bind_some, if_pos rfl, h2, Option.bind_some, h3, ih fun y hy => h y (List.mem_cons_of_mem _ hy)]
    rfl
/-! ### loops -/
def Step (G : Cy) (tg : Tg) (b : Ss) (d : D) (ρ : So) (P : So → Prop) : Prop := ∃ ρ0, bindO tg (.sh d) ρ = some ρ0 ∧ ∃ ρ', (evSs G b ρ0 = some (.nx ρ') ∨ evSs G b ρ0 = some (.ct ρ')) ∧ P ρ'
theorem Step.nx {G : Cy} {tg : Tg} {b : Ss} {d : D} {ρ ρ0 ρ' : So} {P : So → Prop} (h0 : bindO tg (.sh d) ρ = some ρ0) (h : evSs G b ρ0 = some (.nx ρ')) (p : P ρ') : Step G tg b d ρ P := ⟨ρ0, h0, ρ', .inl h, p⟩
theorem Step.ct {G : Cy} {tg : Tg} {b : Ss} {d : D} {ρ ρ0 ρ' : So} {P : So → Prop} (h0 : bindO tg (.sh d) ρ = some ρ0) (h : evSs G b ρ0 = some (.ct ρ')) (p : P ρ') : Step G tg b d ρ P := ⟨ρ0, h0, ρ', .inr h, p⟩
theorem Step.ex {G : Cy} {tg : Tg} {b : Ss} {d : D} {ρ : So} {P : So → Prop} (h : Step G tg b d ρ P) : ∃ ρ', (((bindO tg (.sh d) ρ).bind fun ρ'' => evSs G b ρ'') = some (.nx ρ') ∨ ((bindO tg (.sh d) ρ).bind fun ρ'' => evSs G b ρ'') = some (.ct ρ')) ∧ P ρ' := by
  obtain ⟨ρ0, h0, ρ', h, p⟩ := h
  exact ⟨ρ', by simpa [h0] using h, p⟩
theorem forN_pre {α : Type} {e : α → D} {f : D → So → Option Out} {xs : List α} (R : List α → So → Prop)
    (h : ∀ pre x post ρ, xs = pre ++ x :: post → R pre ρ → ∃ ρ', (f (e x) ρ = some (.nx ρ') ∨ f (e x) ρ = some (.ct ρ')) ∧ R (pre ++ [x]) ρ') {ρ : So} (h0 : R [] ρ) : ∃ ρ', forN f (xs.map e) ρ = some (.nx ρ') ∧ R xs ρ' := by
  suffices ∀ post pre ρ, xs = pre ++ post → R pre ρ → ∃ ρ', forN f (post.map e) ρ = some (.nx ρ') ∧ R xs ρ' from this xs [] ρ rfl h0
  intro post
  induction post with
  | nil => intro pre ρ hx hr; simp at hx; subst hx; exact ⟨ρ, rfl, hr⟩
  | cons x post ih =>
    intro pre ρ hx hr
    obtain ⟨ρ1, h1, h2⟩ := h pre x post ρ hx hr
    obtain ⟨ρ2, h3, h4⟩ := ih (pre ++ [x]) ρ1 (by simp [hx]) h2
    refine ⟨ρ2, ?_, h4⟩
    rw [List.map_cons]
    rcases h1 with h1 | h1 <;> simp [forN, h1, h3]
theorem forN_enum {α : Type} {e : α → D} {f : D → So → Option Out} {xs : List α} (R : List α → So → Prop)
    (h : ∀ pre x post ρ, xs = pre ++ x :: post → R pre ρ → ∃ ρ', (f (.tup [.int (pre.length : Int), e x]) ρ = some (.nx ρ') ∨ f (.tup [.int (pre.length : Int), e x]) ρ = some (.ct ρ')) ∧ R (pre ++ [x]) ρ') {ρ : So} (h0 : R [] ρ) : ∃ ρ', forN f (enumD 0 (xs.map e)) ρ = some (.nx ρ') ∧ R xs ρ' := by
  suffices ∀ post pre ρ, xs = pre ++ post → R pre ρ → ∃ ρ', forN f (enumD pre.length (post.map e)) ρ = some (.nx ρ') ∧ R xs ρ' from this xs [] ρ rfl h0
  intro post
  induction post with
  | nil => intro pre ρ hx hr; simp at hx; subst hx; exact ⟨ρ, rfl, hr⟩
  | cons x post ih =>
    intro pre ρ hx hr
    obtain ⟨ρ1, h1, h2⟩ := h pre x post ρ hx hr
    obtain ⟨ρ2, h3, h4⟩ := ih (pre ++ [x]) ρ1 (by simp [hx]) h2
    refine ⟨ρ2, ?_, h4⟩
    rw [List.length_append, List.length_singleton] at h3
    rw [List.map_cons, enumD]
    rcases h1 with h1 | h1 <;> simp [forN, h1, h3]
theorem forN_range {f : D → So → Option Out} {a b : Int} (hab : a ≤ b) (R : Int → So → Prop)
    (h : ∀ i ρ, a ≤ i → i < b → R i ρ → ∃ ρ', (f (.int i) ρ = some (.nx ρ') ∨ f (.int i) ρ = some (.ct ρ')) ∧ R (i + 1) ρ') {ρ : So} (h0 : R a ρ) : ∃ ρ', forN f (rangeD a b) ρ = some (.nx ρ') ∧ R b ρ' := by
  obtain ⟨n, rfl⟩ : ∃ n : Nat, b = a + n := ⟨(b - a).toNat, by omega⟩
  have e : rangeD a (a + n) = (List.range n).map fun i => .int (a + (i : Nat)) := by unfold rangeD; congr 2; omega
  rw [e]
  obtain ⟨ρ', h1, h2⟩ := forN_pre (e := fun i : Nat => D.int (a + i)) (f := f) (xs := List.range n) (fun pre ρ => R (a + pre.length) ρ) (fun pre x post ρ hx hr => by
    have hl : x = pre.length := by
      have h1 : (List.range n)[pre.length]? = some x := by rw [hx]; simp
      have h2 := (List.getElem?_eq_some_iff.mp h1)
      obtain ⟨h3, h4⟩ := h2
      simpa using h4.symm
    have hn : pre.length < n := by
      have := congrArg List.length hx
      simp at this; omega
    obtain ⟨ρ', h3, h4⟩ := h (a + pre.length) ρ (by omega) (by omega) hr
    subst hl
    exact ⟨ρ', h3, by simpa [Int.add_assoc] using h4⟩) (ρ := ρ) (by simpa using h0)
  exact ⟨ρ', h1, by simpa using h2⟩
theorem fo_mapG {α : Type} {G : Cy} {tg : Tg} {it : Xt} {b : Ss} {ρ ρ0 : So} {e : α → D} {xs : List α} (R : List α → So → Prop) (hit : evXt G it ρ = some (xs.map e, ρ0)) (h0 : R [] ρ0)
    (h : ∀ pre x post ρ, xs = pre ++ x :: post → R pre ρ → Step G tg b (e x) ρ (R (pre ++ [x]))) : ∃ ρ', evS G (.fo tg it b) ρ = some (.nx ρ') ∧ R xs ρ' := by
  simp only [evS, hit, Option.bind_some]
  exact forN_pre R (fun pre x post ρ hx hr => (h pre x post ρ hx hr).ex) h0
theorem fo_enumG {α : Type} {G : Cy} {tg : Tg} {it : Xt} {b : Ss} {ρ ρ0 : So} {e : α → D} {xs : List α} (R : List α → So → Prop) (hit : evXt G it ρ = some (enumD 0 (xs.map e), ρ0)) (h0 : R [] ρ0)
    (h : ∀ pre x post ρ, xs = pre ++ x :: post → R pre ρ → Step G tg b (.tup [.int (pre.length : Int), e x]) ρ (R (pre ++ [x]))) : ∃ ρ', evS G (.fo tg it b) ρ = some (.nx ρ') ∧ R xs ρ' := by
  simp only [evS, hit, Option.bind_some]
  exact forN_enum R (fun pre x post ρ hx hr => (h pre x post ρ hx hr).ex) h0
theorem fo_rangeG {G : Cy} {tg : Tg} {it : Xt} {b : Ss} {ρ ρ0 : So} {lo hi : Int} (R : Int → So → Prop) (hit : evXt G it ρ = some ((iran lo hi).map D.int, ρ0)) (hl : lo ≤ hi) (h0 : R lo ρ0)
    (h : ∀ i ρ, lo ≤ i → i < hi → R i ρ → Step G tg b (.int i) ρ (R (i + 1))) : ∃ ρ', evS G (.fo tg it b) ρ = some (.nx ρ') ∧ R hi ρ' := by
  simp only [evS, hit, Option.bind_some]
  rw [← rangeD_I]
  exact forN_range hl R (fun i ρ h1 h2 hr => (h i ρ h1 h2 hr).ex) h0
theorem whl_rule {c : So → Option (Bool × So)} {b : So → Option Out} (R : Nat → So → Prop) (h : ∀ n ρ, R n ρ → ∃ t ρ1, c ρ = some (t, ρ1) ∧ (t = true → ∃ m ρ', m < n ∧ (b ρ1 = some (.nx ρ') ∨ b ρ1 = some (.ct ρ')) ∧ R m ρ')) {P : So → Prop} (hP : ∀ n ρ ρ1, R n ρ → c ρ = some (false, ρ1) → P ρ1) :
    ∀ (fuel n : Nat) (ρ : So), R n ρ → n < fuel → ∃ ρ', whlN c b fuel ρ = some (.nx ρ') ∧ P ρ'
  | 0, n, ρ, _, hf => by omega
  | fuel + 1, n, ρ, hr, hf => by
    obtain ⟨t, ρ1, h1, h2⟩ := h n ρ hr
    cases t with
    | false => exact ⟨ρ1, by simp [whlN, h1], hP n ρ ρ1 hr h1⟩
    | true =>
      obtain ⟨m, ρ2, hm, h3, h4⟩ := h2 rfl
      obtain ⟨ρ3, h5, h6⟩ := whl_rule R h hP fuel m ρ2 h4 (by omega)
      refine ⟨ρ3, ?_, h6⟩
      rcases h3 with h3 | h3 <;> simp [whlN, h1, h3, h5]
theorem fo_map {α : Type} {G : Cy} {tg : Tg} {it : Xt} {b : Ss} {ρ : So} {e : α → D} {xs : List α} (R : List α → So → Prop) (hit : evXt G it ρ = some (xs.map e, ρ)) (h0 : R [] ρ)
    (h : ∀ pre x post ρ, xs = pre ++ x :: post → R pre ρ → Step G tg b (e x) ρ (R (pre ++ [x]))) : ∃ ρ', evS G (.fo tg it b) ρ = some (.nx ρ') ∧ R xs ρ' := fo_mapG R hit h0 h
theorem fo_enum {α : Type} {G : Cy} {tg : Tg} {it : Xt} {b : Ss} {ρ : So} {e : α → D} {xs : List α} (R : List α → So → Prop) (hit : evXt G it ρ = some (enumD 0 (xs.map e), ρ)) (h0 : R [] ρ)
    (h : ∀ pre x post ρ, xs = pre ++ x :: post → R pre ρ → Step G tg b (.tup [.int (pre.length : Int), e x]) ρ (R (pre ++ [x]))) : ∃ ρ', evS G (.fo tg it b) ρ = some (.nx ρ') ∧ R xs ρ' := fo_enumG R hit h0 h
theorem fo_range {G : Cy} {tg : Tg} {it : Xt} {b : Ss} {ρ : So} {lo hi : Int} (R : Int → So → Prop) (hit : evXt G it ρ = some ((iran lo hi).map D.int, ρ)) (hl : lo ≤ hi) (h0 : R lo ρ)
    (h : ∀ i ρ, lo ≤ i → i < hi → R i ρ → Step G tg b (.int i) ρ (R (i + 1))) : ∃ ρ', evS G (.fo tg it b) ρ = some (.nx ρ') ∧ R hi ρ' := fo_rangeG R hit hl h0 h
/-- a while by a measure: at each turn the test is known -/
theorem whl_map {G : Cy} {c : X} {b : Ss} {ρ : So} (R : Nat → So → Prop) {P : So → Prop} {n : Nat} (h0 : R n ρ) (hn : n < 10000)
    (h : ∀ n ρ, R n ρ → (∃ ρ1, at2 (evX G c ρ) = some (false, ρ1) ∧ P ρ1) ∨ ∃ ρ1, at2 (evX G c ρ) = some (true, ρ1) ∧ ∃ m ρ', m < n ∧ evSs G b ρ1 = some (.nx ρ') ∧ R m ρ') : ∃ ρ', evS G (.whl c b) ρ = some (.nx ρ') ∧ P ρ' := by
  simp only [evS]
  refine whl_rule R (fun n ρ hr => ?_) (P := P) (fun n ρ ρ1 hr h1 => ?_) FUEL n ρ h0 hn
  · rcases h n ρ hr with ⟨ρ1, h1, h2⟩ | ⟨ρ1, h1, m, ρ', h2, h3, h4⟩
    · exact ⟨false, ρ1, h1, fun h => by cases h⟩
    · exact ⟨true, ρ1, h1, fun _ => ⟨m, ρ', h2, .inl h3, h4⟩⟩
  · rcases h n ρ hr with ⟨ρ2, h3, h2⟩ | ⟨ρ2, h3, _⟩
    · rw [h1] at h3; cases h3; exact h2
    · rw [h1] at h3; cases h3
end KP
/-! KPz: what the common defs of the laws compute. -/
namespace KP
namespace Com
open PySem L2

/-! ### generators: a budget of draws -/
def Gen (n : Nat) (o : O) : Prop := ∃ g : Gn, o = gO g ∧ 0 ≤ g.c ∧ g.c + n < 2 ^ 58
theorem Gen.weak {n m : Nat} {o : O} (h : Gen n o) (l : m ≤ n) : Gen m o := by
  obtain ⟨g, e, h0, h1⟩ := h
  exact ⟨g, e, h0, by omega⟩
theorem draw {n : Nat} {o : O} (h : Gen (n + 1) o) {k : Int} (h0 : 0 < k) (hk : k < 2 ^ 29) : ∃ v o', F__law_random [o] [.int k] = some (.sh (.int v), [o']) ∧ 0 ≤ v ∧ v < k ∧ Gen n o' := by
  obtain ⟨g, rfl, hc, hn⟩ := h
  refine ⟨_, _, r_random g k h0 hk (by omega), ?_, ?_, (rnd g k).2, rfl, ?_, ?_⟩
  · unfold rnd; split
    · exact Int.emod_nonneg _ (by omega)
    · exact Int.emod_nonneg _ (by omega)
  · unfold rnd; split
    · exact Int.emod_lt_of_pos _ h0
    · exact Int.emod_lt_of_pos _ h0
  · unfold rnd; split <;> simp <;> omega
  · unfold rnd; split <;> simp <;> omega
theorem pow18 : o2D .pow (.int 10) (.int 18) = some (.sh (.int (10 ^ 18))) := by
  simp only [o2D]; rw [if_pos ⟨by omega, by omega, by decide +kernel⟩]; rfl
theorem pow60 : o2D .pow (.int 10) (.int 60) = some (.sh (.int (10 ^ 60))) := by
  simp only [o2D]; rw [if_pos ⟨by omega, by omega, by decide +kernel⟩]; rfl
theorem pow600 : o2D .pow (.int (10 ^ 60)) (.int 10) = some (.sh (.int ((10 ^ 60) ^ 10))) := by
  simp only [o2D]; rw [if_pos ⟨by omega, by omega, by decide +kernel⟩]; rfl
theorem mod600 {i : Int} : o2D .mod (.int i) (.int ((10 ^ 60) ^ 10)) = some (.sh (.int (i % (10 ^ 60) ^ 10))) := oMod (by decide +kernel)
theorem r_generator (ns : List Int) : ∃ o, F__law_generator [] [.scr ns, .int 0] = some (o, []) ∧ Gen (2 ^ 57) o := by
  obtain ⟨v, hv⟩ := r_cell ns
  refine ⟨gO ⟨max (v - 10 ^ 18) 0 % (10 ^ 60) ^ 10, v % 2147483647, 0⟩, ?_, ⟨_, rfl, by simp, by simp⟩⟩
  unfold F__law_generator runF
  simp [evSs, evS, evX, evXs, evXan, evXor, evXo, evXc, evXt, evp, evs, evAnd, evOr, evo, evc, evi, start0, ShR, AlR, shS, alS, O.pu, O.puL, O.d, O.dL, Ro1, Ro2, Ro3, Ro4, Rd1, Rd2, Rd3, Rd4, Rf1, Rf2, Rf3, Rf4, iteB1, iteB2, iteR1, iteR, iteBl, iteIn, D.fl, D.flL, asB1, asO1, at21, getAll, setAll, unS, frz1, frzS, backS, bT1, bT2, bT3, bT4, bT5, bO1, bO2, bO3, bO4, bO5, bO6, bO7, bO8, bO9, C.d, oAdd, oAddL, oSub, oMul1, oMul2, oMulC, oMod, oFdiv, itemsD, ixL, ixT, ai0, ai1, ai2, putL, xn0, xn1, xn2, cEq, cLt, cLe, cGt, cGe, cNe, G__law_generator, B__law_generator, hv, biMax2, biInt, LIM, pow18, pow60, pow600, mod600, gO, -Int.reducePow]
theorem r_order {m : Nat} {o : O} {xs : List Int} (h : Gen (m + xs.length) o) (hl : xs.length ≤ 1000) : ∃ (ys : List Int) (o' : O), F__law_drawn_order [o] [.lst (xs.map .int)] = some (.ol (ys.map fun y => .sh (.int y)), [o']) ∧ ys.Perm xs ∧ Gen m o' := by
  have loop : ∃ ρ', evS G__law_drawn_order W__law_drawn_order_1 [some o, some (.sh (.lst (xs.map .int))), some (.ol (xs.map fun x => .sh (.int x))), some (.ol [])] = some (.nx ρ') ∧ ∃ (f : List Int) (o : O), ρ' = [some o, some (.sh (.lst (xs.map .int))), some (.ol []), some (.ol (f.map fun x => .sh (.int x)))] ∧ f.Perm xs ∧ Gen m o := by
    refine whl_map (fun n ρ => ∃ (l f : List Int) (o : O), ρ = [some o, some (.sh (.lst (xs.map .int))), some (.ol (l.map fun x => .sh (.int x))), some (.ol (f.map fun x => .sh (.int x)))] ∧ (l ++ f).Perm xs ∧ n = l.length ∧ Gen (m + l.length) o)
      ⟨xs, [], o, rfl, by simp, rfl, h⟩ (by omega) fun n ρ ⟨l, f, o, e, hp, hn, hg⟩ => ?_
    subst e
    by_cases hne : l = []
    · subst hne
      exact .inl ⟨_, by simp [evSs, evS, evX, evXs, evXan, evXor, evXo, evXc, evXt, evp, evs, evAnd, evOr, evo, evc, evi, ShR, AlR, shS, alS, O.pu, O.puL, O.d, O.dL, Ro1, Ro2, Ro3, Ro4, Rd1, Rd2, Rd3, Rd4, Rf1, Rf2, Rf3, Rf4, iteB1, iteB2, iteR1, iteR, iteBl, iteIn, D.fl, D.flL, asB1, asO1, at21, getAll, setAll, unS, frz1, frzS, backS, bT1, bT2, bT3, bT4, bT5, bO1, bO2, bO3, bO4, bO5, bO6, bO7, bO8, bO9, C.d, oAdd, oSub, oMul1, oMul2, oMulC, oMod, oFdiv, itemsD, ixL, ixT, ai0, ai1, ai2, putL, xn0, xn1, xn2, cEq, cLt, cLe, cGt, cGe, cNe, addNL, addNR, start0_eq, mapS, mapD, foldO, pmapE, pmap, Tg.ids, Tgs.ids, biAll, LIM, ok_non, ok_bl, ok_int, ok_lst, ok_tup, okn_non, okn_bl, okn_int, okn_lst, okn_tup, okn_ints, okn_ints', flL_ints, mapOI, flL_mapI, eqv_int, eqv_bl, eqv_LI, eqD_LI, eqD_nilI, filterT, eqD_nil0, eqD_int, eqD_bl, cEqD, cNeD, cIn, cNin, cIs, cIsn, inD_LI, inD_nilI, ints?_map, ints?_ints, atI_map, atI_nat, cutL_map, slD_map, compL_map, compL_enum, rangeD_I, compG_some, compG_all, dL_sh, dL_sh', map_sh, foldI, foldI1, addL, -List.map_cons, -List.map_append, -List.map_map, -List.map_take, -List.map_drop, -List.map_reverse, Rd2, biLen, biLenT, biListL, biSorted, biMax2, biMin2, biInt, isD1, isD2] <;> rfl, f, o, rfl, by simpa using hp, by simpa using hg⟩
    · have hlen : 0 < l.length := List.length_pos_iff.mpr hne
      have hll : l.length + f.length = xs.length := by simpa using hp.length_eq
      obtain ⟨v, o', hd, hv0, hv, hg'⟩ := draw (n := m + (l.length - 1)) (k := (l.length : Int)) (hg.weak (by omega)) (by omega) (by omega)
      have hi : l[v.toNat]? = some (l[v.toNat]'(by omega)) := List.getElem?_eq_getElem (by omega)
      have hx : ixN l.length v = some v.toNat := ixN_pos hv0 hv
      refine .inr ⟨_, by simp [evSs, evS, evX, evXs, evXan, evXor, evXo, evXc, evXt, evp, evs, evAnd, evOr, evo, evc, evi, ShR, AlR, shS, alS, O.pu, O.puL, O.d, O.dL, Ro1, Ro2, Ro3, Ro4, Rd1, Rd2, Rd3, Rd4, Rf1, Rf2, Rf3, Rf4, iteB1, iteB2, iteR1, iteR, iteBl, iteIn, D.fl, D.flL, asB1, asO1, at21, getAll, setAll, unS, frz1, frzS, backS, bT1, bT2, bT3, bT4, bT5, bO1, bO2, bO3, bO4, bO5, bO6, bO7, bO8, bO9, C.d, oAdd, oSub, oMul1, oMul2, oMulC, oMod, oFdiv, itemsD, ixL, ixT, ai0, ai1, ai2, putL, xn0, xn1, xn2, cEq, cLt, cLe, cGt, cGe, cNe, addNL, addNR, start0_eq, mapS, mapD, foldO, pmapE, pmap, Tg.ids, Tgs.ids, biAll, LIM, ok_non, ok_bl, ok_int, ok_lst, ok_tup, okn_non, okn_bl, okn_int, okn_lst, okn_tup, okn_ints, okn_ints', flL_ints, mapOI, flL_mapI, eqv_int, eqv_bl, eqv_LI, eqD_LI, eqD_nilI, filterT, eqD_nil0, eqD_int, eqD_bl, cEqD, cNeD, cIn, cNin, cIs, cIsn, inD_LI, inD_nilI, ints?_map, ints?_ints, atI_map, atI_nat, cutL_map, slD_map, compL_map, compL_enum, rangeD_I, compG_some, compG_all, dL_sh, dL_sh', map_sh, foldI, foldI1, addL, -List.map_cons, -List.map_append, -List.map_map, -List.map_take, -List.map_drop, -List.map_reverse, Rd2, biLen, biLenT, biListL, biSorted, biMax2, biMin2, biInt, isD1, isD2, hne] <;> rfl, l.length - 1, _, by omega, by simp [evSs, evS, evX, evXs, evXan, evXor, evXo, evXc, evXt, evp, evs, evAnd, evOr, evo, evc, evi, ShR, AlR, shS, alS, O.pu, O.puL, O.d, O.dL, Ro1, Ro2, Ro3, Ro4, Rd1, Rd2, Rd3, Rd4, Rf1, Rf2, Rf3, Rf4, iteB1, iteB2, iteR1, iteR, iteBl, iteIn, D.fl, D.flL, asB1, asO1, at21, getAll, setAll, unS, frz1, frzS, backS, bT1, bT2, bT3, bT4, bT5, bO1, bO2, bO3, bO4, bO5, bO6, bO7, bO8, bO9, C.d, oAdd, oSub, oMul1, oMul2, oMulC, oMod, oFdiv, itemsD, ixL, ixT, ai0, ai1, ai2, putL, xn0, xn1, xn2, cEq, cLt, cLe, cGt, cGe, cNe, addNL, addNR, start0_eq, mapS, mapD, foldO, pmapE, pmap, Tg.ids, Tgs.ids, biAll, LIM, ok_non, ok_bl, ok_int, ok_lst, ok_tup, okn_non, okn_bl, okn_int, okn_lst, okn_tup, okn_ints, okn_ints', flL_ints, mapOI, flL_mapI, eqv_int, eqv_bl, eqv_LI, eqD_LI, eqD_nilI, filterT, eqD_nil0, eqD_int, eqD_bl, cEqD, cNeD, cIn, cNin, cIs, cIsn, inD_LI, inD_nilI, ints?_map, ints?_ints, atI_map, atI_nat, cutL_map, slD_map, compL_map, compL_enum, rangeD_I, compG_some, compG_all, dL_sh, dL_sh', map_sh, foldI, foldI1, addL, -List.map_cons, -List.map_append, -List.map_map, -List.map_take, -List.map_drop, -List.map_reverse, Rd2, biLen, biLenT, biListL, biSorted, biMax2, biMin2, biInt, isD1, isD2, G__law_drawn_order, Y__law_drawn_order_1, hd, hx, hi, eraseIdx_map, show f.length < 100000 by omega] <;> rfl, l.eraseIdx v.toNat, f ++ [l[v.toNat]'(by omega)], o', rfl, ?_, ?_, ?_⟩
      · refine List.Perm.trans ?_ hp
        have := perm_erase hi
        rw [← List.append_assoc]
        refine List.perm_append_singleton _ _ |>.trans ?_
        exact (List.Perm.append_right f this).symm
      · rw [List.length_eraseIdx_of_lt (by omega)]
      · rw [List.length_eraseIdx_of_lt (by omega)]; exact hg'
  obtain ⟨ρ', h1, f, o', rfl, hp, hg⟩ := loop
  refine ⟨f, o', ?_, hp, hg⟩
  unfold F__law_drawn_order runF
  simp [evSs, evS, evX, evXs, evXan, evXor, evXo, evXc, evXt, evp, evs, evAnd, evOr, evo, evc, evi, ShR, AlR, shS, alS, O.pu, O.puL, O.d, O.dL, Ro1, Ro2, Ro3, Ro4, Rd1, Rd2, Rd3, Rd4, Rf1, Rf2, Rf3, Rf4, iteB1, iteB2, iteR1, iteR, iteBl, iteIn, D.fl, D.flL, asB1, asO1, at21, getAll, setAll, unS, frz1, frzS, backS, bT1, bT2, bT3, bT4, bT5, bO1, bO2, bO3, bO4, bO5, bO6, bO7, bO8, bO9, C.d, oAdd, oSub, oMul1, oMul2, oMulC, oMod, oFdiv, itemsD, ixL, ixT, ai0, ai1, ai2, putL, xn0, xn1, xn2, cEq, cLt, cLe, cGt, cGe, cNe, addNL, addNR, start0_eq, mapS, mapD, foldO, pmapE, pmap, Tg.ids, Tgs.ids, biAll, LIM, ok_non, ok_bl, ok_int, ok_lst, ok_tup, okn_non, okn_bl, okn_int, okn_lst, okn_tup, okn_ints, okn_ints', flL_ints, mapOI, flL_mapI, eqv_int, eqv_bl, eqv_LI, eqD_LI, eqD_nilI, filterT, eqD_nil0, eqD_int, eqD_bl, cEqD, cNeD, cIn, cNin, cIs, cIsn, inD_LI, inD_nilI, ints?_map, ints?_ints, atI_map, atI_nat, cutL_map, slD_map, compL_map, compL_enum, rangeD_I, compG_some, compG_all, dL_sh, dL_sh', map_sh, foldI, foldI1, addL, -List.map_cons, -List.map_append, -List.map_map, -List.map_take, -List.map_drop, -List.map_reverse, Rd2, biLen, biLenT, biListL, biSorted, biMax2, biMin2, biInt, isD1, isD2, B__law_drawn_order, h1]
/-! ### exact -/
def exOk : Nat → D → Bool
  | _, .non => true
  | _, .bl _ => true
  | _, .int _ => true
  | _, .str s => D.ok (.str s)
  | n + 1, .lst ds => decide (ds.length ≤ LIM) && ds.all (exOk n)
  | n + 1, .tup ds => decide (ds.length ≤ LIM) && ds.all (exOk n)
  | _, _ => false
theorem ex_int {n : Nat} {i : Int} : exOk n (.int i) = true := by cases n <;> rfl
theorem ex_bl {n : Nat} {i : Bool} : exOk n (.bl i) = true := by cases n <;> rfl
theorem ex_non {n : Nat} : exOk n .non = true := by cases n <;> rfl
theorem ex_LI {n : Nat} {xs : List Int} (h : xs.length ≤ 100000) : exOk (n + 1) (.lst (xs.map .int)) = true := by
  simp [exOk, h, ex_int]
theorem ex_lst {n : Nat} {xs : List D} (h : xs.length ≤ 100000) (h2 : ∀ x ∈ xs, exOk n x = true) : exOk (n + 1) (.lst xs) = true := by
  simp [exOk, h]; exact h2
theorem ex_tup {n : Nat} {xs : List D} (h : xs.length ≤ 100000) (h2 : ∀ x ∈ xs, exOk n x = true) : exOk (n + 1) (.tup xs) = true := by
  simp [exOk, h]; exact h2
theorem ex_map {α : Type} {n : Nat} {xs : List α} {e : α → D} (h : xs.length ≤ 100000) (h2 : ∀ x ∈ xs, exOk n (e x) = true) : exOk (n + 1) (.lst (xs.map e)) = true :=
  ex_lst (by simpa using h) fun d hd => by obtain ⟨x, hx, rfl⟩ := List.mem_map.mp hd; exact h2 x hx
theorem exact_seq {n : Nat} {ds : List D} (ih : ∀ d, exOk n d = true → pf (F__law_exact (n + 1)) [d, d] = some (.sh (.bl true))) (h : ∀ d ∈ ds, exOk n d = true) :
    compG (fun _ => some true) (fun x : D × Nat => ((Option.map R.sh ds[x.2]?).bind fun y => some [y.d, x.1]).bind (Option.map R.d ∘ fun ds => pf (F__law_exact (n + 1)) ds)) ds.zipIdx = some (ds.zipIdx.map fun _ => .bl true) := by
  refine compG_map _ (fun _ _ => rfl) fun p hp => ?_
  have hg : ds[p.2]? = some p.1 := by simpa using List.mem_zipIdx_iff_getElem?.mp hp
  simp [hg, ih p.1 (h _ (List.mem_of_getElem? hg)), R.d]
theorem eqD_str {s : Str} (h : D.ok (.str s) = true) : eqD (.str s) (.str s) = some true := by
  simp [eqD, h, D.eqv, D.py, PyData.eqv]
theorem r_exact : ∀ (n : Nat) (d : D), exOk n d = true → pf (F__law_exact (n + 1)) [d, d] = some (.sh (.bl true)) := by
  intro n
  induction n with
  | zero =>
    intro d h
    cases d with
    | str s =>
      have h' := eqD_str (by simpa [exOk] using h)
      (unfold pf F__law_exact runF)
      simp [evSs, evS, evX, evXs, evXan, evXor, evXo, evXc, evXt, evp, evs, evAnd, evOr, evo, evc, evi, ShR, AlR, shS, alS, O.pu, O.puL, O.d, O.dL, Ro1, Ro2, Ro3, Ro4, Rd1, Rd2, Rd3, Rd4, Rf1, Rf2, Rf3, Rf4, iteB1, iteB2, iteR1, iteR, iteBl, iteIn, D.fl, D.flL, asB1, asO1, at21, getAll, setAll, unS, frz1, frzS, backS, bT1, bT2, bT3, bT4, bT5, bO1, bO2, bO3, bO4, bO5, bO6, bO7, bO8, bO9, C.d, oAdd, oSub, oMul1, oMul2, oMulC, oMod, oFdiv, itemsD, ixL, ixT, ai0, ai1, ai2, putL, xn0, xn1, xn2, cEq, cLt, cLe, cGt, cGe, cNe, addNL, addNR, start0_eq, mapS, mapD, foldO, pmapE, pmap, Tg.ids, Tgs.ids, biAll, LIM, ok_non, ok_bl, ok_int, ok_lst, ok_tup, okn_non, okn_bl, okn_int, okn_lst, okn_tup, okn_ints, okn_ints', flL_ints, mapOI, flL_mapI, eqv_int, eqv_bl, eqv_LI, eqD_LI, eqD_nilI, filterT, eqD_nil0, eqD_int, eqD_bl, cEqD, cNeD, cIn, cNin, cIs, cIsn, inD_LI, inD_nilI, ints?_map, ints?_ints, atI_map, atI_nat, cutL_map, slD_map, compL_map, compL_enum, rangeD_I, compG_some, compG_all, dL_sh, dL_sh', map_sh, foldI, foldI1, addL, -List.map_cons, -List.map_append, -List.map_map, -List.map_take, -List.map_drop, -List.map_reverse, Rd2, biLen, biLenT, biListL, biSorted, biMax2, biMin2, biInt, isD1, isD2, B__law_exact, isiD, tyD, isD, h']
    | _ =>
      first
        | (simp [exOk] at h; done)
        | ((unfold pf F__law_exact runF); simp [evSs, evS, evX, evXs, evXan, evXor, evXo, evXc, evXt, evp, evs, evAnd, evOr, evo, evc, evi, ShR, AlR, shS, alS, O.pu, O.puL, O.d, O.dL, Ro1, Ro2, Ro3, Ro4, Rd1, Rd2, Rd3, Rd4, Rf1, Rf2, Rf3, Rf4, iteB1, iteB2, iteR1, iteR, iteBl, iteIn, D.fl, D.flL, asB1, asO1, at21, getAll, setAll, unS, frz1, frzS, backS, bT1, bT2, bT3, bT4, bT5, bO1, bO2, bO3, bO4, bO5, bO6, bO7, bO8, bO9, C.d, oAdd, oSub, oMul1, oMul2, oMulC, oMod, oFdiv, itemsD, ixL, ixT, ai0, ai1, ai2, putL, xn0, xn1, xn2, cEq, cLt, cLe, cGt, cGe, cNe, addNL, addNR, start0_eq, mapS, mapD, foldO, pmapE, pmap, Tg.ids, Tgs.ids, biAll, LIM, ok_non, ok_bl, ok_int, ok_lst, ok_tup, okn_non, okn_bl, okn_int, okn_lst, okn_tup, okn_ints, okn_ints', flL_ints, mapOI, flL_mapI, eqv_int, eqv_bl, eqv_LI, eqD_LI, eqD_nilI, filterT, eqD_nil0, eqD_int, eqD_bl, cEqD, cNeD, cIn, cNin, cIs, cIsn, inD_LI, inD_nilI, ints?_map, ints?_ints, atI_map, atI_nat, cutL_map, slD_map, compL_map, compL_enum, rangeD_I, compG_some, compG_all, dL_sh, dL_sh', map_sh, foldI, foldI1, addL, -List.map_cons, -List.map_append, -List.map_map, -List.map_take, -List.map_drop, -List.map_reverse, Rd2, biLen, biLenT, biListL, biSorted, biMax2, biMin2, biInt, isD1, isD2, B__law_exact, isiD, tyD, isD])
  | succ n ih =>
    intro d h
    cases d with
    | lst ds =>
      simp [exOk] at h
      have hs := exact_seq ih h.2
      (unfold pf F__law_exact runF)
      simp [evSs, evS, evX, evXs, evXan, evXor, evXo, evXc, evXt, evp, evs, evAnd, evOr, evo, evc, evi, ShR, AlR, shS, alS, O.pu, O.puL, O.d, O.dL, Ro1, Ro2, Ro3, Ro4, Rd1, Rd2, Rd3, Rd4, Rf1, Rf2, Rf3, Rf4, iteB1, iteB2, iteR1, iteR, iteBl, iteIn, D.fl, D.flL, asB1, asO1, at21, getAll, setAll, unS, frz1, frzS, backS, bT1, bT2, bT3, bT4, bT5, bO1, bO2, bO3, bO4, bO5, bO6, bO7, bO8, bO9, C.d, oAdd, oSub, oMul1, oMul2, oMulC, oMod, oFdiv, itemsD, ixL, ixT, ai0, ai1, ai2, putL, xn0, xn1, xn2, cEq, cLt, cLe, cGt, cGe, cNe, addNL, addNR, start0_eq, mapS, mapD, foldO, pmapE, pmap, Tg.ids, Tgs.ids, biAll, LIM, ok_non, ok_bl, ok_int, ok_lst, ok_tup, okn_non, okn_bl, okn_int, okn_lst, okn_tup, okn_ints, okn_ints', flL_ints, mapOI, flL_mapI, eqv_int, eqv_bl, eqv_LI, eqD_LI, eqD_nilI, filterT, eqD_nil0, eqD_int, eqD_bl, cEqD, cNeD, cIn, cNin, cIs, cIsn, inD_LI, inD_nilI, ints?_map, ints?_ints, atI_map, atI_nat, cutL_map, slD_map, compL_map, compL_enum, rangeD_I, compG_some, compG_all, dL_sh, dL_sh', map_sh, foldI, foldI1, addL, -List.map_cons, -List.map_append, -List.map_map, -List.map_take, -List.map_drop, -List.map_reverse, Rd2, biLen, biLenT, biListL, biSorted, biMax2, biMin2, biInt, isD1, isD2, B__law_exact, isiD, tyD, compL_enumD, h.1, hs]
    | tup ds =>
      simp [exOk] at h
      have hs := exact_seq ih h.2
      (unfold pf F__law_exact runF)
      simp [evSs, evS, evX, evXs, evXan, evXor, evXo, evXc, evXt, evp, evs, evAnd, evOr, evo, evc, evi, ShR, AlR, shS, alS, O.pu, O.puL, O.d, O.dL, Ro1, Ro2, Ro3, Ro4, Rd1, Rd2, Rd3, Rd4, Rf1, Rf2, Rf3, Rf4, iteB1, iteB2, iteR1, iteR, iteBl, iteIn, D.fl, D.flL, asB1, asO1, at21, getAll, setAll, unS, frz1, frzS, backS, bT1, bT2, bT3, bT4, bT5, bO1, bO2, bO3, bO4, bO5, bO6, bO7, bO8, bO9, C.d, oAdd, oSub, oMul1, oMul2, oMulC, oMod, oFdiv, itemsD, ixL, ixT, ai0, ai1, ai2, putL, xn0, xn1, xn2, cEq, cLt, cLe, cGt, cGe, cNe, addNL, addNR, start0_eq, mapS, mapD, foldO, pmapE, pmap, Tg.ids, Tgs.ids, biAll, LIM, ok_non, ok_bl, ok_int, ok_lst, ok_tup, okn_non, okn_bl, okn_int, okn_lst, okn_tup, okn_ints, okn_ints', flL_ints, mapOI, flL_mapI, eqv_int, eqv_bl, eqv_LI, eqD_LI, eqD_nilI, filterT, eqD_nil0, eqD_int, eqD_bl, cEqD, cNeD, cIn, cNin, cIs, cIsn, inD_LI, inD_nilI, ints?_map, ints?_ints, atI_map, atI_nat, cutL_map, slD_map, compL_map, compL_enum, rangeD_I, compG_some, compG_all, dL_sh, dL_sh', map_sh, foldI, foldI1, addL, -List.map_cons, -List.map_append, -List.map_map, -List.map_take, -List.map_drop, -List.map_reverse, Rd2, biLen, biLenT, biListL, biSorted, biMax2, biMin2, biInt, isD1, isD2, B__law_exact, isiD, tyD, compL_enumD, h.1, hs]
    | str s =>
      have h' := eqD_str (by simpa [exOk] using h)
      (unfold pf F__law_exact runF)
      simp [evSs, evS, evX, evXs, evXan, evXor, evXo, evXc, evXt, evp, evs, evAnd, evOr, evo, evc, evi, ShR, AlR, shS, alS, O.pu, O.puL, O.d, O.dL, Ro1, Ro2, Ro3, Ro4, Rd1, Rd2, Rd3, Rd4, Rf1, Rf2, Rf3, Rf4, iteB1, iteB2, iteR1, iteR, iteBl, iteIn, D.fl, D.flL, asB1, asO1, at21, getAll, setAll, unS, frz1, frzS, backS, bT1, bT2, bT3, bT4, bT5, bO1, bO2, bO3, bO4, bO5, bO6, bO7, bO8, bO9, C.d, oAdd, oSub, oMul1, oMul2, oMulC, oMod, oFdiv, itemsD, ixL, ixT, ai0, ai1, ai2, putL, xn0, xn1, xn2, cEq, cLt, cLe, cGt, cGe, cNe, addNL, addNR, start0_eq, mapS, mapD, foldO, pmapE, pmap, Tg.ids, Tgs.ids, biAll, LIM, ok_non, ok_bl, ok_int, ok_lst, ok_tup, okn_non, okn_bl, okn_int, okn_lst, okn_tup, okn_ints, okn_ints', flL_ints, mapOI, flL_mapI, eqv_int, eqv_bl, eqv_LI, eqD_LI, eqD_nilI, filterT, eqD_nil0, eqD_int, eqD_bl, cEqD, cNeD, cIn, cNin, cIs, cIsn, inD_LI, inD_nilI, ints?_map, ints?_ints, atI_map, atI_nat, cutL_map, slD_map, compL_map, compL_enum, rangeD_I, compG_some, compG_all, dL_sh, dL_sh', map_sh, foldI, foldI1, addL, -List.map_cons, -List.map_append, -List.map_map, -List.map_take, -List.map_drop, -List.map_reverse, Rd2, biLen, biLenT, biListL, biSorted, biMax2, biMin2, biInt, isD1, isD2, B__law_exact, isiD, tyD, isD, h']
    | _ =>
      first
        | (simp [exOk] at h; done)
        | ((unfold pf F__law_exact runF); simp [evSs, evS, evX, evXs, evXan, evXor, evXo, evXc, evXt, evp, evs, evAnd, evOr, evo, evc, evi, ShR, AlR, shS, alS, O.pu, O.puL, O.d, O.dL, Ro1, Ro2, Ro3, Ro4, Rd1, Rd2, Rd3, Rd4, Rf1, Rf2, Rf3, Rf4, iteB1, iteB2, iteR1, iteR, iteBl, iteIn, D.fl, D.flL, asB1, asO1, at21, getAll, setAll, unS, frz1, frzS, backS, bT1, bT2, bT3, bT4, bT5, bO1, bO2, bO3, bO4, bO5, bO6, bO7, bO8, bO9, C.d, oAdd, oSub, oMul1, oMul2, oMulC, oMod, oFdiv, itemsD, ixL, ixT, ai0, ai1, ai2, putL, xn0, xn1, xn2, cEq, cLt, cLe, cGt, cGe, cNe, addNL, addNR, start0_eq, mapS, mapD, foldO, pmapE, pmap, Tg.ids, Tgs.ids, biAll, LIM, ok_non, ok_bl, ok_int, ok_lst, ok_tup, okn_non, okn_bl, okn_int, okn_lst, okn_tup, okn_ints, okn_ints', flL_ints, mapOI, flL_mapI, eqv_int, eqv_bl, eqv_LI, eqD_LI, eqD_nilI, filterT, eqD_nil0, eqD_int, eqD_bl, cEqD, cNeD, cIn, cNin, cIs, cIsn, inD_LI, inD_nilI, ints?_map, ints?_ints, atI_map, atI_nat, cutL_map, slD_map, compL_map, compL_enum, rangeD_I, compG_some, compG_all, dL_sh, dL_sh', map_sh, foldI, foldI1, addL, -List.map_cons, -List.map_append, -List.map_map, -List.map_take, -List.map_drop, -List.map_reverse, Rd2, biLen, biLenT, biListL, biSorted, biMax2, biMin2, biInt, isD1, isD2, B__law_exact, isiD, tyD, isD])
end Com
end KP
/-! KQa: rows, plans, checks. -/
namespace KP
namespace Com
open PySem L2

theorem inT2 {x a b : Int} : inD (.int x) (.tup [.int a, .int b]) = some (decide (x = a ∨ x = b)) := by
  simp only [inD, D.flat, List.all_cons, List.all_nil, Bool.and_self, if_true, List.any_cons, List.any_nil, eqv_int, Bool.or_false]
  congr 1; rw [Bool.eq_iff_iff]; simp only [Bool.or_eq_true, decide_eq_true_eq]; omega
theorem row_step {n : Nat} {o : O} {most things way size wide near i : Int} {xs : List Int} {j : Option O} (hs : size ≤ 60) (hw0 : 0 < wide) (hw : wide ≤ 26) (hn0 : 0 < near) (hn : near < 10) (hi0 : 0 ≤ i) (hi : i < size)
    (hl : xs.length = i.toNat) (hx : ∀ x ∈ xs, 0 ≤ x ∧ x < wide) (hg : Gen (n + 2) o) :
    ∃ (v : Int) (o' : O), evSs G__law_row Y__law_row_1 [some o, some (.sh (.int most)), some (.sh (.int things)), some (.sh (.int way)), some (.sh (.int size)), some (.sh (.int wide)), some (.sh (.int i)), some (.ol (xs.map fun x => .sh (.int x))), some (.sh (.int near)), none, none]
      = some (.nx [some o', some (.sh (.int most)), some (.sh (.int things)), some (.sh (.int way)), some (.sh (.int size)), some (.sh (.int wide)), some (.sh (.int i)), some (.ol ((xs ++ [v]).map fun x => .sh (.int x))), some (.sh (.int near)), none, none])
      ∧ 0 ≤ v ∧ v < wide ∧ Gen n o' := by
  have hlen : xs.length < 100000 := by omega
  by_cases c : (way = 1 ∨ way = 2) ∧ xs ≠ []
  · obtain ⟨cw, cx⟩ := c
    obtain ⟨v, o1, d1, v0, v1, g1⟩ := draw (n := n + 1) (k := 4) hg (by omega) (by omega)
    have w3 : ¬ way = 3 := by omega
    by_cases hv : 0 < v
    · obtain ⟨u, o2, d2, u0, u1, g2⟩ := draw (n := n) (k := near + 1) g1 (by omega) (by omega)
      have hp : 0 < xs.length := List.length_pos_iff.mpr cx
      have ha := atI_pos (xs := xs) (i := max 0 ((xs.length : Int) - 1 - u)) (by omega) (by omega)
      refine ⟨_, o2, by simp [evSs, evS, evX, evXs, evXan, evXor, evXo, evXc, evXt, evp, evs, evAnd, evOr, evo, evc, evi, ShR, AlR, shS, alS, O.pu, O.puL, O.d, O.dL, Ro1, Ro2, Ro3, Ro4, Rd1, Rd2, Rd3, Rd4, Rf1, Rf2, Rf3, Rf4, iteB1, iteB2, iteR1, iteR, iteBl, iteIn, D.fl, D.flL, asB1, asO1, at21, getAll, setAll, unS, frz1, frzS, backS, bT1, bT2, bT3, bT4, bT5, bO1, bO2, bO3, bO4, bO5, bO6, bO7, bO8, bO9, C.d, oAdd, oSub, oMul1, oMul2, oMulC, oMod, oFdiv, itemsD, ixL, ixT, ai0, ai1, ai2, putL, xn0, xn1, xn2, cEq, cLt, cLe, cGt, cGe, cNe, addNL, addNR, start0_eq, mapS, mapD, foldO, pmapE, pmap, Tg.ids, Tgs.ids, biAll, LIM, ok_non, ok_bl, ok_int, ok_lst, ok_tup, okn_non, okn_bl, okn_int, okn_lst, okn_tup, okn_ints, okn_ints', flL_ints, mapOI, flL_mapI, eqv_int, eqv_bl, eqv_LI, eqD_LI, eqD_nilI, filterT, eqD_nil0, eqD_int, eqD_bl, cEqD, cNeD, cIn, cNin, cIs, cIsn, inD_LI, inD_nilI, ints?_map, ints?_ints, atI_map, atI_nat, cutL_map, slD_map, compL_map, compL_enum, rangeD_I, compG_some, compG_all, dL_sh, dL_sh', map_sh, foldI, foldI1, addL, -List.map_cons, -List.map_append, -List.map_map, -List.map_take, -List.map_drop, -List.map_reverse, Rd2, biLen, biLenT, biListL, biSorted, biMax2, biMin2, biInt, isD1, isD2, G__law_row, Y__law_row_1, inT2, d1, d2, cw, cx, hv, ha, hlen]; rfl, ?_, ?_, g2⟩
      · exact (hx _ (List.getElem_mem _)).1
      · exact (hx _ (List.getElem_mem _)).2
    · obtain ⟨u, o2, d2, u0, u1, g2⟩ := draw (n := n) (k := wide) g1 (by omega) (by omega)
      exact ⟨u, o2, by simp [evSs, evS, evX, evXs, evXan, evXor, evXo, evXc, evXt, evp, evs, evAnd, evOr, evo, evc, evi, ShR, AlR, shS, alS, O.pu, O.puL, O.d, O.dL, Ro1, Ro2, Ro3, Ro4, Rd1, Rd2, Rd3, Rd4, Rf1, Rf2, Rf3, Rf4, iteB1, iteB2, iteR1, iteR, iteBl, iteIn, D.fl, D.flL, asB1, asO1, at21, getAll, setAll, unS, frz1, frzS, backS, bT1, bT2, bT3, bT4, bT5, bO1, bO2, bO3, bO4, bO5, bO6, bO7, bO8, bO9, C.d, oAdd, oSub, oMul1, oMul2, oMulC, oMod, oFdiv, itemsD, ixL, ixT, ai0, ai1, ai2, putL, xn0, xn1, xn2, cEq, cLt, cLe, cGt, cGe, cNe, addNL, addNR, start0_eq, mapS, mapD, foldO, pmapE, pmap, Tg.ids, Tgs.ids, biAll, LIM, ok_non, ok_bl, ok_int, ok_lst, ok_tup, okn_non, okn_bl, okn_int, okn_lst, okn_tup, okn_ints, okn_ints', flL_ints, mapOI, flL_mapI, eqv_int, eqv_bl, eqv_LI, eqD_LI, eqD_nilI, filterT, eqD_nil0, eqD_int, eqD_bl, cEqD, cNeD, cIn, cNin, cIs, cIsn, inD_LI, inD_nilI, ints?_map, ints?_ints, atI_map, atI_nat, cutL_map, slD_map, compL_map, compL_enum, rangeD_I, compG_some, compG_all, dL_sh, dL_sh', map_sh, foldI, foldI1, addL, -List.map_cons, -List.map_append, -List.map_map, -List.map_take, -List.map_drop, -List.map_reverse, Rd2, biLen, biLenT, biListL, biSorted, biMax2, biMin2, biInt, isD1, isD2, G__law_row, Y__law_row_1, inT2, d1, d2, cw, cx, hv, w3, hlen], u0, u1, g2⟩
  · have c1 : decide (way = 1 ∨ way = 2) = true → xs = [] := fun h => by
      by_cases hx : xs = []
      · exact hx
      · exact absurd ⟨by simpa using h, hx⟩ c
    have key : ∀ (P : Prop), True := fun _ => trivial
    by_cases w3 : way = 3
    · obtain ⟨v, o1, d1, v0, v1, g1⟩ := draw (n := n + 1) (k := wide) hg (by omega) (by omega)
      obtain ⟨u, o2, d2, u0, u1, g2⟩ := draw (n := n) (k := wide) g1 (by omega) (by omega)
      exact ⟨min v u, o2, by simp [evSs, evS, evX, evXs, evXan, evXor, evXo, evXc, evXt, evp, evs, evAnd, evOr, evo, evc, evi, ShR, AlR, shS, alS, O.pu, O.puL, O.d, O.dL, Ro1, Ro2, Ro3, Ro4, Rd1, Rd2, Rd3, Rd4, Rf1, Rf2, Rf3, Rf4, iteB1, iteB2, iteR1, iteR, iteBl, iteIn, D.fl, D.flL, asB1, asO1, at21, getAll, setAll, unS, frz1, frzS, backS, bT1, bT2, bT3, bT4, bT5, bO1, bO2, bO3, bO4, bO5, bO6, bO7, bO8, bO9, C.d, oAdd, oSub, oMul1, oMul2, oMulC, oMod, oFdiv, itemsD, ixL, ixT, ai0, ai1, ai2, putL, xn0, xn1, xn2, cEq, cLt, cLe, cGt, cGe, cNe, addNL, addNR, start0_eq, mapS, mapD, foldO, pmapE, pmap, Tg.ids, Tgs.ids, biAll, LIM, ok_non, ok_bl, ok_int, ok_lst, ok_tup, okn_non, okn_bl, okn_int, okn_lst, okn_tup, okn_ints, okn_ints', flL_ints, mapOI, flL_mapI, eqv_int, eqv_bl, eqv_LI, eqD_LI, eqD_nilI, filterT, eqD_nil0, eqD_int, eqD_bl, cEqD, cNeD, cIn, cNin, cIs, cIsn, inD_LI, inD_nilI, ints?_map, ints?_ints, atI_map, atI_nat, cutL_map, slD_map, compL_map, compL_enum, rangeD_I, compG_some, compG_all, dL_sh, dL_sh', map_sh, foldI, foldI1, addL, -List.map_cons, -List.map_append, -List.map_map, -List.map_take, -List.map_drop, -List.map_reverse, Rd2, biLen, biLenT, biListL, biSorted, biMax2, biMin2, biInt, isD1, isD2, G__law_row, Y__law_row_1, inT2, d1, d2, w3, hlen], by omega, by omega, g2⟩
    · obtain ⟨v, o1, d1, v0, v1, g1⟩ := draw (n := n + 1) (k := wide) hg (by omega) (by omega)
      refine ⟨v, o1, ?_, v0, v1, g1.weak (by omega)⟩
      by_cases cw : way = 1 ∨ way = 2
      · have := c1 (by simpa using cw)
        subst this
        simp [evSs, evS, evX, evXs, evXan, evXor, evXo, evXc, evXt, evp, evs, evAnd, evOr, evo, evc, evi, ShR, AlR, shS, alS, O.pu, O.puL, O.d, O.dL, Ro1, Ro2, Ro3, Ro4, Rd1, Rd2, Rd3, Rd4, Rf1, Rf2, Rf3, Rf4, iteB1, iteB2, iteR1, iteR, iteBl, iteIn, D.fl, D.flL, asB1, asO1, at21, getAll, setAll, unS, frz1, frzS, backS, bT1, bT2, bT3, bT4, bT5, bO1, bO2, bO3, bO4, bO5, bO6, bO7, bO8, bO9, C.d, oAdd, oSub, oMul1, oMul2, oMulC, oMod, oFdiv, itemsD, ixL, ixT, ai0, ai1, ai2, putL, xn0, xn1, xn2, cEq, cLt, cLe, cGt, cGe, cNe, addNL, addNR, start0_eq, mapS, mapD, foldO, pmapE, pmap, Tg.ids, Tgs.ids, biAll, LIM, ok_non, ok_bl, ok_int, ok_lst, ok_tup, okn_non, okn_bl, okn_int, okn_lst, okn_tup, okn_ints, okn_ints', flL_ints, mapOI, flL_mapI, eqv_int, eqv_bl, eqv_LI, eqD_LI, eqD_nilI, filterT, eqD_nil0, eqD_int, eqD_bl, cEqD, cNeD, cIn, cNin, cIs, cIsn, inD_LI, inD_nilI, ints?_map, ints?_ints, atI_map, atI_nat, cutL_map, slD_map, compL_map, compL_enum, rangeD_I, compG_some, compG_all, dL_sh, dL_sh', map_sh, foldI, foldI1, addL, -List.map_cons, -List.map_append, -List.map_map, -List.map_take, -List.map_drop, -List.map_reverse, Rd2, biLen, biLenT, biListL, biSorted, biMax2, biMin2, biInt, isD1, isD2, G__law_row, Y__law_row_1, inT2, d1, w3, cw]; rfl
      · simp [evSs, evS, evX, evXs, evXan, evXor, evXo, evXc, evXt, evp, evs, evAnd, evOr, evo, evc, evi, ShR, AlR, shS, alS, O.pu, O.puL, O.d, O.dL, Ro1, Ro2, Ro3, Ro4, Rd1, Rd2, Rd3, Rd4, Rf1, Rf2, Rf3, Rf4, iteB1, iteB2, iteR1, iteR, iteBl, iteIn, D.fl, D.flL, asB1, asO1, at21, getAll, setAll, unS, frz1, frzS, backS, bT1, bT2, bT3, bT4, bT5, bO1, bO2, bO3, bO4, bO5, bO6, bO7, bO8, bO9, C.d, oAdd, oSub, oMul1, oMul2, oMulC, oMod, oFdiv, itemsD, ixL, ixT, ai0, ai1, ai2, putL, xn0, xn1, xn2, cEq, cLt, cLe, cGt, cGe, cNe, addNL, addNR, start0_eq, mapS, mapD, foldO, pmapE, pmap, Tg.ids, Tgs.ids, biAll, LIM, ok_non, ok_bl, ok_int, ok_lst, ok_tup, okn_non, okn_bl, okn_int, okn_lst, okn_tup, okn_ints, okn_ints', flL_ints, mapOI, flL_mapI, eqv_int, eqv_bl, eqv_LI, eqD_LI, eqD_nilI, filterT, eqD_nil0, eqD_int, eqD_bl, cEqD, cNeD, cIn, cNin, cIs, cIsn, inD_LI, inD_nilI, ints?_map, ints?_ints, atI_map, atI_nat, cutL_map, slD_map, compL_map, compL_enum, rangeD_I, compG_some, compG_all, dL_sh, dL_sh', map_sh, foldI, foldI1, addL, -List.map_cons, -List.map_append, -List.map_map, -List.map_take, -List.map_drop, -List.map_reverse, Rd2, biLen, biLenT, biListL, biSorted, biMax2, biMin2, biInt, isD1, isD2, G__law_row, Y__law_row_1, inT2, d1, w3, cw, hlen]
/-- things of a row -/
structure RowOk (most things : Int) (xs : List Int) : Prop where
  pos : 1 ≤ xs.length
  len : (xs.length : Int) ≤ most
  rng : ∀ x ∈ xs, 0 ≤ x ∧ x < 26
  few : ∃ ys : List Int, (ys.length : Int) ≤ things ∧ ∀ x ∈ xs, x ∈ ys
theorem range_ints {n : Nat} {f : Nat → Int} : (List.range n).map (fun i => O.sh (.int (f i))) = ((List.range n).map f).map fun x => .sh (.int x) := by rw [List.map_map]; rfl
theorem r_row {n : Nat} {o : O} {most things : Int} (hg : Gen (n + 200) o) (hm0 : 0 < most) (hm : most ≤ 60) (ht0 : 0 < things) (ht : things ≤ 26) :
    ∃ (xs : List Int) (o' : O), F__law_row [o] [.int most, .int things] = some (.ol (xs.map fun x => .sh (.int x)), [o']) ∧ RowOk most things xs ∧ Gen n o' := by
  obtain ⟨way, o1, d1, a1, b1, g1⟩ := draw (n := n + 199) (k := 6) hg (by omega) (by omega)
  obtain ⟨size', o2, d2, a2, b2, g2⟩ := draw (n := n + 198) (k := most) g1 (by omega) (by omega)
  obtain ⟨wide', o3, d3, a3, b3, g3⟩ := draw (n := n + 197) (k := things) g2 (by omega) (by omega)
  obtain ⟨size, hsz⟩ : ∃ s, s = 1 + size' := ⟨_, rfl⟩
  obtain ⟨wide, hwd⟩ : ∃ s, s = 1 + wide' := ⟨_, rfl⟩
  by_cases w0 : way = 0
  · subst w0
    refine ⟨(iran 0 size).map fun i => i % wide, o3, ?_, ⟨by simp [iran_length]; omega, by simp [iran_length]; omega, fun x hx => ?_, iran 0 wide, by simp [iran_length]; omega, fun x hx => ?_⟩, g3.weak (by omega)⟩
    · unfold F__law_row runF
      simp [evSs, evS, evX, evXs, evXan, evXor, evXo, evXc, evXt, evp, evs, evAnd, evOr, evo, evc, evi, ShR, AlR, shS, alS, O.pu, O.puL, O.d, O.dL, Ro1, Ro2, Ro3, Ro4, Rd1, Rd2, Rd3, Rd4, Rf1, Rf2, Rf3, Rf4, iteB1, iteB2, iteR1, iteR, iteBl, iteIn, D.fl, D.flL, asB1, asO1, at21, getAll, setAll, unS, frz1, frzS, backS, bT1, bT2, bT3, bT4, bT5, bO1, bO2, bO3, bO4, bO5, bO6, bO7, bO8, bO9, C.d, oAdd, oSub, oMul1, oMul2, oMulC, oMod, oFdiv, itemsD, ixL, ixT, ai0, ai1, ai2, putL, xn0, xn1, xn2, cEq, cLt, cLe, cGt, cGe, cNe, addNL, addNR, start0_eq, mapS, mapD, foldO, pmapE, pmap, Tg.ids, Tgs.ids, biAll, LIM, ok_non, ok_bl, ok_int, ok_lst, ok_tup, okn_non, okn_bl, okn_int, okn_lst, okn_tup, okn_ints, okn_ints', flL_ints, mapOI, flL_mapI, eqv_int, eqv_bl, eqv_LI, eqD_LI, eqD_nilI, filterT, eqD_nil0, eqD_int, eqD_bl, cEqD, cNeD, cIn, cNin, cIs, cIsn, inD_LI, inD_nilI, ints?_map, ints?_ints, atI_map, atI_nat, cutL_map, slD_map, compL_map, compL_enum, rangeD_I, compG_some, compG_all, dL_sh, dL_sh', map_sh, foldI, foldI1, addL, -List.map_cons, -List.map_append, -List.map_map, -List.map_take, -List.map_drop, -List.map_reverse, Rd2, biLen, biLenT, biListL, biSorted, biMax2, biMin2, biInt, isD1, isD2, G__law_row, B__law_row, d1, d2, d3, ← hsz, ← hwd, smallI, show -100000 ≤ size by omega, show size ≤ 100000 by omega, show 0 < wide by omega]
    · obtain ⟨i, _, rfl⟩ := List.mem_map.mp hx
      have := Int.emod_nonneg (i : Int) (show wide ≠ 0 by omega)
      have := Int.emod_lt_of_pos (i : Int) (show 0 < wide by omega)
      omega
    · obtain ⟨i, _, rfl⟩ := List.mem_map.mp hx
      have := Int.emod_nonneg (i : Int) (show wide ≠ 0 by omega)
      have := Int.emod_lt_of_pos (i : Int) (show 0 < wide by omega)
      exact mem_iran.mpr (by omega)
  · obtain ⟨near', o4, d4, a4, b4, g4⟩ := draw (n := n + 196) (k := 4) g3 (by omega) (by omega)
    obtain ⟨near, hnr⟩ : ∃ s, s = 1 + near' := ⟨_, rfl⟩
    have loop := fo_range (G := G__law_row) (tg := .nm 6) (it := .r1 (.p (.v 4))) (b := Y__law_row_1) (lo := 0) (hi := size)
      (ρ := [some o4, some (.sh (.int most)), some (.sh (.int things)), some (.sh (.int way)), some (.sh (.int size)), some (.sh (.int wide)), none, some (.ol []), some (.sh (.int near)), none, none])
      (fun i ρ => ∃ (xs : List Int) (o : O) (j : Option O), ρ = [some o, some (.sh (.int most)), some (.sh (.int things)), some (.sh (.int way)), some (.sh (.int size)), some (.sh (.int wide)), j, some (.ol (xs.map fun x => .sh (.int x))), some (.sh (.int near)), none, none] ∧ xs.length = i.toNat ∧ (∀ x ∈ xs, 0 ≤ x ∧ x < wide) ∧ Gen (n + 70 + 2 * (size - i).toNat) o)
      (by simp [evSs, evS, evX, evXs, evXan, evXor, evXo, evXc, evXt, evp, evs, evAnd, evOr, evo, evc, evi, ShR, AlR, shS, alS, O.pu, O.puL, O.d, O.dL, Ro1, Ro2, Ro3, Ro4, Rd1, Rd2, Rd3, Rd4, Rf1, Rf2, Rf3, Rf4, iteB1, iteB2, iteR1, iteR, iteBl, iteIn, D.fl, D.flL, asB1, asO1, at21, getAll, setAll, unS, frz1, frzS, backS, bT1, bT2, bT3, bT4, bT5, bO1, bO2, bO3, bO4, bO5, bO6, bO7, bO8, bO9, C.d, oAdd, oSub, oMul1, oMul2, oMulC, oMod, oFdiv, itemsD, ixL, ixT, ai0, ai1, ai2, putL, xn0, xn1, xn2, cEq, cLt, cLe, cGt, cGe, cNe, addNL, addNR, start0_eq, mapS, mapD, foldO, pmapE, pmap, Tg.ids, Tgs.ids, biAll, LIM, ok_non, ok_bl, ok_int, ok_lst, ok_tup, okn_non, okn_bl, okn_int, okn_lst, okn_tup, okn_ints, okn_ints', flL_ints, mapOI, flL_mapI, eqv_int, eqv_bl, eqv_LI, eqD_LI, eqD_nilI, filterT, eqD_nil0, eqD_int, eqD_bl, cEqD, cNeD, cIn, cNin, cIs, cIsn, inD_LI, inD_nilI, ints?_map, ints?_ints, atI_map, atI_nat, cutL_map, slD_map, compL_map, compL_enum, rangeD_I, compG_some, compG_all, dL_sh, dL_sh', map_sh, foldI, foldI1, addL, -List.map_cons, -List.map_append, -List.map_map, -List.map_take, -List.map_drop, -List.map_reverse, Rd2, biLen, biLenT, biListL, biSorted, biMax2, biMin2, biInt, isD1, isD2, smallI, show -100000 ≤ size by omega, show size ≤ 100000 by omega] <;> rfl) (by omega)
      ⟨[], o4, none, rfl, rfl, by simp, g4.weak (by omega)⟩ (fun i ρ h0 h1 ⟨xs, o, j, e, hl, hx, hg⟩ => by
        subst e
        obtain ⟨v, o', h2, v0, v1, g'⟩ := row_step (n := n + 70 + 2 * (size - (i + 1)).toNat) (o := o) (most := most) (things := things) (way := way) (size := size) (wide := wide) (near := near) (i := i) (xs := xs) (j := j) (by omega) (by omega) (by omega) (by omega) (by omega) h0 h1 hl hx (hg.weak (by omega))
        exact .nx rfl h2 ⟨xs ++ [v], o', _, rfl, by rw [List.length_append, hl, List.length_singleton]; omega, fun x hx' => by
          rcases List.mem_append.mp hx' with h | h
          · exact hx x h
          · rw [List.mem_singleton] at h; subst h; exact ⟨v0, v1⟩, g'⟩)
    obtain ⟨ρ', h1, xs, o5, j, rfl, hl, hx, g5⟩ := loop
    obtain ⟨ys, o6, d6, hp, g6⟩ := r_order (m := n) (o := o5) (xs := iran 0 26) (g5.weak (by rw [iran_length]; omega)) (by rw [iran_length]; omega)
    have hyl : ys.length = 26 := by simpa [iran_length] using hp.length_eq
    have hyr : ∀ y ∈ ys, 0 ≤ y ∧ y < 26 := fun y hy => by
      exact mem_iran.mp (hp.mem_iff.mp hy)
    by_cases w4 : way < 4
    · refine ⟨xs, o6, ?_, ⟨by omega, by omega, fun x h => ⟨(hx x h).1, by have := (hx x h).2; omega⟩, iran 0 wide, by simp [iran_length]; omega, fun x h => mem_iran.mpr (hx x h)⟩, g6⟩
      have h1' : evS G__law_row W__law_row_1 _ = _ := h1
      simp only [G__law_row] at h1'
      unfold F__law_row runF
      simp [evSs, evS, evX, evXs, evXan, evXor, evXo, evXc, evXt, evp, evs, evAnd, evOr, evo, evc, evi, ShR, AlR, shS, alS, O.pu, O.puL, O.d, O.dL, Ro1, Ro2, Ro3, Ro4, Rd1, Rd2, Rd3, Rd4, Rf1, Rf2, Rf3, Rf4, iteB1, iteB2, iteR1, iteR, iteBl, iteIn, D.fl, D.flL, asB1, asO1, at21, getAll, setAll, unS, frz1, frzS, backS, bT1, bT2, bT3, bT4, bT5, bO1, bO2, bO3, bO4, bO5, bO6, bO7, bO8, bO9, C.d, oAdd, oSub, oMul1, oMul2, oMulC, oMod, oFdiv, itemsD, ixL, ixT, ai0, ai1, ai2, putL, xn0, xn1, xn2, cEq, cLt, cLe, cGt, cGe, cNe, addNL, addNR, start0_eq, mapS, mapD, foldO, pmapE, pmap, Tg.ids, Tgs.ids, biAll, LIM, ok_non, ok_bl, ok_int, ok_lst, ok_tup, okn_non, okn_bl, okn_int, okn_lst, okn_tup, okn_ints, okn_ints', flL_ints, mapOI, flL_mapI, eqv_int, eqv_bl, eqv_LI, eqD_LI, eqD_nilI, filterT, eqD_nil0, eqD_int, eqD_bl, cEqD, cNeD, cIn, cNin, cIs, cIsn, inD_LI, inD_nilI, ints?_map, ints?_ints, atI_map, atI_nat, cutL_map, slD_map, compL_map, compL_enum, rangeD_I, compG_some, compG_all, dL_sh, dL_sh', map_sh, foldI, foldI1, addL, -List.map_cons, -List.map_append, -List.map_map, -List.map_take, -List.map_drop, -List.map_reverse, Rd2, biLen, biLenT, biListL, biSorted, biMax2, biMin2, biInt, isD1, isD2, smallI, G__law_row, B__law_row, d1, d2, d3, d4, d6, ← hsz, ← hwd, ← hnr, w0, w4, h1']
    · refine ⟨xs.map fun x => ys.getD x.toNat 0, o6, ?_, ⟨by simp; omega, by simp; omega, fun x hx' => ?_, (iran 0 wide).map fun x => ys.getD x.toNat 0, by simp [iran_length]; omega, fun x h => ?_⟩, g6⟩
      · have h1' : evS G__law_row W__law_row_1 _ = _ := h1
        have hc : compG (fun _ => some true) (fun x => Option.map ((R.d ∘ R.sh) ∘ D.int) (L2.atI ys x)) xs = some (xs.map fun x => .int (ys.getD x.toNat 0)) := compG_map _ (fun _ _ => rfl) fun x h => by
          have := hx x h
          rw [atI_pos (by omega) (by omega), List.getD_eq_getElem?_getD, List.getElem?_eq_getElem (by omega)]
          rfl
        simp only [G__law_row] at h1'
        unfold F__law_row runF
        simp [evSs, evS, evX, evXs, evXan, evXor, evXo, evXc, evXt, evp, evs, evAnd, evOr, evo, evc, evi, ShR, AlR, shS, alS, O.pu, O.puL, O.d, O.dL, Ro1, Ro2, Ro3, Ro4, Rd1, Rd2, Rd3, Rd4, Rf1, Rf2, Rf3, Rf4, iteB1, iteB2, iteR1, iteR, iteBl, iteIn, D.fl, D.flL, asB1, asO1, at21, getAll, setAll, unS, frz1, frzS, backS, bT1, bT2, bT3, bT4, bT5, bO1, bO2, bO3, bO4, bO5, bO6, bO7, bO8, bO9, C.d, oAdd, oSub, oMul1, oMul2, oMulC, oMod, oFdiv, itemsD, ixL, ixT, ai0, ai1, ai2, putL, xn0, xn1, xn2, cEq, cLt, cLe, cGt, cGe, cNe, addNL, addNR, start0_eq, mapS, mapD, foldO, pmapE, pmap, Tg.ids, Tgs.ids, biAll, LIM, ok_non, ok_bl, ok_int, ok_lst, ok_tup, okn_non, okn_bl, okn_int, okn_lst, okn_tup, okn_ints, okn_ints', flL_ints, mapOI, flL_mapI, eqv_int, eqv_bl, eqv_LI, eqD_LI, eqD_nilI, filterT, eqD_nil0, eqD_int, eqD_bl, cEqD, cNeD, cIn, cNin, cIs, cIsn, inD_LI, inD_nilI, ints?_map, ints?_ints, atI_map, atI_nat, cutL_map, slD_map, compL_map, compL_enum, rangeD_I, compG_some, compG_all, dL_sh, dL_sh', map_sh, foldI, foldI1, addL, -List.map_cons, -List.map_append, -List.map_map, -List.map_take, -List.map_drop, -List.map_reverse, Rd2, biLen, biLenT, biListL, biSorted, biMax2, biMin2, biInt, isD1, isD2, smallI, G__law_row, B__law_row, d1, d2, d3, d4, d6, ← hsz, ← hwd, ← hnr, w0, w4, h1', hc]
      · obtain ⟨y, hy, rfl⟩ := List.mem_map.mp hx'
        have := hx y hy
        rw [List.getD_eq_getElem?_getD, List.getElem?_eq_getElem (by omega)]
        exact hyr _ (List.getElem_mem _)
      · obtain ⟨y, hy, rfl⟩ := List.mem_map.mp h
        exact List.mem_map.mpr ⟨y, mem_iran.mpr (hx y hy), rfl⟩
end Com
end KP
/-! KQb: checks and plans. -/
namespace KP
namespace Com
open PySem L2

theorem filter_none {α : Type} {p : α → Bool} {xs : List α} (h : ∀ x ∈ xs, p x = false) : xs.filter p = [] := List.filter_eq_nil_iff.mpr fun x hx => by simp [h x hx]
theorem p_is_row {xs : List Int} (h0 : 1 ≤ xs.length) (h1 : xs.length ≤ 60) (hx : ∀ x ∈ xs, 0 ≤ x ∧ x < 26) : pf F_is_row [.lst (xs.map .int)] = some (.sh (.bl true)) := by
  unfold pf F_is_row runF
  have hf : xs.filter (fun x => !(decide (0 ≤ x) && decide (x < 26))) = [] := filter_none fun x h => by simp [hx x h]
  simp [evSs, evS, evX, evXs, evXan, evXor, evXo, evXc, evXt, evp, evs, evAnd, evOr, evo, evc, evi, ShR, AlR, shS, alS, O.pu, O.puL, O.d, O.dL, Ro1, Ro2, Ro3, Ro4, Rd1, Rd2, Rd3, Rd4, Rf1, Rf2, Rf3, Rf4, iteB1, iteB2, iteR1, iteR, iteBl, iteIn, D.fl, D.flL, asB1, asO1, at21, getAll, setAll, unS, frz1, frzS, backS, bT1, bT2, bT3, bT4, bT5, bO1, bO2, bO3, bO4, bO5, bO6, bO7, bO8, bO9, C.d, oAdd, oSub, oMul1, oMul2, oMulC, oMod, oFdiv, itemsD, ixL, ixT, ai0, ai1, ai2, putL, xn0, xn1, xn2, cEq, cLt, cLe, cGt, cGe, cNe, addNL, addNR, start0_eq, mapS, mapD, foldO, pmapE, pmap, Tg.ids, Tgs.ids, biAll, LIM, ok_non, ok_bl, ok_int, ok_lst, ok_tup, okn_non, okn_bl, okn_int, okn_lst, okn_tup, okn_ints, okn_ints', flL_ints, mapOI, flL_mapI, eqv_int, eqv_bl, eqv_LI, eqD_LI, eqD_nilI, filterT, eqD_nil0, eqD_int, eqD_bl, cEqD, cNeD, cIn, cNin, cIs, cIsn, inD_LI, inD_nilI, ints?_map, ints?_ints, atI_map, atI_nat, cutL_map, slD_map, compL_map, compL_enum, rangeD_I, compG_some, compG_all, dL_sh, dL_sh', map_sh, foldI, foldI1, addL, -List.map_cons, -List.map_append, -List.map_map, -List.map_take, -List.map_drop, -List.map_reverse, Rd2, biLen, biLenT, biListL, biSorted, biMax2, biMin2, biInt, isD1, isD2, G_is_row, B_is_row, isiD, tyD, p_is_thing, show (1 : Int) ≤ xs.length by omega, show (xs.length : Int) ≤ 60 by omega, hf]
  exact hx
theorem p_check_row {xs : List Int} (h0 : 1 ≤ xs.length) (h1 : xs.length ≤ 60) (hx : ∀ x ∈ xs, 0 ≤ x ∧ x < 26) : pf F_check_row [.lst (xs.map .int)] = some (.sh .non) := by
  unfold pf F_check_row runF
  simp [evSs, evS, evX, evXs, evXan, evXor, evXo, evXc, evXt, evp, evs, evAnd, evOr, evo, evc, evi, ShR, AlR, shS, alS, O.pu, O.puL, O.d, O.dL, Ro1, Ro2, Ro3, Ro4, Rd1, Rd2, Rd3, Rd4, Rf1, Rf2, Rf3, Rf4, iteB1, iteB2, iteR1, iteR, iteBl, iteIn, D.fl, D.flL, asB1, asO1, at21, getAll, setAll, unS, frz1, frzS, backS, bT1, bT2, bT3, bT4, bT5, bO1, bO2, bO3, bO4, bO5, bO6, bO7, bO8, bO9, C.d, oAdd, oSub, oMul1, oMul2, oMulC, oMod, oFdiv, itemsD, ixL, ixT, ai0, ai1, ai2, putL, xn0, xn1, xn2, cEq, cLt, cLe, cGt, cGe, cNe, addNL, addNR, start0_eq, mapS, mapD, foldO, pmapE, pmap, Tg.ids, Tgs.ids, biAll, LIM, ok_non, ok_bl, ok_int, ok_lst, ok_tup, okn_non, okn_bl, okn_int, okn_lst, okn_tup, okn_ints, okn_ints', flL_ints, mapOI, flL_mapI, eqv_int, eqv_bl, eqv_LI, eqD_LI, eqD_nilI, filterT, eqD_nil0, eqD_int, eqD_bl, cEqD, cNeD, cIn, cNin, cIs, cIsn, inD_LI, inD_nilI, ints?_map, ints?_ints, atI_map, atI_nat, cutL_map, slD_map, compL_map, compL_enum, rangeD_I, compG_some, compG_all, dL_sh, dL_sh', map_sh, foldI, foldI1, addL, -List.map_cons, -List.map_append, -List.map_map, -List.map_take, -List.map_drop, -List.map_reverse, Rd2, biLen, biLenT, biListL, biSorted, biMax2, biMin2, biInt, isD1, isD2, G_check_row, B_check_row, p_is_row h0 h1 hx]
theorem p_is_places {n : Int} (h0 : 1 ≤ n) (h1 : n ≤ 26) : pf F_is_places [.int n] = some (.sh (.bl true)) := by
  unfold pf F_is_places runF
  simp [evSs, evS, evX, evXs, evXan, evXor, evXo, evXc, evXt, evp, evs, evAnd, evOr, evo, evc, evi, ShR, AlR, shS, alS, O.pu, O.puL, O.d, O.dL, Ro1, Ro2, Ro3, Ro4, Rd1, Rd2, Rd3, Rd4, Rf1, Rf2, Rf3, Rf4, iteB1, iteB2, iteR1, iteR, iteBl, iteIn, D.fl, D.flL, asB1, asO1, at21, getAll, setAll, unS, frz1, frzS, backS, bT1, bT2, bT3, bT4, bT5, bO1, bO2, bO3, bO4, bO5, bO6, bO7, bO8, bO9, C.d, oAdd, oSub, oMul1, oMul2, oMulC, oMod, oFdiv, itemsD, ixL, ixT, ai0, ai1, ai2, putL, xn0, xn1, xn2, cEq, cLt, cLe, cGt, cGe, cNe, addNL, addNR, start0_eq, mapS, mapD, foldO, pmapE, pmap, Tg.ids, Tgs.ids, biAll, LIM, ok_non, ok_bl, ok_int, ok_lst, ok_tup, okn_non, okn_bl, okn_int, okn_lst, okn_tup, okn_ints, okn_ints', flL_ints, mapOI, flL_mapI, eqv_int, eqv_bl, eqv_LI, eqD_LI, eqD_nilI, filterT, eqD_nil0, eqD_int, eqD_bl, cEqD, cNeD, cIn, cNin, cIs, cIsn, inD_LI, inD_nilI, ints?_map, ints?_ints, atI_map, atI_nat, cutL_map, slD_map, compL_map, compL_enum, rangeD_I, compG_some, compG_all, dL_sh, dL_sh', map_sh, foldI, foldI1, addL, -List.map_cons, -List.map_append, -List.map_map, -List.map_take, -List.map_drop, -List.map_reverse, Rd2, biLen, biLenT, biListL, biSorted, biMax2, biMin2, biInt, isD1, isD2, G_is_places, B_is_places, p_is_whole, h0, h1]
theorem p_check_places {n : Int} (h0 : 1 ≤ n) (h1 : n ≤ 26) : pf F_check_places [.int n] = some (.sh .non) := by
  unfold pf F_check_places runF
  simp [evSs, evS, evX, evXs, evXan, evXor, evXo, evXc, evXt, evp, evs, evAnd, evOr, evo, evc, evi, ShR, AlR, shS, alS, O.pu, O.puL, O.d, O.dL, Ro1, Ro2, Ro3, Ro4, Rd1, Rd2, Rd3, Rd4, Rf1, Rf2, Rf3, Rf4, iteB1, iteB2, iteR1, iteR, iteBl, iteIn, D.fl, D.flL, asB1, asO1, at21, getAll, setAll, unS, frz1, frzS, backS, bT1, bT2, bT3, bT4, bT5, bO1, bO2, bO3, bO4, bO5, bO6, bO7, bO8, bO9, C.d, oAdd, oSub, oMul1, oMul2, oMulC, oMod, oFdiv, itemsD, ixL, ixT, ai0, ai1, ai2, putL, xn0, xn1, xn2, cEq, cLt, cLe, cGt, cGe, cNe, addNL, addNR, start0_eq, mapS, mapD, foldO, pmapE, pmap, Tg.ids, Tgs.ids, biAll, LIM, ok_non, ok_bl, ok_int, ok_lst, ok_tup, okn_non, okn_bl, okn_int, okn_lst, okn_tup, okn_ints, okn_ints', flL_ints, mapOI, flL_mapI, eqv_int, eqv_bl, eqv_LI, eqD_LI, eqD_nilI, filterT, eqD_nil0, eqD_int, eqD_bl, cEqD, cNeD, cIn, cNin, cIs, cIsn, inD_LI, inD_nilI, ints?_map, ints?_ints, atI_map, atI_nat, cutL_map, slD_map, compL_map, compL_enum, rangeD_I, compG_some, compG_all, dL_sh, dL_sh', map_sh, foldI, foldI1, addL, -List.map_cons, -List.map_append, -List.map_map, -List.map_take, -List.map_drop, -List.map_reverse, Rd2, biLen, biLenT, biListL, biSorted, biMax2, biMin2, biInt, isD1, isD2, G_check_places, B_check_places, p_is_places h0 h1]
theorem p_check_tiers {a b : Int} (h0 : 1 ≤ a) (h1 : 1 ≤ b) (h2 : a + b ≤ 26) : pf F_check_tiers [.tup [.int a, .int b]] = some (.sh .non) := by
  have h : pf F_are_tiers [.tup [.int a, .int b]] = some (.sh (.bl true)) := by
    unfold pf F_are_tiers runF
    simp [evSs, evS, evX, evXs, evXan, evXor, evXo, evXc, evXt, evp, evs, evAnd, evOr, evo, evc, evi, ShR, AlR, shS, alS, O.pu, O.puL, O.d, O.dL, Ro1, Ro2, Ro3, Ro4, Rd1, Rd2, Rd3, Rd4, Rf1, Rf2, Rf3, Rf4, iteB1, iteB2, iteR1, iteR, iteBl, iteIn, D.fl, D.flL, asB1, asO1, at21, getAll, setAll, unS, frz1, frzS, backS, bT1, bT2, bT3, bT4, bT5, bO1, bO2, bO3, bO4, bO5, bO6, bO7, bO8, bO9, C.d, oAdd, oSub, oMul1, oMul2, oMulC, oMod, oFdiv, itemsD, ixL, ixT, ai0, ai1, ai2, putL, xn0, xn1, xn2, cEq, cLt, cLe, cGt, cGe, cNe, addNL, addNR, start0_eq, mapS, mapD, foldO, pmapE, pmap, Tg.ids, Tgs.ids, biAll, LIM, ok_non, ok_bl, ok_int, ok_lst, ok_tup, okn_non, okn_bl, okn_int, okn_lst, okn_tup, okn_ints, okn_ints', flL_ints, mapOI, flL_mapI, eqv_int, eqv_bl, eqv_LI, eqD_LI, eqD_nilI, filterT, eqD_nil0, eqD_int, eqD_bl, cEqD, cNeD, cIn, cNin, cIs, cIsn, inD_LI, inD_nilI, ints?_map, ints?_ints, atI_map, atI_nat, cutL_map, slD_map, compL_map, compL_enum, rangeD_I, compG_some, compG_all, dL_sh, dL_sh', map_sh, foldI, foldI1, addL, -List.map_cons, -List.map_append, -List.map_map, -List.map_take, -List.map_drop, -List.map_reverse, Rd2, biLen, biLenT, biListL, biSorted, biMax2, biMin2, biInt, isD1, isD2, G_are_tiers, B_are_tiers, isiD, tyD, p_is_whole, h0, h1, h2]
  unfold pf F_check_tiers runF
  simp [evSs, evS, evX, evXs, evXan, evXor, evXo, evXc, evXt, evp, evs, evAnd, evOr, evo, evc, evi, ShR, AlR, shS, alS, O.pu, O.puL, O.d, O.dL, Ro1, Ro2, Ro3, Ro4, Rd1, Rd2, Rd3, Rd4, Rf1, Rf2, Rf3, Rf4, iteB1, iteB2, iteR1, iteR, iteBl, iteIn, D.fl, D.flL, asB1, asO1, at21, getAll, setAll, unS, frz1, frzS, backS, bT1, bT2, bT3, bT4, bT5, bO1, bO2, bO3, bO4, bO5, bO6, bO7, bO8, bO9, C.d, oAdd, oSub, oMul1, oMul2, oMulC, oMod, oFdiv, itemsD, ixL, ixT, ai0, ai1, ai2, putL, xn0, xn1, xn2, cEq, cLt, cLe, cGt, cGe, cNe, addNL, addNR, start0_eq, mapS, mapD, foldO, pmapE, pmap, Tg.ids, Tgs.ids, biAll, LIM, ok_non, ok_bl, ok_int, ok_lst, ok_tup, okn_non, okn_bl, okn_int, okn_lst, okn_tup, okn_ints, okn_ints', flL_ints, mapOI, flL_mapI, eqv_int, eqv_bl, eqv_LI, eqD_LI, eqD_nilI, filterT, eqD_nil0, eqD_int, eqD_bl, cEqD, cNeD, cIn, cNin, cIs, cIsn, inD_LI, inD_nilI, ints?_map, ints?_ints, atI_map, atI_nat, cutL_map, slD_map, compL_map, compL_enum, rangeD_I, compG_some, compG_all, dL_sh, dL_sh', map_sh, foldI, foldI1, addL, -List.map_cons, -List.map_append, -List.map_map, -List.map_take, -List.map_drop, -List.map_reverse, Rd2, biLen, biLenT, biListL, biSorted, biMax2, biMin2, biInt, isD1, isD2, G_check_tiers, B_check_tiers, h]
theorem p_with_scan {row scan : List Int} {ask : Int} (h0 : 0 ≤ ask) (hl : row.length + scan.length ≤ 1000) :
    pf F_with_scan_of [.lst (row.map .int), .int ask, .lst (scan.map .int)] = some (.sh (.lst ((row.take ask.toNat ++ scan ++ row.drop ask.toNat).map .int))) := by
  unfold pf F_with_scan_of runF
  simp [evSs, evS, evX, evXs, evXan, evXor, evXo, evXc, evXt, evp, evs, evAnd, evOr, evo, evc, evi, ShR, AlR, shS, alS, O.pu, O.puL, O.d, O.dL, Ro1, Ro2, Ro3, Ro4, Rd1, Rd2, Rd3, Rd4, Rf1, Rf2, Rf3, Rf4, iteB1, iteB2, iteR1, iteR, iteBl, iteIn, D.fl, D.flL, asB1, asO1, at21, getAll, setAll, unS, frz1, frzS, backS, bT1, bT2, bT3, bT4, bT5, bO1, bO2, bO3, bO4, bO5, bO6, bO7, bO8, bO9, C.d, oAdd, oSub, oMul1, oMul2, oMulC, oMod, oFdiv, itemsD, ixL, ixT, ai0, ai1, ai2, putL, xn0, xn1, xn2, cEq, cLt, cLe, cGt, cGe, cNe, addNL, addNR, start0_eq, mapS, mapD, foldO, pmapE, pmap, Tg.ids, Tgs.ids, biAll, LIM, ok_non, ok_bl, ok_int, ok_lst, ok_tup, okn_non, okn_bl, okn_int, okn_lst, okn_tup, okn_ints, okn_ints', flL_ints, mapOI, flL_mapI, eqv_int, eqv_bl, eqv_LI, eqD_LI, eqD_nilI, filterT, eqD_nil0, eqD_int, eqD_bl, cEqD, cNeD, cIn, cNin, cIs, cIsn, inD_LI, inD_nilI, ints?_map, ints?_ints, atI_map, atI_nat, cutL_map, slD_map, compL_map, compL_enum, rangeD_I, compG_some, compG_all, dL_sh, dL_sh', map_sh, foldI, foldI1, addL, -List.map_cons, -List.map_append, -List.map_map, -List.map_take, -List.map_drop, -List.map_reverse, Rd2, biLen, biLenT, biListL, biSorted, biMax2, biMin2, biInt, isD1, isD2, G_with_scan_of, B_with_scan_of, cutL_to h0, cutL_from h0, show min ask.toNat row.length + scan.length ≤ 100000 by omega, show min ask.toNat row.length + scan.length + (row.length - ask.toNat) ≤ 100000 by omega]
theorem dedup_nodup : ∀ (xs acc : List Int), (acc ++ xs).Nodup → xs.foldl (fun acc v => if acc.any (· == v) then acc else acc ++ [v]) acc = acc ++ xs
  | [], acc, _ => by simp
  | x :: xs, acc, h => by
    have hx : x ∉ acc := fun hm => by
      have := (List.nodup_append.mp h).2.2 x hm x List.mem_cons_self
      exact this rfl
    rw [List.foldl_cons, if_neg (by simpa using hx), dedup_nodup xs (acc ++ [x]) (by simpa using h)]
    simp
theorem dedupI_nodup {xs : List Int} (h : xs.Nodup) : dedupI xs = xs := by
  have := dedup_nodup xs [] (by simpa using h)
  simpa [dedupI] using this
theorem p_check_scan {row scan : List Int} {ask : Int} (h0 : 1 ≤ row.length) (h1 : row.length ≤ 60) (hx : ∀ x ∈ row, 0 ≤ x ∧ x < 26) (a0 : 0 ≤ ask) (a1 : ask ≤ row.length)
    (s0 : 1 ≤ scan.length) (s1 : row.length + scan.length ≤ 60) (hs : ∀ x ∈ scan, 0 ≤ x ∧ x < 26) (hd : scan.Nodup) (hn : ∀ x ∈ scan, x ∉ row) : pf F_check_scan [.lst (row.map .int), .int ask, .lst (scan.map .int)] = some (.sh .non) := by
  unfold pf F_check_scan runF
  have hf : scan.filter (fun x => decide (x ∈ row)) = [] := filter_none fun x h => by simp [hn x h]
  simp [evSs, evS, evX, evXs, evXan, evXor, evXo, evXc, evXt, evp, evs, evAnd, evOr, evo, evc, evi, ShR, AlR, shS, alS, O.pu, O.puL, O.d, O.dL, Ro1, Ro2, Ro3, Ro4, Rd1, Rd2, Rd3, Rd4, Rf1, Rf2, Rf3, Rf4, iteB1, iteB2, iteR1, iteR, iteBl, iteIn, D.fl, D.flL, asB1, asO1, at21, getAll, setAll, unS, frz1, frzS, backS, bT1, bT2, bT3, bT4, bT5, bO1, bO2, bO3, bO4, bO5, bO6, bO7, bO8, bO9, C.d, oAdd, oSub, oMul1, oMul2, oMulC, oMod, oFdiv, itemsD, ixL, ixT, ai0, ai1, ai2, putL, xn0, xn1, xn2, cEq, cLt, cLe, cGt, cGe, cNe, addNL, addNR, start0_eq, mapS, mapD, foldO, pmapE, pmap, Tg.ids, Tgs.ids, biAll, LIM, ok_non, ok_bl, ok_int, ok_lst, ok_tup, okn_non, okn_bl, okn_int, okn_lst, okn_tup, okn_ints, okn_ints', flL_ints, mapOI, flL_mapI, eqv_int, eqv_bl, eqv_LI, eqD_LI, eqD_nilI, filterT, eqD_nil0, eqD_int, eqD_bl, cEqD, cNeD, cIn, cNin, cIs, cIsn, inD_LI, inD_nilI, ints?_map, ints?_ints, atI_map, atI_nat, cutL_map, slD_map, compL_map, compL_enum, rangeD_I, compG_some, compG_all, dL_sh, dL_sh', map_sh, foldI, foldI1, addL, -List.map_cons, -List.map_append, -List.map_map, -List.map_take, -List.map_drop, -List.map_reverse, Rd2, biLen, biLenT, biListL, biSorted, biMax2, biMin2, biInt, isD1, isD2, G_check_scan, B_check_scan, p_check_row h0 h1 hx, p_is_below, p_is_row s0 (by omega) hs, a0, show ask < (row.length : Int) + 1 by omega, show scan.length ≤ 4000 by omega, dedupI_nodup hd, hf, show ¬ (60 : Int) < (row.length : Int) + scan.length by omega]
end Com
end KP
/-! KQc: plans. -/
namespace KP
namespace Com
open PySem L2

theorem p_is_number (i : Int) : pf F__law_is_number [.int i] = some (.sh (.bl true)) := rfl
theorem get_lt {xs : List Int} (h : xs.Pairwise (· < ·)) {i j : Nat} (hij : i < j) (hj : j < xs.length) : xs[i]'(by omega) < xs[j] := List.pairwise_iff_getElem.mp h i j (by omega) hj hij
theorem p_members {xs : List Int} {b : Int} (hp : xs.Pairwise (· < ·)) (hx : ∀ x ∈ xs, 0 ≤ x ∧ x < b) (hl : xs.length ≤ 1000) : pf F__law_members [.lst (xs.map .int), .int b] = some (.sh (.bl true)) := by
  unfold pf F__law_members runF
  have ha : (xs.all fun x => decide (0 ≤ x) && decide (x < b)) = true := List.all_eq_true.mpr fun x h => by simp [hx x h]
  simp [evSs, evS, evX, evXs, evXan, evXor, evXo, evXc, evXt, evp, evs, evAnd, evOr, evo, evc, evi, ShR, AlR, shS, alS, O.pu, O.puL, O.d, O.dL, Ro1, Ro2, Ro3, Ro4, Rd1, Rd2, Rd3, Rd4, Rf1, Rf2, Rf3, Rf4, iteB1, iteB2, iteR1, iteR, iteBl, iteIn, D.fl, D.flL, asB1, asO1, at21, getAll, setAll, unS, frz1, frzS, backS, bT1, bT2, bT3, bT4, bT5, bO1, bO2, bO3, bO4, bO5, bO6, bO7, bO8, bO9, C.d, oAdd, oSub, oMul1, oMul2, oMulC, oMod, oFdiv, itemsD, ixL, ixT, ai0, ai1, ai2, putL, xn0, xn1, xn2, cEq, cLt, cLe, cGt, cGe, cNe, addNL, addNR, start0_eq, mapS, mapD, foldO, pmapE, pmap, Tg.ids, Tgs.ids, biAll, LIM, ok_non, ok_bl, ok_int, ok_lst, ok_tup, okn_non, okn_bl, okn_int, okn_lst, okn_tup, okn_ints, okn_ints', flL_ints, mapOI, flL_mapI, eqv_int, eqv_bl, eqv_LI, eqD_LI, eqD_nilI, filterT, eqD_nil0, eqD_int, eqD_bl, cEqD, cNeD, cIn, cNin, cIs, cIsn, inD_LI, inD_nilI, ints?_map, ints?_ints, atI_map, atI_nat, cutL_map, slD_map, compL_map, compL_enum, rangeD_I, compG_some, compG_all, dL_sh, dL_sh', map_sh, foldI, foldI1, addL, -List.map_cons, -List.map_append, -List.map_map, -List.map_take, -List.map_drop, -List.map_reverse, Rd2, biLen, biLenT, biListL, biSorted, biMax2, biMin2, biInt, isD1, isD2, G__law_members, B__law_members, isiD, tyD, p_is_number, smallI, ha, show (xs.length : Int) ≤ 100000 by omega, show -100000 ≤ (xs.length : Int) by omega, show (xs.length : Int) - 1 ≤ 100000 by omega]
  rw [compG_map (xs := iran 1 xs.length) fun _ => .bl true]
  · simp [evSs, evS, evX, evXs, evXan, evXor, evXo, evXc, evXt, evp, evs, evAnd, evOr, evo, evc, evi, ShR, AlR, shS, alS, O.pu, O.puL, O.d, O.dL, Ro1, Ro2, Ro3, Ro4, Rd1, Rd2, Rd3, Rd4, Rf1, Rf2, Rf3, Rf4, iteB1, iteB2, iteR1, iteR, iteBl, iteIn, D.fl, D.flL, asB1, asO1, at21, getAll, setAll, unS, frz1, frzS, backS, bT1, bT2, bT3, bT4, bT5, bO1, bO2, bO3, bO4, bO5, bO6, bO7, bO8, bO9, C.d, oAdd, oSub, oMul1, oMul2, oMulC, oMod, oFdiv, itemsD, ixL, ixT, ai0, ai1, ai2, putL, xn0, xn1, xn2, cEq, cLt, cLe, cGt, cGe, cNe, addNL, addNR, start0_eq, mapS, mapD, foldO, pmapE, pmap, Tg.ids, Tgs.ids, biAll, LIM, ok_non, ok_bl, ok_int, ok_lst, ok_tup, okn_non, okn_bl, okn_int, okn_lst, okn_tup, okn_ints, okn_ints', flL_ints, mapOI, flL_mapI, eqv_int, eqv_bl, eqv_LI, eqD_LI, eqD_nilI, filterT, eqD_nil0, eqD_int, eqD_bl, cEqD, cNeD, cIn, cNin, cIs, cIsn, inD_LI, inD_nilI, ints?_map, ints?_ints, atI_map, atI_nat, cutL_map, slD_map, compL_map, compL_enum, rangeD_I, compG_some, compG_all, dL_sh, dL_sh', map_sh, foldI, foldI1, addL, -List.map_cons, -List.map_append, -List.map_map, -List.map_take, -List.map_drop, -List.map_reverse, Rd2, biLen, biLenT, biListL, biSorted, biMax2, biMin2, biInt, isD1, isD2]
  · exact fun _ _ => rfl
  · intro x h
    have := mem_iran.mp h
    rw [atI_pos (by omega) (by omega), atI_pos (by omega) (by omega)]
    have := get_lt hp (i := (x - 1).toNat) (j := x.toNat) (by omega) (by omega)
    simp only [Option.map_some, Option.bind_some, Function.comp_apply, R.d, cLt, this, decide_true]
def rows (pl : List (List Int)) : D := .lst (pl.map fun c => .lst (c.map .int))
/-- a plan of a row -/
structure PlanOk (row : List Int) (places : Int) (pl : List (List Int)) : Prop where
  len : pl.length = row.length
  asc : ∀ c ∈ pl, c.Pairwise (· < ·)
  rng : ∀ c ∈ pl, ∀ x ∈ c, 0 ≤ x ∧ x < 26
  few : ∀ c ∈ pl, (c.length : Int) ≤ places
  own : ∀ (k : Nat) (x : Int) (c : List Int), row[k]? = some x → pl[k]? = some c → x ∈ c
  new : ∀ (k : Nat) (x : Int) (c : List Int) (y : Int), row[k]? = some x → pl[k]? = some c → y ∈ c → y = x ∨ ∃ c', 0 < k ∧ pl[k - 1]? = some c' ∧ y ∈ c'
theorem p_is_plan {row : List Int} {places : Int} {pl : List (List Int)} (h : PlanOk row places pl) (hr : row.length ≤ 1000) (hc : ∀ c ∈ pl, c.length ≤ 1000) :
    pf F__law_is_plan [.lst (row.map .int), .int places, rows pl] = some (.sh (.bl true)) := by
  have loop := fo_enum (G := G__law_is_plan) (tg := .tp (.cons (.nm 4) (.cons (.nm 5) .nil))) (it := .en (.p (.v 2))) (b := Y__law_is_plan_1) (xs := pl) (e := fun c => .lst (c.map .int))
    (ρ := [some (.sh (.lst (row.map .int))), some (.sh (.int places)), some (.sh (rows pl)), some (.ol []), none, none, none])
    (fun pre ρ => ∃ (a : O) (j k l : Option O), ρ = [some (.sh (.lst (row.map .int))), some (.sh (.int places)), some (.sh (rows pl)), some a, j, k, l] ∧ a.d = .lst ((pre.getLast?.getD []).map .int))
    (by simp [evSs, evS, evX, evXs, evXan, evXor, evXo, evXc, evXt, evp, evs, evAnd, evOr, evo, evc, evi, ShR, AlR, shS, alS, O.pu, O.puL, O.d, O.dL, Ro1, Ro2, Ro3, Ro4, Rd1, Rd2, Rd3, Rd4, Rf1, Rf2, Rf3, Rf4, iteB1, iteB2, iteR1, iteR, iteBl, iteIn, D.fl, D.flL, asB1, asO1, at21, getAll, setAll, unS, frz1, frzS, backS, bT1, bT2, bT3, bT4, bT5, bO1, bO2, bO3, bO4, bO5, bO6, bO7, bO8, bO9, C.d, oAdd, oSub, oMul1, oMul2, oMulC, oMod, oFdiv, itemsD, ixL, ixT, ai0, ai1, ai2, putL, xn0, xn1, xn2, cEq, cLt, cLe, cGt, cGe, cNe, addNL, addNR, start0_eq, mapS, mapD, foldO, pmapE, pmap, Tg.ids, Tgs.ids, biAll, LIM, ok_non, ok_bl, ok_int, ok_lst, ok_tup, okn_non, okn_bl, okn_int, okn_lst, okn_tup, okn_ints, okn_ints', flL_ints, mapOI, flL_mapI, eqv_int, eqv_bl, eqv_LI, eqD_LI, eqD_nilI, filterT, eqD_nil0, eqD_int, eqD_bl, cEqD, cNeD, cIn, cNin, cIs, cIsn, inD_LI, inD_nilI, ints?_map, ints?_ints, atI_map, atI_nat, cutL_map, slD_map, compL_map, compL_enum, rangeD_I, compG_some, compG_all, dL_sh, dL_sh', map_sh, foldI, foldI1, addL, -List.map_cons, -List.map_append, -List.map_map, -List.map_take, -List.map_drop, -List.map_reverse, Rd2, biLen, biLenT, biListL, biSorted, biMax2, biMin2, biInt, isD1, isD2, rows] <;> rfl) ⟨.ol [], none, none, none, rfl, rfl⟩ fun pre c post ρ hpl ⟨a, j, k, l, e, ha⟩ => by
      subst e
      have hk : pl[pre.length]? = some c := by rw [hpl]; simp
      have hk2 : pre.length < row.length := by
        have := congrArg List.length hpl
        simp [h.len] at this; omega
      have hm : c ∈ pl := List.mem_of_getElem? hk
      have hg : row[pre.length]? = some (row[pre.length]) := List.getElem?_eq_getElem hk2
      have h1 := p_members (h.asc c hm) (h.rng c hm) (hc c hm)
      have h2 := h.few c hm
      have h3 := h.own _ _ _ hg hk
      have h4 : c.filter (fun y => !decide (y = row[pre.length]) && !decide (y ∈ pre.getLast?.getD [])) = [] := filter_none fun y hy => by
        rcases h.new _ _ _ y hg hk hy with q | ⟨c', q0, q1, q2⟩
        · simp [q]
        · have : pre.getLast? = some c' := by
            rw [List.getLast?_eq_getElem?, ← q1, hpl, List.getElem?_append_left (by omega)]
          simp [this, q2]
      refine ⟨_, by simp [evSs, evS, evX, evXs, evXan, evXor, evXo, evXc, evXt, evp, evs, evAnd, evOr, evo, evc, evi, ShR, AlR, shS, alS, O.pu, O.puL, O.d, O.dL, Ro1, Ro2, Ro3, Ro4, Rd1, Rd2, Rd3, Rd4, Rf1, Rf2, Rf3, Rf4, iteB1, iteB2, iteR1, iteR, iteBl, iteIn, D.fl, D.flL, asB1, asO1, at21, getAll, setAll, unS, frz1, frzS, backS, bT1, bT2, bT3, bT4, bT5, bO1, bO2, bO3, bO4, bO5, bO6, bO7, bO8, bO9, C.d, oAdd, oSub, oMul1, oMul2, oMulC, oMod, oFdiv, itemsD, ixL, ixT, ai0, ai1, ai2, putL, xn0, xn1, xn2, cEq, cLt, cLe, cGt, cGe, cNe, addNL, addNR, start0_eq, mapS, mapD, foldO, pmapE, pmap, Tg.ids, Tgs.ids, biAll, LIM, ok_non, ok_bl, ok_int, ok_lst, ok_tup, okn_non, okn_bl, okn_int, okn_lst, okn_tup, okn_ints, okn_ints', flL_ints, mapOI, flL_mapI, eqv_int, eqv_bl, eqv_LI, eqD_LI, eqD_nilI, filterT, eqD_nil0, eqD_int, eqD_bl, cEqD, cNeD, cIn, cNin, cIs, cIsn, inD_LI, inD_nilI, ints?_map, ints?_ints, atI_map, atI_nat, cutL_map, slD_map, compL_map, compL_enum, rangeD_I, compG_some, compG_all, dL_sh, dL_sh', map_sh, foldI, foldI1, addL, -List.map_cons, -List.map_append, -List.map_map, -List.map_take, -List.map_drop, -List.map_reverse, Rd2, biLen, biLenT, biListL, biSorted, biMax2, biMin2, biInt, isD1, isD2] <;> rfl, _, .inl (by simp [evSs, evS, evX, evXs, evXan, evXor, evXo, evXc, evXt, evp, evs, evAnd, evOr, evo, evc, evi, ShR, AlR, shS, alS, O.pu, O.puL, O.d, O.dL, Ro1, Ro2, Ro3, Ro4, Rd1, Rd2, Rd3, Rd4, Rf1, Rf2, Rf3, Rf4, iteB1, iteB2, iteR1, iteR, iteBl, iteIn, D.fl, D.flL, asB1, asO1, at21, getAll, setAll, unS, frz1, frzS, backS, bT1, bT2, bT3, bT4, bT5, bO1, bO2, bO3, bO4, bO5, bO6, bO7, bO8, bO9, C.d, oAdd, oSub, oMul1, oMul2, oMulC, oMod, oFdiv, itemsD, ixL, ixT, ai0, ai1, ai2, putL, xn0, xn1, xn2, cEq, cLt, cLe, cGt, cGe, cNe, addNL, addNR, start0_eq, mapS, mapD, foldO, pmapE, pmap, Tg.ids, Tgs.ids, biAll, LIM, ok_non, ok_bl, ok_int, ok_lst, ok_tup, okn_non, okn_bl, okn_int, okn_lst, okn_tup, okn_ints, okn_ints', flL_ints, mapOI, flL_mapI, eqv_int, eqv_bl, eqv_LI, eqD_LI, eqD_nilI, filterT, eqD_nil0, eqD_int, eqD_bl, cEqD, cNeD, cIn, cNin, cIs, cIsn, inD_LI, inD_nilI, ints?_map, ints?_ints, atI_map, atI_nat, cutL_map, slD_map, compL_map, compL_enum, rangeD_I, compG_some, compG_all, dL_sh, dL_sh', map_sh, foldI, foldI1, addL, -List.map_cons, -List.map_append, -List.map_map, -List.map_take, -List.map_drop, -List.map_reverse, Rd2, biLen, biLenT, biListL, biSorted, biMax2, biMin2, biInt, isD1, isD2, G__law_is_plan, Y__law_is_plan_1, h1, show ¬ places < c.length by omega, hg, h3, ha, h4] <;> rfl), ?_⟩
      exact ⟨.sh (.lst (c.map .int)), _, _, _, rfl, by simp [O.d]⟩
  obtain ⟨ρ', h1, a, j, k, l, rfl, ha⟩ := loop
  have h1' : evS G__law_is_plan W__law_is_plan_1 _ = _ := h1
  simp only [G__law_is_plan, rows] at h1'
  unfold pf F__law_is_plan runF
  simp [evSs, evS, evX, evXs, evXan, evXor, evXo, evXc, evXt, evp, evs, evAnd, evOr, evo, evc, evi, ShR, AlR, shS, alS, O.pu, O.puL, O.d, O.dL, Ro1, Ro2, Ro3, Ro4, Rd1, Rd2, Rd3, Rd4, Rf1, Rf2, Rf3, Rf4, iteB1, iteB2, iteR1, iteR, iteBl, iteIn, D.fl, D.flL, asB1, asO1, at21, getAll, setAll, unS, frz1, frzS, backS, bT1, bT2, bT3, bT4, bT5, bO1, bO2, bO3, bO4, bO5, bO6, bO7, bO8, bO9, C.d, oAdd, oSub, oMul1, oMul2, oMulC, oMod, oFdiv, itemsD, ixL, ixT, ai0, ai1, ai2, putL, xn0, xn1, xn2, cEq, cLt, cLe, cGt, cGe, cNe, addNL, addNR, start0_eq, mapS, mapD, foldO, pmapE, pmap, Tg.ids, Tgs.ids, biAll, LIM, ok_non, ok_bl, ok_int, ok_lst, ok_tup, okn_non, okn_bl, okn_int, okn_lst, okn_tup, okn_ints, okn_ints', flL_ints, mapOI, flL_mapI, eqv_int, eqv_bl, eqv_LI, eqD_LI, eqD_nilI, filterT, eqD_nil0, eqD_int, eqD_bl, cEqD, cNeD, cIn, cNin, cIs, cIsn, inD_LI, inD_nilI, ints?_map, ints?_ints, atI_map, atI_nat, cutL_map, slD_map, compL_map, compL_enum, rangeD_I, compG_some, compG_all, dL_sh, dL_sh', map_sh, foldI, foldI1, addL, -List.map_cons, -List.map_append, -List.map_map, -List.map_take, -List.map_drop, -List.map_reverse, Rd2, biLen, biLenT, biListL, biSorted, biMax2, biMin2, biInt, isD1, isD2, G__law_is_plan, B__law_is_plan, isiD, tyD, h.len, rows, h1']
end Com
end KP
/-! KQd: dicts by ints, sorted pairs, the longest unused. -/
namespace KP
namespace Com
open PySem L2

theorem look_map {κ : Type} [DecidableEq κ] {k j : κ} {d : D} : ∀ (ks : List κ) (vs : List D), ks.length = vs.length → lookK ks ((ks.zip vs).map fun p => if p.1 = k then d else p.2) j = if j = k then (if k ∈ ks then some d else none) else lookK ks vs j
  | [], [], _ => by simp [lookK]
  | [], _ :: _, h => by simp at h
  | _ :: _, [], h => by simp at h
  | c :: ks, v :: vs, h => by
    have ih := look_map (k := k) (j := j) (d := d) ks vs (by simpa using h)
    simp only [List.zip_cons_cons, List.map_cons, lookK, ih]
    by_cases h1 : c = j
    · subst h1
      by_cases h2 : c = k
      · subst h2; simp
      · simp [h2]
    · by_cases h2 : j = k
      · subst h2
        simp [h1, Ne.symm h1, eq_comm]
      · simp [h1, h2]
theorem look_snoc {κ : Type} [DecidableEq κ] {k j : κ} {d : D} : ∀ (ks : List κ) (vs : List D), ks.length = vs.length → k ∉ ks → lookK (ks ++ [k]) (vs ++ [d]) j = if j = k then some d else lookK ks vs j
  | [], [], _, _ => by
    by_cases h : k = j
    · simp [lookK, h]
    · simp [lookK, h, Ne.symm h]
  | [], _ :: _, h, _ => by simp at h
  | _ :: _, [], h, _ => by simp at h
  | c :: ks, v :: vs, h, hk => by
    have ih := look_snoc (k := k) (j := j) (d := d) ks vs (by simpa using h) (fun z => hk (List.mem_cons_of_mem _ z))
    have hc : c ≠ k := fun z => hk (z ▸ List.mem_cons_self)
    simp only [List.cons_append, lookK, ih]
    by_cases h1 : c = j
    · subst h1; simp [hc]
    · simp [h1]
theorem look_put {κ : Type} [DecidableEq κ] {k j : κ} {d : D} {ks : List κ} {vs : List D} (h : ks.length = vs.length) : lookK (putD ks vs k d).1 (putD ks vs k d).2 j = if j = k then some d else lookK ks vs j := by
  unfold putD
  by_cases hk : k ∈ ks
  · rw [if_pos (by simpa using hk)]
    simp only [look_map ks vs h, if_pos hk]
  · rw [if_neg (by simpa using hk)]
    exact look_snoc ks vs h hk
theorem put_len {κ : Type} [DecidableEq κ] {k : κ} {d : D} {ks : List κ} {vs : List D} (h : ks.length = vs.length) : (putD ks vs k d).1.length = (putD ks vs k d).2.length ∧ (putD ks vs k d).1.length ≤ ks.length + 1 := by
  unfold putD
  split
  · simp [h]
  · simp [h]
def DictO (n : Nat) (f : Int → Option D) (o : O) : Prop := ∃ ks vs, o = .oK ks vs ∧ ks.length = vs.length ∧ ks.length ≤ n ∧ ∀ k : Int, lookK ks vs (.inl k) = f k
theorem DictO.nil : DictO 0 (fun _ => none) (.oK [] []) := ⟨[], [], rfl, rfl, Nat.le_refl _, fun _ => rfl⟩
theorem DictO.weak {n m : Nat} {f : Int → Option D} {o : O} (h : DictO n f o) (l : n ≤ m) : DictO m f o := by
  obtain ⟨ks, vs, e, h1, h2, h3⟩ := h
  exact ⟨ks, vs, e, h1, by omega, h3⟩
theorem DictO.put {n : Nat} {f : Int → Option D} {o : O} (h : DictO n f o) (hn : n < 100000) (k : Int) (v : O) : ∃ o', putO o (.int k) v = some o' ∧ DictO (n + 1) (fun j => if j = k then some v.d else f j) o' := by
  obtain ⟨ks, vs, rfl, h1, h2, h3⟩ := h
  refine ⟨.oK (putD ks vs (.inl k) v.d).1 (putD ks vs (.inl k) v.d).2, ?_, _, _, rfl, (put_len h1).1, by have := (put_len (k := .inl k) (d := v.d) h1).2; omega, fun j => ?_⟩
  · simp [putO, D.key, show ks.length < LIM by show ks.length < 100000; omega]
  · rw [look_put h1, h3]; simp
theorem DictO.get2 {n : Nat} {f : Int → Option D} {o : O} (h : DictO n f o) (k : Int) (z : D) : meGet2 o.d [.int k, z] = some (.sh ((f k).getD z)) := by
  obtain ⟨ks, vs, rfl, h1, h2, h3⟩ := h
  simp [O.d, meGet2, D.key, h3]
theorem DictO.get1 {n : Nat} {f : Int → Option D} {o : O} (h : DictO n f o) (k : Int) : meGet1 o.d [.int k] = some (.sh ((f k).getD .non)) := by
  obtain ⟨ks, vs, rfl, h1, h2, h3⟩ := h
  simp [O.d, meGet1, D.key, h3]
theorem DictO.ix {n : Nat} {f : Int → Option D} {o : O} (h : DictO n f o) (k : Int) : ixD o.d (.int k) = f k := by
  obtain ⟨ks, vs, rfl, h1, h2, h3⟩ := h
  simp [O.d, ixD, D.key, h3]
theorem DictO.inn {n : Nat} {f : Int → Option D} {o : O} (h : DictO n f o) (k : Int) : inD (.int k) o.d = some (f k).isSome := by
  obtain ⟨ks, vs, rfl, h1, h2, h3⟩ := h
  simp [O.d, inD, D.key, h3]
theorem DictO.dict {n : Nat} {f : Int → Option D} {o : O} (h : DictO n f o) : ∃ ks vs, o.d = .dK ks vs := by
  obtain ⟨ks, vs, rfl, _⟩ := h
  exact ⟨ks, vs, rfl⟩
/-! ### sorted pairs -/
theorem biSortedP {α : Type} {f g : α → Int} {xs : List α} (h : xs ≠ []) : biD .sorted [.lst (xs.map fun x => .tup [.int (f x), .int (g x)])] = some (.fl ((psort (xs.map fun x => (f x, g x))).map pairD)) := by
  have h1 : ints? (xs.map fun x => D.tup [.int (f x), .int (g x)]) = none := by
    cases xs with
    | nil => exact absurd rfl h
    | cons x xs => rfl
  have h2 : pairs? (xs.map fun x => D.tup [.int (f x), .int (g x)]) = some (xs.map fun x => (f x, g x)) := by
    have := pairs?_pairs (xs.map fun x => (f x, g x))
    rw [List.map_map] at this
    exact this
  simp [biD, h1, h2]
theorem psort_first {ps : List (Int × Int)} (h : ps ≠ []) : ∃ p, (psort ps)[0]? = some p ∧ p ∈ ps ∧ ∀ q ∈ ps, pLe p q = true := by
  have hp := psort_perm ps
  have hw := psort_pairwise ps
  cases e : psort ps with
  | nil => rw [e] at hp; exact absurd hp.symm.eq_nil h
  | cons p qs =>
    rw [e] at hp hw
    refine ⟨p, rfl, hp.mem_iff.mp List.mem_cons_self, fun q hq => ?_⟩
    rcases List.mem_cons.mp (hp.mem_iff.mpr hq) with rfl | hm
    · simp [pLe]
    · exact (List.pairwise_cons.mp hw).1 q hm
end Com
end KP
/-! KQe: the longest unused by the law's own run. -/
namespace KP
namespace Com
open PySem L2
theorem eqLru : eqD (.str ("lru" : String)) (.str ("lru" : String)) = some true := by decide +kernel
theorem p_goes_lru {t : List Int} {used born many : D} {u : Int → Int} (ht : t ≠ []) (hu : ∀ x ∈ t, ixD used (.int x) = some (.int (u x))) :
    ∃ g, pf F__law_goes [.str ("lru" : String), .lst (t.map .int), born, used, many] = some (.sh (.int g)) ∧ g ∈ t ∧ ∀ x ∈ t, u g < u x ∨ (u g = u x ∧ g ≤ x) := by
  obtain ⟨p, h1, h2, h3⟩ := psort_first (ps := t.map fun x => (u x, x)) (by simpa using ht)
  obtain ⟨g, hg, rfl⟩ := List.mem_map.mp h2
  refine ⟨g, ?_, hg, fun x hx => ?_⟩
  · unfold pf F__law_goes runF
    simp [evSs, evS, evX, evXs, evXan, evXor, evXo, evXc, evXt, evp, evs, evAnd, evOr, evo, evc, evi, ShR, AlR, shS, alS, O.pu, O.puL, O.d, O.dL, Ro1, Ro2, Ro3, Ro4, Rd1, Rd2, Rd3, Rd4, Rf1, Rf2, Rf3, Rf4, iteB1, iteB2, iteR1, iteR, iteBl, iteIn, D.fl, D.flL, asB1, asO1, at21, getAll, setAll, unS, frz1, frzS, backS, bT1, bT2, bT3, bT4, bT5, bO1, bO2, bO3, bO4, bO5, bO6, bO7, bO8, bO9, C.d, oAdd, oSub, oMul1, oMul2, oMulC, oMod, oFdiv, itemsD, ixL, ixT, ai0, ai1, ai2, putL, xn0, xn1, xn2, cEq, cLt, cLe, cGt, cGe, cNe, addNL, addNR, start0_eq, mapS, mapD, foldO, pmapE, pmap, Tg.ids, Tgs.ids, biAll, LIM, ok_non, ok_bl, ok_int, ok_lst, ok_tup, okn_non, okn_bl, okn_int, okn_lst, okn_tup, okn_ints, okn_ints', flL_ints, mapOI, flL_mapI, eqv_int, eqv_bl, eqv_LI, eqD_LI, eqD_nilI, filterT, eqD_nil0, eqD_int, eqD_bl, cEqD, cNeD, cIn, cNin, cIs, cIsn, inD_LI, inD_nilI, ints?_map, ints?_ints, atI_map, atI_nat, cutL_map, slD_map, compL_map, compL_enum, rangeD_I, compG_some, compG_all, dL_sh, dL_sh', map_sh, foldI, foldI1, addL, -List.map_cons, -List.map_append, -List.map_map, -List.map_take, -List.map_drop, -List.map_reverse, Rd2, biLen, biLenT, biListL, biSorted, biMax2, biMin2, biInt, isD1, isD2, G__law_goes, B__law_goes, eqLru]
    rw [compG_map (xs := t) fun x => .tup [.int (u x), .int x]]
    · rw [Option.map_some]
      have h1' : L2.atI (psort (t.map fun x => (u x, x))) 0 = some (u g, g) := by
        rw [show (0 : Int) = ((0 : Nat) : Int) from rfl, atI_nat]; exact h1
      simp [evSs, evS, evX, evXs, evXan, evXor, evXo, evXc, evXt, evp, evs, evAnd, evOr, evo, evc, evi, ShR, AlR, shS, alS, O.pu, O.puL, O.d, O.dL, Ro1, Ro2, Ro3, Ro4, Rd1, Rd2, Rd3, Rd4, Rf1, Rf2, Rf3, Rf4, iteB1, iteB2, iteR1, iteR, iteBl, iteIn, D.fl, D.flL, asB1, asO1, at21, getAll, setAll, unS, frz1, frzS, backS, bT1, bT2, bT3, bT4, bT5, bO1, bO2, bO3, bO4, bO5, bO6, bO7, bO8, bO9, C.d, oAdd, oSub, oMul1, oMul2, oMulC, oMod, oFdiv, itemsD, ixL, ixT, ai0, ai1, ai2, putL, xn0, xn1, xn2, cEq, cLt, cLe, cGt, cGe, cNe, addNL, addNR, start0_eq, mapS, mapD, foldO, pmapE, pmap, Tg.ids, Tgs.ids, biAll, LIM, ok_non, ok_bl, ok_int, ok_lst, ok_tup, okn_non, okn_bl, okn_int, okn_lst, okn_tup, okn_ints, okn_ints', flL_ints, mapOI, flL_mapI, eqv_int, eqv_bl, eqv_LI, eqD_LI, eqD_nilI, filterT, eqD_nil0, eqD_int, eqD_bl, cEqD, cNeD, cIn, cNin, cIs, cIsn, inD_LI, inD_nilI, ints?_map, ints?_ints, atI_map, atI_nat, cutL_map, slD_map, compL_map, compL_enum, rangeD_I, compG_some, compG_all, dL_sh, dL_sh', map_sh, foldI, foldI1, addL, -List.map_cons, -List.map_append, -List.map_map, -List.map_take, -List.map_drop, -List.map_reverse, Rd2, biLen, biLenT, biListL, biSorted, biMax2, biMin2, biInt, isD1, isD2, biSortedP ht, h1', pairD]
    · exact fun _ _ => rfl
    · intro x hx
      simp [evSs, evS, evX, evXs, evXan, evXor, evXo, evXc, evXt, evp, evs, evAnd, evOr, evo, evc, evi, ShR, AlR, shS, alS, O.pu, O.puL, O.d, O.dL, Ro1, Ro2, Ro3, Ro4, Rd1, Rd2, Rd3, Rd4, Rf1, Rf2, Rf3, Rf4, iteB1, iteB2, iteR1, iteR, iteBl, iteIn, D.fl, D.flL, asB1, asO1, at21, getAll, setAll, unS, frz1, frzS, backS, bT1, bT2, bT3, bT4, bT5, bO1, bO2, bO3, bO4, bO5, bO6, bO7, bO8, bO9, C.d, oAdd, oSub, oMul1, oMul2, oMulC, oMod, oFdiv, itemsD, ixL, ixT, ai0, ai1, ai2, putL, xn0, xn1, xn2, cEq, cLt, cLe, cGt, cGe, cNe, addNL, addNR, start0_eq, mapS, mapD, foldO, pmapE, pmap, Tg.ids, Tgs.ids, biAll, LIM, ok_non, ok_bl, ok_int, ok_lst, ok_tup, okn_non, okn_bl, okn_int, okn_lst, okn_tup, okn_ints, okn_ints', flL_ints, mapOI, flL_mapI, eqv_int, eqv_bl, eqv_LI, eqD_LI, eqD_nilI, filterT, eqD_nil0, eqD_int, eqD_bl, cEqD, cNeD, cIn, cNin, cIs, cIsn, inD_LI, inD_nilI, ints?_map, ints?_ints, atI_map, atI_nat, cutL_map, slD_map, compL_map, compL_enum, rangeD_I, compG_some, compG_all, dL_sh, dL_sh', map_sh, foldI, foldI1, addL, -List.map_cons, -List.map_append, -List.map_map, -List.map_take, -List.map_drop, -List.map_reverse, Rd2, biLen, biLenT, biListL, biSorted, biMax2, biMin2, biInt, isD1, isD2, hu x hx]
  · have := h3 _ (List.mem_map.mpr ⟨x, hx, rfl⟩)
    simpa [pLe] using this
/-- the things there, the latest first -/
def lruStep (p : Int) (l : List Int) (x : Int) : List Int := (x :: l.filter fun y => !decide (y = x)).take p.toNat
def lruS (p : Int) (pre : List Int) : List Int × List Bool := pre.foldl (fun s x => (lruStep p s.1 x, s.2 ++ [decide (x ∈ s.1)])) ([], [])
theorem lruS_snoc (p : Int) (pre : List Int) (x : Int) : lruS p (pre ++ [x]) = (lruStep p (lruS p pre).1 x, (lruS p pre).2 ++ [decide (x ∈ (lruS p pre).1)]) := by
  unfold lruS; rw [List.foldl_append]; rfl
theorem lruS_len (p : Int) (hp : 0 ≤ p) : ∀ pre, ((lruS p pre).1.length : Int) ≤ p := by
  intro pre
  rw [← List.reverse_reverse pre]
  cases pre.reverse with
  | nil => simpa [lruS] using hp
  | cons x xs => rw [List.reverse_cons, lruS_snoc]; simp [lruStep]; omega
theorem lruS_hits (p : Int) : ∀ pre, (lruS p pre).2.length = pre.length := by
  intro pre
  suffices ∀ xs : List Int, (lruS p xs.reverse).2.length = xs.length by have := this pre.reverse; rwa [List.reverse_reverse, List.length_reverse] at this
  intro xs
  induction xs with
  | nil => rfl
  | cons x xs ih => rw [List.reverse_cons, lruS_snoc]; simp [ih]
theorem filter_last {l : List Int} {g : Int} (h : (l ++ [g]).Nodup) : (l ++ [g]).filter (fun y => !decide (y = g)) = l := by
  have hg : g ∉ l := fun hm => (List.nodup_append.mp h).2.2 g hm g (by simp) rfl
  rw [List.filter_append]
  simp
  exact fun a ha e => hg (e ▸ ha)
theorem filter_ne {l : List Int} {x : Int} (h : x ∉ l) : l.filter (fun y => !decide (y = x)) = l := by
  rw [List.filter_eq_self]
  intro a ha
  simp
  exact fun e => h (e ▸ ha)
theorem perm_front {l : List Int} {x : Int} (h : l.Nodup) (hx : x ∈ l) : l.Perm (x :: l.filter fun y => !decide (y = x)) := by
  have h1 := List.perm_cons_erase hx
  rw [h.erase_eq_filter x] at h1
  exact h1
def lruE : O := .sh (.str ("lru" : String))
structure LruR (row : List Int) (places : Int) (pre : List Int) (ρ : So) : Prop where
  ex : ∃ (t : List Int) (a3 born used many : O) (plan : List O) (j k l m : Option O) (f fm fb : Int → Option D) (u : Int → Int),
    ρ = [some (.sh (.lst (row.map .int))), some (.sh (.int places)), some (.sh (.str ("lru" : String))), some a3, some born, some used, some many, some (.ol plan), some (.ol ((lruS places pre).2.map fun b => .sh (.bl b))), j, k, l, m]
    ∧ a3.d = .lst (t.map .int) ∧ t.Perm (lruS places pre).1 ∧ DictO pre.length f used ∧ DictO pre.length fb born ∧ DictO pre.length fm many ∧ (∀ x, ∃ n : Int, (fm x).getD (.int 0) = .int n)
    ∧ plan.length = pre.length ∧ (∀ x ∈ (lruS places pre).1, f x = some (.int (u x)) ∧ u x < pre.length) ∧ (lruS places pre).1.Pairwise fun a b => u b < u a
theorem lru_step {row : List Int} {places : Int} (hp : 0 < places) (hp2 : places ≤ 1000) (hr : row.length ≤ 1000) {pre : List Int} {x : Int} {post : List Int} {ρ : So} (e : row = pre ++ x :: post) (h : LruR row places pre ρ) :
    Step G__law_run (.tp (.cons (.nm 9) (.cons (.nm 10) .nil))) Y__law_run_1 (.tup [.int (pre.length : Int), .int x]) ρ (LruR row places (pre ++ [x])) := by
  obtain ⟨t, a3, born, used, many, plan, j, k, l, m, f, fm, fb, u, rfl, h3, ht, hu, hb, hm, hmi, hpl, hd, hw⟩ := h
  have hlen : pre.length < 1000 := by
    have := congrArg List.length e
    simp at this; omega
  generalize hL : (lruS places pre).1 = L at *
  have hLl : (L.length : Int) ≤ places := by rw [← hL]; exact lruS_len places (by omega) pre
  have hnd : L.Nodup := hw.imp fun {a b} h e => by subst e; omega
  have htl : t.length = L.length := ht.length_eq
  obtain ⟨n, hn⟩ := hmi x
  obtain ⟨many', hm1, hm2⟩ := hm.put (by omega) x (.sh (.int (n + 1)))
  obtain ⟨used', hu1, hu2⟩ := hu.put (by omega) x (.sh (.int pre.length))
  have hg2 := hm.get2 x (.int 0)
  rw [hn] at hg2
  have hxt : x ∈ t ↔ x ∈ L := ht.mem_iff
  have hmi' : ∀ y, ∃ z : Int, ((fun j => if j = x then some (O.sh (.int (n + 1))).d else fm j) y).getD (.int 0) = .int z := fun y => by
    by_cases hy : y = x
    · exact ⟨n + 1, by simp [hy, O.d]⟩
    · obtain ⟨z, hz⟩ := hmi y; exact ⟨z, by simpa [hy] using hz⟩
  have hl1 : (pre ++ [x]).length = pre.length + 1 := by simp
  have hdp : (lruS places (pre ++ [x])).1 = lruStep places L x := by rw [lruS_snoc, hL]
  have hdh : (lruS places (pre ++ [x])).2 = (lruS places pre).2 ++ [decide (x ∈ L)] := by rw [lruS_snoc, hL]
  have hsub : ∀ y ∈ lruStep places L x, y = x ∨ (y ∈ L ∧ y ≠ x) := fun y hy => by
    have := List.mem_of_mem_take hy
    rcases List.mem_cons.mp this with h | h
    · exact .inl h
    · have := List.mem_filter.mp h
      exact .inr ⟨this.1, by simpa using this.2⟩
  have hd' : ∀ y ∈ lruStep places L x, (fun j => if j = x then some (O.sh (.int pre.length)).d else f j) y = some (.int ((fun z => if z = x then (pre.length : Int) else u z) y)) ∧ (fun z => if z = x then (pre.length : Int) else u z) y < ((pre ++ [x]).length : Int) := fun y hy => by
    rcases hsub y hy with rfl | ⟨h1, h2⟩
    · simp [O.d]; omega
    · have := hd y h1
      simp [h2, this.1]; omega
  have hw' : (lruStep places L x).Pairwise fun a b => (fun z => if z = x then (pre.length : Int) else u z) b < (fun z => if z = x then (pre.length : Int) else u z) a := by
    refine List.Pairwise.sublist (List.take_sublist _ _) (List.pairwise_cons.mpr ⟨fun y hy => ?_, ?_⟩)
    · have := List.mem_filter.mp hy
      have h2 : y ≠ x := by simpa using this.2
      have := (hd y this.1).2
      simp [h2]; omega
    · rw [List.pairwise_filter]
      refine hw.imp fun {a b} h ha hb => ?_
      have ha : a ≠ x := by simpa using ha
      have hb : b ≠ x := by simpa using hb
      simp [ha, hb, h]
  by_cases hx : x ∈ L
  · have hx' : x ∈ t := hxt.mpr hx
    have hst : lruStep places L x = x :: L.filter fun y => !decide (y = x) := by
      unfold lruStep
      refine List.take_of_length_le ?_
      have h1 := perm_erase (xs := L) (i := 0) (x := L.head?.getD 0)
      have : (L.filter fun y => !decide (y = x)).length < L.length := by
        refine List.length_filter_lt_length_iff_exists.mpr ⟨x, hx, by simp⟩
      simp; omega
    refine ⟨_, by simp [evSs, evS, evX, evXs, evXan, evXor, evXo, evXc, evXt, evp, evs, evAnd, evOr, evo, evc, evi, ShR, AlR, shS, alS, O.pu, O.puL, O.d, O.dL, Ro1, Ro2, Ro3, Ro4, Rd1, Rd2, Rd3, Rd4, Rf1, Rf2, Rf3, Rf4, iteB1, iteB2, iteR1, iteR, iteBl, iteIn, D.fl, D.flL, asB1, asO1, at21, getAll, setAll, unS, frz1, frzS, backS, bT1, bT2, bT3, bT4, bT5, bO1, bO2, bO3, bO4, bO5, bO6, bO7, bO8, bO9, C.d, oAdd, oSub, oMul1, oMul2, oMulC, oMod, oFdiv, itemsD, ixL, ixT, ai0, ai1, ai2, putL, xn0, xn1, xn2, cEq, cLt, cLe, cGt, cGe, cNe, addNL, addNR, start0_eq, mapS, mapD, foldO, pmapE, pmap, Tg.ids, Tgs.ids, biAll, LIM, ok_non, ok_bl, ok_int, ok_lst, ok_tup, okn_non, okn_bl, okn_int, okn_lst, okn_tup, okn_ints, okn_ints', flL_ints, mapOI, flL_mapI, eqv_int, eqv_bl, eqv_LI, eqD_LI, eqD_nilI, filterT, eqD_nil0, eqD_int, eqD_bl, cEqD, cNeD, cIn, cNin, cIs, cIsn, inD_LI, inD_nilI, ints?_map, ints?_ints, atI_map, atI_nat, cutL_map, slD_map, compL_map, compL_enum, rangeD_I, compG_some, compG_all, dL_sh, dL_sh', map_sh, foldI, foldI1, addL, -List.map_cons, -List.map_append, -List.map_map, -List.map_take, -List.map_drop, -List.map_reverse, Rd2, biLen, biLenT, biListL, biSorted, biMax2, biMin2, biInt, isD1, isD2] <;> rfl, _, .inl (by simp [evSs, evS, evX, evXs, evXan, evXor, evXo, evXc, evXt, evp, evs, evAnd, evOr, evo, evc, evi, ShR, AlR, shS, alS, O.pu, O.puL, O.d, O.dL, Ro1, Ro2, Ro3, Ro4, Rd1, Rd2, Rd3, Rd4, Rf1, Rf2, Rf3, Rf4, iteB1, iteB2, iteR1, iteR, iteBl, iteIn, D.fl, D.flL, asB1, asO1, at21, getAll, setAll, unS, frz1, frzS, backS, bT1, bT2, bT3, bT4, bT5, bO1, bO2, bO3, bO4, bO5, bO6, bO7, bO8, bO9, C.d, oAdd, oSub, oMul1, oMul2, oMulC, oMod, oFdiv, itemsD, ixL, ixT, ai0, ai1, ai2, putL, xn0, xn1, xn2, cEq, cLt, cLe, cGt, cGe, cNe, addNL, addNR, start0_eq, mapS, mapD, foldO, pmapE, pmap, Tg.ids, Tgs.ids, biAll, LIM, ok_non, ok_bl, ok_int, ok_lst, ok_tup, okn_non, okn_bl, okn_int, okn_lst, okn_tup, okn_ints, okn_ints', flL_ints, mapOI, flL_mapI, eqv_int, eqv_bl, eqv_LI, eqD_LI, eqD_nilI, filterT, eqD_nil0, eqD_int, eqD_bl, cEqD, cNeD, cIn, cNin, cIs, cIsn, inD_LI, inD_nilI, ints?_map, ints?_ints, atI_map, atI_nat, cutL_map, slD_map, compL_map, compL_enum, rangeD_I, compG_some, compG_all, dL_sh, dL_sh', map_sh, foldI, foldI1, addL, -List.map_cons, -List.map_append, -List.map_map, -List.map_take, -List.map_drop, -List.map_reverse, Rd2, biLen, biLenT, biListL, biSorted, biMax2, biMin2, biInt, isD1, isD2, G__law_run, Y__law_run_1, h3, hx', meD, hg2, hm1, hu1, biSorted, hpl, lruS_hits, show pre.length < 100000 by omega] <;> rfl), ?_⟩
    refine ⟨?_⟩
    simp only [hdh, hdp, hl1, List.map_append, List.map_cons, List.map_nil, hx, decide_true]
    rw [hl1] at hd'
    refine ⟨t, a3, born, used', many', _, _, _, _, _, _, _, _, _, rfl, h3, ?_, hu2, hb.weak (by omega), hm2, hmi', by simp [hpl], hd', hw'⟩
    rw [hst]
    exact ht.trans (perm_front hnd hx)
  · have hx' : x ∉ t := fun h => hx (hxt.mp h)
    have hfn : L.filter (fun y => !decide (y = x)) = L := filter_ne hx
    obtain ⟨born', hb1, hb2⟩ := hb.put (by omega) x (.sh (.int pre.length))
    by_cases hf : (L.length : Int) = places
    · have hne : L ≠ [] := fun h => by subst h; simp at hf; omega
      have htn : t ≠ [] := fun h => by subst h; simp at htl; exact hne (List.length_eq_zero_iff.mp htl.symm)
      obtain ⟨g, hg1, hg2', hg3⟩ := p_goes_lru (t := t) (used := used.d) (born := born.d) (many := many'.d) (u := u) htn fun y hy => by
        rw [hu.ix y]; exact (hd y (ht.mem_iff.mp hy)).1
      obtain ⟨L0, w, rfl⟩ := (List.eq_nil_or_concat L).resolve_left hne
      rw [List.concat_eq_append] at *
      have hgw : g = w := by
        rcases List.mem_append.mp (ht.mem_iff.mp hg2') with h | h
        · have h1 := (List.pairwise_append.mp hw).2.2 g h w (by simp)
          have h2 := hg3 w (ht.mem_iff.mpr (by simp))
          omega
        · simpa using h
      subst hgw
      have hst : lruStep places (L0 ++ [g]) x = x :: L0 := by
        unfold lruStep
        rw [hfn]
        have : places.toNat = L0.length + 1 := by simp at hf; omega
        rw [this, List.take_succ_cons, List.take_left']
        rfl
      have h4 : (t.length : Int) = places := by rw [htl]; exact hf
      refine ⟨_, by simp [evSs, evS, evX, evXs, evXan, evXor, evXo, evXc, evXt, evp, evs, evAnd, evOr, evo, evc, evi, ShR, AlR, shS, alS, O.pu, O.puL, O.d, O.dL, Ro1, Ro2, Ro3, Ro4, Rd1, Rd2, Rd3, Rd4, Rf1, Rf2, Rf3, Rf4, iteB1, iteB2, iteR1, iteR, iteBl, iteIn, D.fl, D.flL, asB1, asO1, at21, getAll, setAll, unS, frz1, frzS, backS, bT1, bT2, bT3, bT4, bT5, bO1, bO2, bO3, bO4, bO5, bO6, bO7, bO8, bO9, C.d, oAdd, oSub, oMul1, oMul2, oMulC, oMod, oFdiv, itemsD, ixL, ixT, ai0, ai1, ai2, putL, xn0, xn1, xn2, cEq, cLt, cLe, cGt, cGe, cNe, addNL, addNR, start0_eq, mapS, mapD, foldO, pmapE, pmap, Tg.ids, Tgs.ids, biAll, LIM, ok_non, ok_bl, ok_int, ok_lst, ok_tup, okn_non, okn_bl, okn_int, okn_lst, okn_tup, okn_ints, okn_ints', flL_ints, mapOI, flL_mapI, eqv_int, eqv_bl, eqv_LI, eqD_LI, eqD_nilI, filterT, eqD_nil0, eqD_int, eqD_bl, cEqD, cNeD, cIn, cNin, cIs, cIsn, inD_LI, inD_nilI, ints?_map, ints?_ints, atI_map, atI_nat, cutL_map, slD_map, compL_map, compL_enum, rangeD_I, compG_some, compG_all, dL_sh, dL_sh', map_sh, foldI, foldI1, addL, -List.map_cons, -List.map_append, -List.map_map, -List.map_take, -List.map_drop, -List.map_reverse, Rd2, biLen, biLenT, biListL, biSorted, biMax2, biMin2, biInt, isD1, isD2] <;> rfl, _, .inl (by simp [evSs, evS, evX, evXs, evXan, evXor, evXo, evXc, evXt, evp, evs, evAnd, evOr, evo, evc, evi, ShR, AlR, shS, alS, O.pu, O.puL, O.d, O.dL, Ro1, Ro2, Ro3, Ro4, Rd1, Rd2, Rd3, Rd4, Rf1, Rf2, Rf3, Rf4, iteB1, iteB2, iteR1, iteR, iteBl, iteIn, D.fl, D.flL, asB1, asO1, at21, getAll, setAll, unS, frz1, frzS, backS, bT1, bT2, bT3, bT4, bT5, bO1, bO2, bO3, bO4, bO5, bO6, bO7, bO8, bO9, C.d, oAdd, oSub, oMul1, oMul2, oMulC, oMod, oFdiv, itemsD, ixL, ixT, ai0, ai1, ai2, putL, xn0, xn1, xn2, cEq, cLt, cLe, cGt, cGe, cNe, addNL, addNR, start0_eq, mapS, mapD, foldO, pmapE, pmap, Tg.ids, Tgs.ids, biAll, LIM, ok_non, ok_bl, ok_int, ok_lst, ok_tup, okn_non, okn_bl, okn_int, okn_lst, okn_tup, okn_ints, okn_ints', flL_ints, mapOI, flL_mapI, eqv_int, eqv_bl, eqv_LI, eqD_LI, eqD_nilI, filterT, eqD_nil0, eqD_int, eqD_bl, cEqD, cNeD, cIn, cNin, cIs, cIsn, inD_LI, inD_nilI, ints?_map, ints?_ints, atI_map, atI_nat, cutL_map, slD_map, compL_map, compL_enum, rangeD_I, compG_some, compG_all, dL_sh, dL_sh', map_sh, foldI, foldI1, addL, -List.map_cons, -List.map_append, -List.map_map, -List.map_take, -List.map_drop, -List.map_reverse, Rd2, biLen, biLenT, biListL, biSorted, biMax2, biMin2, biInt, isD1, isD2, G__law_run, Y__law_run_1, h3, hx', meD, hg2, hm1, hu1, hb1, hg1, h4, biSorted, hpl, lruS_hits, show pre.length < 100000 by omega, show (t.filter fun y => !decide (y = g)).length + 1 ≤ 100000 by have := List.length_filter_le (fun y => !decide (y = g)) t; omega] <;> rfl), ?_⟩
      refine ⟨?_⟩
      simp only [hdh, hdp, hl1, List.map_append, List.map_cons, List.map_nil, hx, decide_false]
      rw [hl1] at hd'
      refine ⟨(t.filter fun y => !decide (y = g)) ++ [x], _, born', used', many', _, _, _, _, _, _, _, _, _, rfl, by simp [O.d, dL_sh, dL_sh', O.dL_eq], ?_, hu2, hb2, hm2, hmi', by simp [hpl], hd', hw'⟩
      rw [hst]
      refine (List.perm_append_singleton _ _).trans (List.Perm.cons x ?_)
      have h5 := ht.filter fun y => !decide (y = g)
      rw [filter_last hnd] at h5
      exact h5
    · have hst : lruStep places L x = x :: L := by
        unfold lruStep
        rw [hfn, List.take_of_length_le (by simp; omega)]
      have h4 : ¬ (t.length : Int) = places := by rw [htl]; exact hf
      refine ⟨_, by simp [evSs, evS, evX, evXs, evXan, evXor, evXo, evXc, evXt, evp, evs, evAnd, evOr, evo, evc, evi, ShR, AlR, shS, alS, O.pu, O.puL, O.d, O.dL, Ro1, Ro2, Ro3, Ro4, Rd1, Rd2, Rd3, Rd4, Rf1, Rf2, Rf3, Rf4, iteB1, iteB2, iteR1, iteR, iteBl, iteIn, D.fl, D.flL, asB1, asO1, at21, getAll, setAll, unS, frz1, frzS, backS, bT1, bT2, bT3, bT4, bT5, bO1, bO2, bO3, bO4, bO5, bO6, bO7, bO8, bO9, C.d, oAdd, oSub, oMul1, oMul2, oMulC, oMod, oFdiv, itemsD, ixL, ixT, ai0, ai1, ai2, putL, xn0, xn1, xn2, cEq, cLt, cLe, cGt, cGe, cNe, addNL, addNR, start0_eq, mapS, mapD, foldO, pmapE, pmap, Tg.ids, Tgs.ids, biAll, LIM, ok_non, ok_bl, ok_int, ok_lst, ok_tup, okn_non, okn_bl, okn_int, okn_lst, okn_tup, okn_ints, okn_ints', flL_ints, mapOI, flL_mapI, eqv_int, eqv_bl, eqv_LI, eqD_LI, eqD_nilI, filterT, eqD_nil0, eqD_int, eqD_bl, cEqD, cNeD, cIn, cNin, cIs, cIsn, inD_LI, inD_nilI, ints?_map, ints?_ints, atI_map, atI_nat, cutL_map, slD_map, compL_map, compL_enum, rangeD_I, compG_some, compG_all, dL_sh, dL_sh', map_sh, foldI, foldI1, addL, -List.map_cons, -List.map_append, -List.map_map, -List.map_take, -List.map_drop, -List.map_reverse, Rd2, biLen, biLenT, biListL, biSorted, biMax2, biMin2, biInt, isD1, isD2] <;> rfl, _, .inl (by simp [evSs, evS, evX, evXs, evXan, evXor, evXo, evXc, evXt, evp, evs, evAnd, evOr, evo, evc, evi, ShR, AlR, shS, alS, O.pu, O.puL, O.d, O.dL, Ro1, Ro2, Ro3, Ro4, Rd1, Rd2, Rd3, Rd4, Rf1, Rf2, Rf3, Rf4, iteB1, iteB2, iteR1, iteR, iteBl, iteIn, D.fl, D.flL, asB1, asO1, at21, getAll, setAll, unS, frz1, frzS, backS, bT1, bT2, bT3, bT4, bT5, bO1, bO2, bO3, bO4, bO5, bO6, bO7, bO8, bO9, C.d, oAdd, oSub, oMul1, oMul2, oMulC, oMod, oFdiv, itemsD, ixL, ixT, ai0, ai1, ai2, putL, xn0, xn1, xn2, cEq, cLt, cLe, cGt, cGe, cNe, addNL, addNR, start0_eq, mapS, mapD, foldO, pmapE, pmap, Tg.ids, Tgs.ids, biAll, LIM, ok_non, ok_bl, ok_int, ok_lst, ok_tup, okn_non, okn_bl, okn_int, okn_lst, okn_tup, okn_ints, okn_ints', flL_ints, mapOI, flL_mapI, eqv_int, eqv_bl, eqv_LI, eqD_LI, eqD_nilI, filterT, eqD_nil0, eqD_int, eqD_bl, cEqD, cNeD, cIn, cNin, cIs, cIsn, inD_LI, inD_nilI, ints?_map, ints?_ints, atI_map, atI_nat, cutL_map, slD_map, compL_map, compL_enum, rangeD_I, compG_some, compG_all, dL_sh, dL_sh', map_sh, foldI, foldI1, addL, -List.map_cons, -List.map_append, -List.map_map, -List.map_take, -List.map_drop, -List.map_reverse, Rd2, biLen, biLenT, biListL, biSorted, biMax2, biMin2, biInt, isD1, isD2, G__law_run, Y__law_run_1, h3, hx', meD, hg2, hm1, hu1, hb1, h4, biSorted, hpl, lruS_hits, show pre.length < 100000 by omega, show t.length + 1 ≤ 100000 by omega] <;> rfl), ?_⟩
      refine ⟨?_⟩
      simp only [hdh, hdp, hl1, List.map_append, List.map_cons, List.map_nil, hx, decide_false]
      rw [hl1] at hd'
      refine ⟨t ++ [x], _, born', used', many', _, _, _, _, _, _, _, _, _, rfl, by simp [O.d, dL_sh, dL_sh', O.dL_eq], ?_, hu2, hb2, hm2, hmi', by simp [hpl], hd', hw'⟩
      rw [hst]
      exact (List.perm_append_singleton _ _).trans (List.Perm.cons x ht)
theorem p_run_lru {row : List Int} {places : Int} (hp : 0 < places) (hp2 : places ≤ 1000) (hr : row.length ≤ 1000) :
    ∃ plan : List D, pf F__law_run [.lst (row.map .int), .int places, .str ("lru" : String)] = some (.sh (.lst [.lst plan, .lst ((lruS places row).2.map fun b => .bl b)])) := by
  have loop := fo_enum (G := G__law_run) (tg := .tp (.cons (.nm 9) (.cons (.nm 10) .nil))) (it := .en (.p (.v 0))) (b := Y__law_run_1) (xs := row) (e := D.int)
    (ρ := [some (.sh (.lst (row.map .int))), some (.sh (.int places)), some (.sh (.str ("lru" : String))), some (.ol []), some (.oK [] []), some (.oK [] []), some (.oK [] []), some (.ol []), some (.ol []), none, none, none, none])
    (LruR row places) (by simp [evSs, evS, evX, evXs, evXan, evXor, evXo, evXc, evXt, evp, evs, evAnd, evOr, evo, evc, evi, ShR, AlR, shS, alS, O.pu, O.puL, O.d, O.dL, Ro1, Ro2, Ro3, Ro4, Rd1, Rd2, Rd3, Rd4, Rf1, Rf2, Rf3, Rf4, iteB1, iteB2, iteR1, iteR, iteBl, iteIn, D.fl, D.flL, asB1, asO1, at21, getAll, setAll, unS, frz1, frzS, backS, bT1, bT2, bT3, bT4, bT5, bO1, bO2, bO3, bO4, bO5, bO6, bO7, bO8, bO9, C.d, oAdd, oSub, oMul1, oMul2, oMulC, oMod, oFdiv, itemsD, ixL, ixT, ai0, ai1, ai2, putL, xn0, xn1, xn2, cEq, cLt, cLe, cGt, cGe, cNe, addNL, addNR, start0_eq, mapS, mapD, foldO, pmapE, pmap, Tg.ids, Tgs.ids, biAll, LIM, ok_non, ok_bl, ok_int, ok_lst, ok_tup, okn_non, okn_bl, okn_int, okn_lst, okn_tup, okn_ints, okn_ints', flL_ints, mapOI, flL_mapI, eqv_int, eqv_bl, eqv_LI, eqD_LI, eqD_nilI, filterT, eqD_nil0, eqD_int, eqD_bl, cEqD, cNeD, cIn, cNin, cIs, cIsn, inD_LI, inD_nilI, ints?_map, ints?_ints, atI_map, atI_nat, cutL_map, slD_map, compL_map, compL_enum, rangeD_I, compG_some, compG_all, dL_sh, dL_sh', map_sh, foldI, foldI1, addL, -List.map_cons, -List.map_append, -List.map_map, -List.map_take, -List.map_drop, -List.map_reverse, Rd2, biLen, biLenT, biListL, biSorted, biMax2, biMin2, biInt, isD1, isD2] <;> rfl) ⟨[], .ol [], _, _, _, [], none, none, none, none, _, _, _, fun _ => 0, rfl, rfl, .refl _, .nil, .nil, .nil, fun _ => ⟨0, rfl⟩, rfl, by simp [lruS], by simp [lruS]⟩
    fun pre x post ρ e h => lru_step hp hp2 hr e h
  obtain ⟨ρ', h1, t, a3, born, used, many, plan, j, k, l, m, f, fm, fb, u, rfl, h3, _⟩ := loop
  have h1' : evS G__law_run W__law_run_1 _ = _ := h1
  simp only [G__law_run] at h1'
  refine ⟨O.dL plan, ?_⟩
  unfold pf F__law_run runF
  simp [evSs, evS, evX, evXs, evXan, evXor, evXo, evXc, evXt, evp, evs, evAnd, evOr, evo, evc, evi, ShR, AlR, shS, alS, O.pu, O.puL, O.d, O.dL, Ro1, Ro2, Ro3, Ro4, Rd1, Rd2, Rd3, Rd4, Rf1, Rf2, Rf3, Rf4, iteB1, iteB2, iteR1, iteR, iteBl, iteIn, D.fl, D.flL, asB1, asO1, at21, getAll, setAll, unS, frz1, frzS, backS, bT1, bT2, bT3, bT4, bT5, bO1, bO2, bO3, bO4, bO5, bO6, bO7, bO8, bO9, C.d, oAdd, oSub, oMul1, oMul2, oMulC, oMod, oFdiv, itemsD, ixL, ixT, ai0, ai1, ai2, putL, xn0, xn1, xn2, cEq, cLt, cLe, cGt, cGe, cNe, addNL, addNR, start0_eq, mapS, mapD, foldO, pmapE, pmap, Tg.ids, Tgs.ids, biAll, LIM, ok_non, ok_bl, ok_int, ok_lst, ok_tup, okn_non, okn_bl, okn_int, okn_lst, okn_tup, okn_ints, okn_ints', flL_ints, mapOI, flL_mapI, eqv_int, eqv_bl, eqv_LI, eqD_LI, eqD_nilI, filterT, eqD_nil0, eqD_int, eqD_bl, cEqD, cNeD, cIn, cNin, cIs, cIsn, inD_LI, inD_nilI, ints?_map, ints?_ints, atI_map, atI_nat, cutL_map, slD_map, compL_map, compL_enum, rangeD_I, compG_some, compG_all, dL_sh, dL_sh', map_sh, foldI, foldI1, addL, -List.map_cons, -List.map_append, -List.map_map, -List.map_take, -List.map_drop, -List.map_reverse, Rd2, biLen, biLenT, biListL, biSorted, biMax2, biMin2, biInt, isD1, isD2, G__law_run, B__law_run, h1']
end Com
end KP
/-! KQf: general lemmas for walks through statements. -/
namespace KP
open PySem L2 Com
theorem step_nx {G : Cy} {s : S} {ss : Ss} {ρ ρ' : So} {X : Option Out} (h : evS G s ρ = some (.nx ρ')) (r : evSs G ss ρ' = X) : evSs G (.cons s ss) ρ = X := by
  simp only [evSs, h, Option.bind_some]; exact r
theorem step_rt {G : Cy} {s : S} {ss : Ss} {ρ ρ' : So} {o : O} (h : evS G s ρ = some (.rt o ρ')) : evSs G (.cons s ss) ρ = some (.rt o ρ') := by
  simp only [evSs, h, Option.bind_some]
theorem run_rt {G : Cy} {p n len : Nat} {B : Ss} {os os' : List O} {ds : List D} {o : O} {ρ ρ' : So} (h1 : os.length = p) (h2 : ds.length = n) (h0 : start0 os ds len = ρ) (h : evSs G B ρ = some (.rt o ρ')) (h3 : getAll ρ' (List.range p) = some os') : runF G p n len B os ds = some (o, os') := by
  unfold runF
  rw [if_pos ⟨h1, h2⟩, h0, h]
  simp [h3]
theorem dL_rows {xs : List (List Int)} : O.dL (xs.map fun c => .ol (c.map fun x => .sh (.int x))) = xs.map fun c => .lst (c.map .int) := by
  rw [O.dL_eq, List.map_map]; congr 1; funext c; simp [O.d, dL_sh]
def Ends (G : Cy) (B : Ss) (ρ : So) (o : O) (P : So → Prop) : Prop := ∃ ρ', evSs G B ρ = some (.rt o ρ') ∧ P ρ'
theorem Ends.nx {G : Cy} {s : S} {ss : Ss} {ρ ρ1 : So} {o : O} {P : So → Prop} (h : evS G s ρ = some (.nx ρ1)) (r : Ends G ss ρ1 o P) : Ends G (.cons s ss) ρ o P := by
  obtain ⟨ρ', h1, h2⟩ := r
  exact ⟨ρ', step_nx h h1, h2⟩
theorem Ends.rt {G : Cy} {s : S} {ss : Ss} {ρ ρ1 : So} {o : O} {P : So → Prop} (h : evS G s ρ = some (.rt o ρ1)) (r : P ρ1) : Ends G (.cons s ss) ρ o P := ⟨ρ1, step_rt h, r⟩
theorem compX_filter {α : Type} {e : α → D} {c : D → So → Option (Bool × So)} {f : D → So → Option (O × So)} {w : So → So} {xs : List α} {ρ : So} (p : α → Bool) (g : α → O)
    (h : ∀ x ∈ xs, ∃ ρ1, c (e x) ρ = some (p x, ρ1) ∧ w ρ1 = ρ ∧ (p x = true → ∃ ρ2, f (e x) ρ1 = some (g x, ρ2) ∧ w ρ2 = ρ)) : compX c f w (xs.map e) ρ = some ((xs.filter p).map g, ρ) := by
  induction xs with
  | nil => rfl
  | cons x xs ih =>
    have ih := ih fun y hy => h y (List.mem_cons_of_mem _ hy)
    obtain ⟨ρ1, h1, h2, h3⟩ := h x List.mem_cons_self
    rw [List.map_cons, compX, h1, Option.bind_some]
    by_cases hp : p x = true
    · obtain ⟨ρ2, h4, h5⟩ := h3 hp
      simp [hp, h4, h5, ih]
    · simp [hp, h2, ih]
theorem iran_nodup (a b : Int) : (iran a b).Nodup := by
  unfold iran
  rw [List.nodup_iff_pairwise_ne, List.pairwise_map]
  exact List.nodup_range.imp fun {x y} h => by omega
theorem pf_of {f : Fn} {ds : List D} {o : O} (h : f [] ds = some (o, [])) : pf f ds = some (.sh o.d) := by unfold pf; rw [h]
theorem snoc_ind {P : List Int → Prop} (h0 : P []) (h1 : ∀ pre x, P pre → P (pre ++ [x])) : ∀ pre, P pre := fun pre => by
  suffices ∀ xs : List Int, P xs.reverse by have := this pre.reverse; rwa [List.reverse_reverse] at this
  intro xs
  induction xs with
  | nil => exact h0
  | cons x xs ih => rw [List.reverse_cons]; exact h1 _ _ ih
def NxE (G : Cy) (B : Ss) (ρ : So) (P : So → Prop) : Prop := ∃ ρ', evSs G B ρ = some (.nx ρ') ∧ P ρ'
theorem NxE.nx {G : Cy} {s : S} {ss : Ss} {ρ ρ1 : So} {P : So → Prop} (h : evS G s ρ = some (.nx ρ1)) (r : NxE G ss ρ1 P) : NxE G (.cons s ss) ρ P := by
  obtain ⟨ρ', h1, h2⟩ := r
  exact ⟨ρ', step_nx h h1, h2⟩
theorem NxE.nil {G : Cy} {ρ : So} {P : So → Prop} (r : P ρ) : NxE G .nil ρ P := ⟨ρ, rfl, r⟩
end KP
/-! K46a: the law's defs as forms; each keeps its promise. -/
namespace KP
namespace L46
open PySem L2 Com
def topS (i : Nat) : Stmt := PySem.Challenge.pw_keptathand_k46_whole_lists_and_fronts.main.body.getD i (.Pass ⟨0, 0, 0, 0⟩)
/-! is_list_for -/
def N_is_list_for : List Str := ["row", "value", "thing"]
def M_is_list_for : Nx := ⟨⟨N_is_list_for, [("is_thing", 1)], [], [], ["isinstance", "len", "list", "set"], none⟩, 0, []⟩
def B_is_list_for : Ss := (.cons (.ite (.p (.or (.cons (.nt (.isi (.v 1) .list)) (.cons (.c2 .ne (.co (.nm 2) (.sq (.v 1)) (.so (.nt (.ca 0 (.cons (.v 2) .nil)))) (.v 2)) (.lst .nil)) .nil)))) (.cons (.ret (.p (.k (.bl false)))) .nil) .nil) (.cons (.ret (.p (.an (.cons (.c2 .eq (.lenset (.v 1)) (.bi .len (.cons (.v 1) .nil))) (.cons (.c2 .eq (.co (.nm 2) (.sq (.v 0)) (.so (.c2 .nin (.v 2) (.v 1))) (.v 2)) (.lst .nil)) .nil))))) .nil))
def G_is_list_for : Cy := ⟨⟨[pf (F_is_thing)], [], []⟩, []⟩
def F_is_list_for : Fn := runF G_is_list_for 0 2 3 B_is_list_for
/-! check_list -/
def N_check_list : List Str := ["row", "order"]
def M_check_list : Nx := ⟨⟨N_check_list, [("is_list_for", 2)], [], [], [], none⟩, 0, []⟩
def B_check_list : Ss := (.cons (.ite (.p (.nt (.ca 0 (.cons (.v 0) (.cons (.v 1) .nil))))) (.cons .bad .nil) .nil) .nil)
def G_check_list : Cy := ⟨⟨[pf (F_is_list_for)], [], []⟩, []⟩
def F_check_list : Fn := runF G_check_list 0 2 2 B_check_list
/-! fixed_of -/
def N_fixed_of : List Str := ["row", "order", "thing"]
def M_fixed_of : Nx := ⟨⟨N_fixed_of, [], [], [], [], none⟩, 0, []⟩
def B_fixed_of : Ss := (.cons (.ret (.p (.co (.nm 2) (.sq (.v 0)) .no (.b2 .add (.me .index (.v 1) (.cons (.v 2) .nil)) (.k (.int 1)))))) .nil)
def G_fixed_of : Cy := ⟨⟨[], [], []⟩, []⟩
def F_fixed_of : Fn := runF G_fixed_of 0 2 3 B_fixed_of
/-! fixed_costs -/
def N_fixed_costs : List Str := ["row", "order"]
def M_fixed_costs : Nx := ⟨⟨N_fixed_costs, [("check_row", 1), ("check_list", 2)], [], [], [], none⟩, 0, [("fixed_of", 0, 2)]⟩
def B_fixed_costs : Ss := (.cons (.ex (.p (.ca 0 (.cons (.v 0) .nil)))) (.cons (.ex (.p (.ca 1 (.cons (.v 0) (.cons (.v 1) .nil))))) (.cons (.ret (.io 0 [] (.cons (.p (.v 0)) (.cons (.p (.v 1)) .nil)))) .nil)))
def G_fixed_costs : Cy := ⟨⟨[pf (F_check_row), pf (F_check_list)], [], []⟩, [(F_fixed_of)]⟩
def F_fixed_costs : Fn := runF G_fixed_costs 0 2 2 B_fixed_costs
/-! moved_of -/
def N_moved_of : List Str := ["row", "order", "there", "costs", "thing", "other"]
def M_moved_of : Nx := ⟨⟨N_moved_of, [], [], [], ["list"], none⟩, 0, []⟩
def Y_moved_of_1 : Ss := (.cons (.app 3 (.q (.b2 .add (.me .index (.v 2) (.cons (.v 4) .nil)) (.k (.int 1))))) (.cons (.set 2 (.q (.b2 .add (.lst (.cons (.v 4) .nil)) (.co (.nm 5) (.sq (.v 2)) (.so (.c2 .ne (.v 5) (.v 4))) (.v 5))))) .nil))
def W_moved_of_1 : S := (.fo (.nm 4) (.sq (.p (.v 0))) Y_moved_of_1)
def B_moved_of : Ss := (.cons (.set 2 (.p (.bi .list (.cons (.v 1) .nil)))) (.cons (.set 3 (.p (.lst .nil))) (.cons W_moved_of_1 (.cons (.ret (.tup (.cons (.mv 3) (.cons (.mv 2) .nil)))) .nil))))
def G_moved_of : Cy := ⟨⟨[], [], []⟩, []⟩
def F_moved_of : Fn := runF G_moved_of 0 2 6 B_moved_of
/-! front_costs -/
def N_front_costs : List Str := ["row", "order"]
def M_front_costs : Nx := ⟨⟨N_front_costs, [("check_row", 1), ("check_list", 2)], [], [], [], none⟩, 0, [("moved_of", 0, 2)]⟩
def B_front_costs : Ss := (.cons (.ex (.p (.ca 0 (.cons (.v 0) .nil)))) (.cons (.ex (.p (.ca 1 (.cons (.v 0) (.cons (.v 1) .nil))))) (.cons (.ret (.ixo (.io 0 [] (.cons (.p (.v 0)) (.cons (.p (.v 1)) .nil))) 0)) .nil)))
def G_front_costs : Cy := ⟨⟨[pf (F_check_row), pf (F_check_list)], [], []⟩, [(F_moved_of)]⟩
def F_front_costs : Fn := runF G_front_costs 0 2 2 B_front_costs
/-! swapped_costs -/
def N_swapped_costs : List Str := ["row", "order", "there", "costs", "thing", "at"]
def M_swapped_costs : Nx := ⟨⟨N_swapped_costs, [("check_row", 1), ("check_list", 2)], [], [], ["list"], none⟩, 0, []⟩
def Y_swapped_costs_1 : Ss := (.cons (.set 5 (.q (.me .index (.v 2) (.cons (.v 4) .nil)))) (.cons (.app 3 (.p (.b2 .add (.v 5) (.k (.int 1))))) (.cons (.ite (.p (.c2 .gt (.v 5) (.k (.int 0)))) (.cons (.swp 2 (.b2 .sub (.v 5) (.k (.int 1))) (.v 5)) .nil) .nil) .nil)))
def W_swapped_costs_1 : S := (.fo (.nm 4) (.sq (.p (.v 0))) Y_swapped_costs_1)
def B_swapped_costs : Ss := (.cons (.ex (.p (.ca 0 (.cons (.v 0) .nil)))) (.cons (.ex (.p (.ca 1 (.cons (.v 0) (.cons (.v 1) .nil))))) (.cons (.set 2 (.p (.bi .list (.cons (.v 1) .nil)))) (.cons (.set 3 (.p (.lst .nil))) (.cons W_swapped_costs_1 (.cons (.ret (.mv 3)) .nil))))))
def G_swapped_costs : Cy := ⟨⟨[pf (F_check_row), pf (F_check_list)], [], []⟩, []⟩
def F_swapped_costs : Fn := runF G_swapped_costs 0 2 6 B_swapped_costs
/-! things_of -/
def N_things_of : List Str := ["row"]
def M_things_of : Nx := ⟨⟨N_things_of, [], [], [], ["set", "sorted"], none⟩, 0, []⟩
def B_things_of : Ss := (.cons (.ret (.p (.ss (.v 0)))) .nil)
def G_things_of : Cy := ⟨⟨[], [], []⟩, []⟩
def F_things_of : Fn := runF G_things_of 0 1 1 B_things_of
/-! best_fixed -/
def N_best_fixed : List Str := ["row"]
def M_best_fixed : Nx := ⟨⟨N_best_fixed, [("check_row", 1), ("things_of", 1)], [], [], ["sorted"], some "best_fixed.<locals>.<lambda>"⟩, 0, []⟩
def B_best_fixed : Ss := (.cons (.ex (.p (.ca 0 (.cons (.v 0) .nil)))) (.cons (.ret (.p (.sk (.ca 1 (.cons (.v 0) .nil)) 0))) .nil))
def G_best_fixed : Cy := ⟨⟨[pf (F_check_row), pf (F_things_of)], [], []⟩, []⟩
def F_best_fixed : Fn := runF G_best_fixed 0 1 1 B_best_fixed
/-! pair_of -/
def N_pair_of : List Str := ["row", "order", "thing", "other", "asks", "there", "pair", "front"]
def M_pair_of : Nx := ⟨⟨N_pair_of, [("moved_of", 2), ("fixed_of", 2)], [], [], ["len", "sum"], none⟩, 0, []⟩
def B_pair_of : Ss := (.cons (.set 4 (.p (.co (.nm 5) (.sq (.v 0)) (.so (.c2 .inn (.v 5) (.tup (.cons (.v 2) (.cons (.v 3) .nil))))) (.v 5)))) (.cons (.set 6 (.p (.co (.nm 5) (.sq (.v 1)) (.so (.c2 .inn (.v 5) (.tup (.cons (.v 2) (.cons (.v 3) .nil))))) (.v 5)))) (.cons (.set 7 (.q (.b2 .sub (.bi .sum (.cons (.ix (.ca 0 (.cons (.v 4) (.cons (.v 6) .nil))) (.k (.int 0))) .nil)) (.bi .len (.cons (.v 4) .nil))))) (.cons (.ret (.q (.tup (.cons (.v 7) (.cons (.b2 .sub (.bi .sum (.cons (.ca 1 (.cons (.v 4) (.cons (.v 6) .nil))) .nil)) (.bi .len (.cons (.v 4) .nil))) .nil))))) .nil))))
def G_pair_of : Cy := ⟨⟨[pf (F_moved_of), pf (F_fixed_of)], [], []⟩, []⟩
def F_pair_of : Fn := runF G_pair_of 0 4 8 B_pair_of
/-! pair_costs -/
def N_pair_costs : List Str := ["row", "order", "thing", "other_thing"]
def M_pair_costs : Nx := ⟨⟨N_pair_costs, [("check_row", 1), ("check_list", 2), ("is_thing", 1), ("pair_of", 4)], [], [], [], none⟩, 0, []⟩
def B_pair_costs : Ss := (.cons (.ex (.p (.ca 0 (.cons (.v 0) .nil)))) (.cons (.ex (.p (.ca 1 (.cons (.v 0) (.cons (.v 1) .nil))))) (.cons (.ite (.p (.or (.cons (.c2 .nin (.v 2) (.v 1)) (.cons (.nt (.ca 2 (.cons (.v 2) .nil))) .nil)))) (.cons .bad .nil) .nil) (.cons (.ite (.p (.or (.cons (.c2 .nin (.v 3) (.v 1)) (.cons (.nt (.ca 2 (.cons (.v 3) .nil))) (.cons (.c2 .eq (.v 3) (.v 2)) .nil))))) (.cons .bad .nil) .nil) (.cons (.ret (.p (.ca 3 (.cons (.v 0) (.cons (.v 1) (.cons (.v 2) (.cons (.v 3) .nil))))))) .nil)))))
def G_pair_costs : Cy := ⟨⟨[pf (F_check_row), pf (F_check_list), pf (F_is_thing), pf (F_pair_of)], [], []⟩, []⟩
def F_pair_costs : Fn := runF G_pair_costs 0 4 4 B_pair_costs
/-! sums_by_pairs -/
def N_sums_by_pairs : List Str := ["row", "order", "front", "fixed", "at", "thing", "other", "pair"]
def M_sums_by_pairs : Nx := ⟨⟨N_sums_by_pairs, [("check_row", 1), ("check_list", 2), ("pair_of", 4)], [], [], ["enumerate", "len"], none⟩, 0, []⟩
def Y_sums_by_pairs_1 : Ss := (.cons (.set 7 (.p (.ca 2 (.cons (.v 0) (.cons (.v 1) (.cons (.v 5) (.cons (.v 6) .nil))))))) (.cons (.set 2 (.p (.b2 .add (.v 2) (.ix (.v 7) (.k (.int 0)))))) (.cons (.set 3 (.p (.b2 .add (.v 3) (.ix (.v 7) (.k (.int 1)))))) .nil)))
def W_sums_by_pairs_1 : S := (.fo (.nm 6) (.sq (.p (.sl (.v 1) .no (.so (.v 4))))) Y_sums_by_pairs_1)
def Y_sums_by_pairs_2 : Ss := (.cons W_sums_by_pairs_1 .nil)
def W_sums_by_pairs_2 : S := (.fo (.tp (.cons (.nm 4) (.cons (.nm 5) .nil))) (.en (.p (.v 1))) Y_sums_by_pairs_2)
def B_sums_by_pairs : Ss := (.cons (.ex (.p (.ca 0 (.cons (.v 0) .nil)))) (.cons (.ex (.p (.ca 1 (.cons (.v 0) (.cons (.v 1) .nil))))) (.cons (.set 2 (.p (.bi .len (.cons (.v 0) .nil)))) (.cons (.set 3 (.p (.bi .len (.cons (.v 0) .nil)))) (.cons W_sums_by_pairs_2 (.cons (.ret (.p (.tup (.cons (.v 2) (.cons (.v 3) .nil))))) .nil))))))
def G_sums_by_pairs : Cy := ⟨⟨[pf (F_check_row), pf (F_check_list), pf (F_pair_of)], [], []⟩, []⟩
def F_sums_by_pairs : Fn := runF G_sums_by_pairs 0 2 8 B_sums_by_pairs
/-! front_bound -/
def N_front_bound : List Str := ["row", "order"]
def M_front_bound : Nx := ⟨⟨N_front_bound, [("check_row", 1), ("check_list", 2), ("fixed_of", 2)], [], [], ["len", "sum"], none⟩, 0, []⟩
def B_front_bound : Ss := (.cons (.ex (.p (.ca 0 (.cons (.v 0) .nil)))) (.cons (.ex (.p (.ca 1 (.cons (.v 0) (.cons (.v 1) .nil))))) (.cons (.ret (.p (.b2 .sub (.b2 .mul (.k (.int 2)) (.bi .sum (.cons (.ca 2 (.cons (.v 0) (.cons (.v 1) .nil))) .nil))) (.bi .len (.cons (.v 0) .nil))))) .nil)))
def G_front_bound : Cy := ⟨⟨[pf (F_check_row), pf (F_check_list), pf (F_fixed_of)], [], []⟩, []⟩
def F_front_bound : Fn := runF G_front_bound 0 2 2 B_front_bound
/-! out_of_order -/
def N_out_of_order : List Str := ["row", "order", "ask", "there", "found", "at", "thing", "other"]
def M_out_of_order : Nx := ⟨⟨N_out_of_order, [], [], [], ["enumerate"], none⟩, 0, [("moved_of", 0, 2)]⟩
def Y_out_of_order_1 : Ss := (.cons (.set 4 (.q (.b2 .add (.v 4) (.co (.nm 7) (.sq (.sl (.v 3) (.so (.b2 .add (.v 5) (.k (.int 1)))) .no)) (.so (.c2 .lt (.me .index (.v 1) (.cons (.v 7) .nil)) (.me .index (.v 1) (.cons (.v 6) .nil)))) (.tup (.cons (.v 6) (.cons (.v 7) .nil))))))) .nil)
def W_out_of_order_1 : S := (.fo (.tp (.cons (.nm 5) (.cons (.nm 6) .nil))) (.en (.z [3] (.p (.v 3)))) Y_out_of_order_1)
def B_out_of_order : Ss := (.cons (.set 3 (.ixo (.io 0 [] (.cons (.p (.sl (.v 0) .no (.so (.v 2)))) (.cons (.p (.v 1)) .nil))) 1)) (.cons (.set 4 (.p (.lst .nil))) (.cons W_out_of_order_1 (.cons (.ret (.mv 4)) .nil))))
def G_out_of_order : Cy := ⟨⟨[], [], []⟩, [(F_moved_of)]⟩
def F_out_of_order : Fn := runF G_out_of_order 0 3 8 B_out_of_order
/-! potentials -/
def N_potentials : List Str := ["row", "order", "ask"]
def M_potentials : Nx := ⟨⟨N_potentials, [("check_row", 1), ("check_list", 2), ("out_of_order", 3)], [], [], ["len", "range"], none⟩, 0, []⟩
def B_potentials : Ss := (.cons (.ex (.p (.ca 0 (.cons (.v 0) .nil)))) (.cons (.ex (.p (.ca 1 (.cons (.v 0) (.cons (.v 1) .nil))))) (.cons (.ret (.p (.co (.nm 2) (.r1 (.b2 .add (.bi .len (.cons (.v 0) .nil)) (.k (.int 1)))) .no (.bi .len (.cons (.ca 2 (.cons (.v 0) (.cons (.v 1) (.cons (.v 2) .nil)))) .nil))))) .nil)))
def G_potentials : Cy := ⟨⟨[pf (F_check_row), pf (F_check_list), pf (F_out_of_order)], [], []⟩, []⟩
def F_potentials : Fn := runF G_potentials 0 2 3 B_potentials
/-! front_list -/
def N_front_list : List Str := ["row", "order"]
def M_front_list : Nx := ⟨⟨N_front_list, [("check_row", 1), ("check_list", 2)], [], [], [], none⟩, 0, [("moved_of", 0, 2)]⟩
def B_front_list : Ss := (.cons (.ex (.p (.ca 0 (.cons (.v 0) .nil)))) (.cons (.ex (.p (.ca 1 (.cons (.v 0) (.cons (.v 1) .nil))))) (.cons (.ret (.ixo (.io 0 [] (.cons (.p (.v 0)) (.cons (.p (.v 1)) .nil))) 1)) .nil)))
def G_front_list : Cy := ⟨⟨[pf (F_check_row), pf (F_check_list)], [], []⟩, [(F_moved_of)]⟩
def F_front_list : Fn := runF G_front_list 0 2 2 B_front_list
/-! _law_copied -/
def N__law_copied : List Str := ["thing", "part"]
def M__law_copied : Nx := ⟨⟨N__law_copied, [("_law_copied", 1)], [], [], ["isinstance", "list", "tuple"], none⟩, 0, []⟩
def B__law_copied : Ss := (.cons (.ite (.p (.isi (.v 0) .list)) (.cons (.ret (.p (.co (.nm 1) (.sq (.v 0)) .no (.ca 0 (.cons (.v 1) .nil))))) .nil) .nil) (.cons (.ret (.p (.ife (.isi (.v 0) .tuple) (.bi .tuple (.cons (.co (.nm 1) (.sq (.v 0)) .no (.ca 0 (.cons (.v 1) .nil))) .nil)) (.v 0)))) .nil))
def F__law_copied : Nat → Fn
  | 0 => fun _ _ => none
  | n + 1 => runF ⟨⟨[pf (F__law_copied n)], [], []⟩, []⟩ 0 1 2 B__law_copied
/-! _law_front -/
def N__law_front : List Str := ["row", "order", "there", "costs", "lists", "thing", "at"]
def M__law_front : Nx := ⟨⟨N__law_front, [], [], [], ["list"], none⟩, 0, []⟩
def Y__law_front_1 : Ss := (.cons (.set 6 (.q (.me .index (.v 2) (.cons (.v 5) .nil)))) (.cons (.app 3 (.p (.b2 .add (.v 6) (.k (.int 1))))) (.cons (.set 2 (.q (.b2 .add (.b2 .add (.lst (.cons (.v 5) .nil)) (.sl (.v 2) .no (.so (.v 6)))) (.sl (.v 2) (.so (.b2 .add (.v 6) (.k (.int 1)))) .no)))) (.cons (.app 4 (.z [2] (.p (.v 2)))) .nil))))
def W__law_front_1 : S := (.fo (.nm 5) (.sq (.p (.v 0))) Y__law_front_1)
def B__law_front : Ss := (.cons (.par3 2 3 4 (.p (.bi .list (.cons (.v 1) .nil))) (.p (.lst .nil)) (.p (.lst (.cons (.bi .list (.cons (.v 1) .nil)) .nil)))) (.cons W__law_front_1 (.cons (.ret (.lst (.cons (.mv 3) (.cons (.mv 4) .nil)))) .nil)))
def G__law_front : Cy := ⟨⟨[], [], []⟩, []⟩
def F__law_front : Fn := runF G__law_front 0 2 7 B__law_front
/-! _law_swapped -/
def N__law_swapped : List Str := ["row", "order", "there", "costs", "thing", "at"]
def M__law_swapped : Nx := ⟨⟨N__law_swapped, [], [], [], ["list"], none⟩, 0, []⟩
def Y__law_swapped_1 : Ss := (.cons (.set 5 (.q (.me .index (.v 2) (.cons (.v 4) .nil)))) (.cons (.app 3 (.p (.b2 .add (.v 5) (.k (.int 1))))) (.cons (.ite (.p (.c2 .gt (.v 5) (.k (.int 0)))) (.cons (.set 2 (.q (.b2 .add (.b2 .add (.sl (.v 2) .no (.so (.b2 .sub (.v 5) (.k (.int 1))))) (.lst (.cons (.v 4) (.cons (.ix (.v 2) (.b2 .sub (.v 5) (.k (.int 1)))) .nil)))) (.sl (.v 2) (.so (.b2 .add (.v 5) (.k (.int 1)))) .no)))) .nil) .nil) .nil)))
def W__law_swapped_1 : S := (.fo (.nm 4) (.sq (.p (.v 0))) Y__law_swapped_1)
def B__law_swapped : Ss := (.cons (.par2 2 3 (.p (.bi .list (.cons (.v 1) .nil))) (.p (.lst .nil))) (.cons W__law_swapped_1 (.cons (.ret (.mv 3)) .nil)))
def G__law_swapped : Cy := ⟨⟨[], [], []⟩, []⟩
def F__law_swapped : Fn := runF G__law_swapped 0 2 6 B__law_swapped
/-! _law_otherwise -/
def N__law_otherwise : List Str := ["there", "order", "found", "at", "thing", "other"]
def M__law_otherwise : Nx := ⟨⟨N__law_otherwise, [], [], [], ["enumerate", "len"], none⟩, 0, []⟩
def Y__law_otherwise_1 : Ss := (.cons (.set 2 (.p (.b2 .add (.v 2) (.bi .len (.cons (.co (.nm 5) (.sq (.sl (.v 0) (.so (.b2 .add (.v 3) (.k (.int 1)))) .no)) (.so (.c2 .lt (.me .index (.v 1) (.cons (.v 5) .nil)) (.me .index (.v 1) (.cons (.v 4) .nil)))) (.v 5)) .nil))))) .nil)
def W__law_otherwise_1 : S := (.fo (.tp (.cons (.nm 3) (.cons (.nm 4) .nil))) (.en (.p (.v 0))) Y__law_otherwise_1)
def B__law_otherwise : Ss := (.cons (.set 2 (.p (.k (.int 0)))) (.cons W__law_otherwise_1 (.cons (.ret (.p (.v 2))) .nil)))
def G__law_otherwise : Cy := ⟨⟨[], [], []⟩, []⟩
def F__law_otherwise : Fn := runF G__law_otherwise 0 2 6 B__law_otherwise
/-! _law_pair -/
def N__law_pair : List Str := ["row", "order", "one", "two", "asks", "pair", "thing", "behind", "first"]
def M__law_pair : Nx := ⟨⟨N__law_pair, [], [], [], ["int", "len"], none⟩, 0, []⟩
def Y__law_pair_1 : Ss := (.cons (.set 7 (.p (.b2 .add (.v 7) (.bi .int (.cons (.c2 .ne (.v 6) (.v 8)) .nil))))) (.cons (.set 8 (.p (.v 6))) .nil))
def W__law_pair_1 : S := (.fo (.nm 6) (.sq (.z [4] (.p (.v 4)))) Y__law_pair_1)
def B__law_pair : Ss := (.cons (.unp (.tp (.cons (.nm 4) (.cons (.nm 5) .nil))) (.tup (.cons (.p (.co (.nm 6) (.sq (.v 0)) (.so (.c2 .inn (.v 6) (.tup (.cons (.v 2) (.cons (.v 3) .nil))))) (.v 6))) (.cons (.p (.co (.nm 6) (.sq (.v 1)) (.so (.c2 .inn (.v 6) (.tup (.cons (.v 2) (.cons (.v 3) .nil))))) (.v 6))) .nil)))) (.cons (.par2 7 8 (.p (.k (.int 0))) (.q (.ix (.v 5) (.k (.int 0))))) (.cons W__law_pair_1 (.cons (.ret (.q (.tup (.cons (.v 7) (.cons (.bi .len (.cons (.co (.nm 6) (.sq (.v 4)) (.so (.c2 .eq (.v 6) (.ix (.v 5) (.k (.int 1))))) (.v 6)) .nil)) .nil))))) .nil))))
def G__law_pair : Cy := ⟨⟨[], [], []⟩, []⟩
def F__law_pair : Fn := runF G__law_pair 0 4 9 B__law_pair
/-! _law_orders -/
def N__law_orders : List Str := ["things", "found", "at", "more"]
def M__law_orders : Nx := ⟨⟨N__law_orders, [("_law_orders", 1)], [], [], ["len", "range"], none⟩, 0, []⟩
def Y__law_orders_1 : Ss := (.cons (.set 1 (.z [1] (.p (.b2 .add (.v 1) (.co (.nm 3) (.sq (.ca 0 (.cons (.b2 .add (.sl (.v 0) .no (.so (.v 2))) (.sl (.v 0) (.so (.b2 .add (.v 2) (.k (.int 1)))) .no)) .nil))) .no (.b2 .add (.lst (.cons (.ix (.v 0) (.v 2)) .nil)) (.v 3))))))) .nil)
def W__law_orders_1 : S := (.fo (.nm 2) (.r1 (.p (.bi .len (.cons (.v 0) .nil)))) Y__law_orders_1)
def B__law_orders : Ss := (.cons (.ite (.p (.c2 .eq (.v 0) (.lst .nil))) (.cons (.ret (.p (.lst (.cons (.lst .nil) .nil)))) .nil) .nil) (.cons (.set 1 (.p (.lst .nil))) (.cons W__law_orders_1 (.cons (.ret (.mv 1)) .nil))))
def F__law_orders : Nat → Fn
  | 0 => fun _ _ => none
  | n + 1 => runF ⟨⟨[pf (F__law_orders n)], [], []⟩, []⟩ 0 1 4 B__law_orders
/-! _law_case_right -/
def N__law_case_right : List Str := ["generator", "row", "order", "noted", "fixed", "costs", "lists", "swapped", "thing", "told", "named", "there", "rises", "bound", "ask", "cost", "sums", "turn", "one", "two", "due", "best", "things", "least"]
def M__law_case_right : Nx := ⟨⟨N__law_case_right, [("_law_copied", 1), ("_law_swapped", 2), ("_law_exact", 2), ("_law_otherwise", 2), ("potentials", 2), ("front_bound", 2), ("sums_by_pairs", 2), ("_law_pair", 4), ("pair_costs", 4), ("best_fixed", 1), ("_law_orders", 1)], [("fixed_costs", ["order", "row"]), ("front_costs", ["order", "row"]), ("front_list", ["order", "row"]), ("swapped_costs", ["order", "row"]), ("potentials", ["order", "row"]), ("front_bound", ["order", "row"]), ("sums_by_pairs", ["order", "row"]), ("pair_costs", ["other_thing", "thing", "order", "row"]), ("best_fixed", ["row"])], [], ["enumerate", "len", "min", "range", "set", "sorted", "sum"], some "_law_case_right.<locals>.<lambda>"⟩, 1, [("_law_front", 0, 2), ("fixed_costs", 0, 2), ("front_costs", 0, 2), ("front_list", 0, 2), ("swapped_costs", 0, 2), ("_law_drawn_order", 1, 1)]⟩
def Y__law_case_right_1 : Ss := (.cons (.ite (.q (.c2 .gt (.b2 .sub (.b2 .add (.v 15) (.ix (.v 12) (.b2 .add (.v 14) (.k (.int 1))))) (.ix (.v 12) (.v 14))) (.b2 .sub (.b2 .mul (.k (.int 2)) (.ix (.v 4) (.v 14))) (.k (.int 1))))) (.cons (.ret (.p (.k (.bl false)))) .nil) .nil) .nil)
def W__law_case_right_1 : S := (.fo (.tp (.cons (.nm 14) (.cons (.nm 15) .nil))) (.en (.z [5] (.p (.v 5)))) Y__law_case_right_1)
def Y__law_case_right_2 : Ss := (.cons (.unp (.tp (.cons (.nm 18) (.cons (.nm 19) .nil))) (.sl (.io 5 [0] (.cons (.p (.v 2)) .nil)) .no (.so (.p (.k (.int 2)))))) (.cons (.set 20 (.p (.ca 7 (.cons (.v 1) (.cons (.v 2) (.cons (.v 18) (.cons (.v 19) .nil))))))) (.cons (.ite (.p (.nt (.ca 2 (.cons (.lst (.cons (.ca 8 (.cons (.v 1) (.cons (.v 2) (.cons (.v 18) (.cons (.v 19) .nil))))) (.cons (.ck 7 (.cons (.v 18) (.cons (.v 19) (.cons (.v 2) (.cons (.v 1) .nil))))) .nil))) (.cons (.lst (.cons (.v 20) (.cons (.v 20) .nil))) .nil))))) (.cons (.ret (.p (.k (.bl false)))) .nil) .nil) .nil)))
def W__law_case_right_2 : S := (.fo (.nm 17) (.r1 (.p (.k (.int 3)))) Y__law_case_right_2)
def B__law_case_right : Ss := (.cons (.unp (.tp (.cons (.nm 3) (.cons (.nm 4) (.cons (.tp (.cons (.nm 5) (.cons (.nm 6) .nil))) (.cons (.nm 7) .nil))))) (.tup (.cons (.p (.ca 0 (.cons (.lst (.cons (.v 1) (.cons (.v 2) .nil))) .nil))) (.cons (.p (.co (.nm 8) (.sq (.v 1)) .no (.b2 .add (.me .index (.v 2) (.cons (.v 8) .nil)) (.k (.int 1))))) (.cons (.io 0 [] (.cons (.p (.v 1)) (.cons (.p (.v 2)) .nil))) (.cons (.p (.ca 1 (.cons (.v 1) (.cons (.v 2) .nil)))) .nil)))))) (.cons (.set 9 (.lst (.cons (.io 1 [] (.cons (.p (.v 1)) (.cons (.p (.v 2)) .nil))) (.cons (.io 2 [] (.cons (.p (.v 1)) (.cons (.p (.v 2)) .nil))) (.cons (.io 3 [] (.cons (.p (.v 1)) (.cons (.p (.v 2)) .nil))) (.cons (.io 4 [] (.cons (.p (.v 1)) (.cons (.p (.v 2)) .nil))) .nil)))))) (.cons (.set 10 (.p (.lst (.cons (.ck 0 (.cons (.v 2) (.cons (.v 1) .nil))) (.cons (.ck 1 (.cons (.v 2) (.cons (.v 1) .nil))) (.cons (.ck 2 (.cons (.v 2) (.cons (.v 1) .nil))) (.cons (.ck 3 (.cons (.v 2) (.cons (.v 1) .nil))) .nil))))))) (.cons (.ite (.q (.nt (.ca 2 (.cons (.b2 .add (.b2 .add (.v 9) (.v 10)) (.lst (.cons (.lst (.cons (.v 1) (.cons (.v 2) .nil))) .nil))) (.cons (.lst (.cons (.v 4) (.cons (.v 5) (.cons (.ix (.v 6) (.neg (.k (.int 1)))) (.cons (.v 7) (.cons (.v 4) (.cons (.v 5) (.cons (.ix (.v 6) (.neg (.k (.int 1)))) (.cons (.v 7) (.cons (.v 3) .nil)))))))))) .nil))))) (.cons (.ret (.p (.k (.bl false)))) .nil) .nil) (.cons (.aa 9 11 1) (.cons (.set 12 (.q (.co (.nm 11) (.sq (.v 6)) .no (.ca 3 (.cons (.v 11) (.cons (.v 2) .nil)))))) (.cons (.set 13 (.q (.b2 .sub (.b2 .mul (.k (.int 2)) (.bi .sum (.cons (.v 4) .nil))) (.bi .len (.cons (.v 1) .nil))))) (.cons (.ite (.q (.or (.cons (.nt (.ca 2 (.cons (.lst (.cons (.ca 4 (.cons (.v 1) (.cons (.v 2) .nil))) (.cons (.ca 5 (.cons (.v 1) (.cons (.v 2) .nil))) (.cons (.ck 4 (.cons (.v 2) (.cons (.v 1) .nil))) (.cons (.ck 5 (.cons (.v 2) (.cons (.v 1) .nil))) .nil))))) (.cons (.lst (.cons (.v 12) (.cons (.v 13) (.cons (.v 12) (.cons (.v 13) .nil))))) .nil)))) (.cons (.c2 .gt (.bi .sum (.cons (.v 5) .nil)) (.v 13)) .nil)))) (.cons (.ret (.p (.k (.bl false)))) .nil) .nil) (.cons W__law_case_right_1 (.cons (.set 16 (.q (.tup (.cons (.bi .sum (.cons (.v 5) .nil)) (.cons (.bi .sum (.cons (.v 4) .nil)) .nil))))) (.cons (.ite (.p (.nt (.ca 2 (.cons (.lst (.cons (.ca 6 (.cons (.v 1) (.cons (.v 2) .nil))) (.cons (.ck 6 (.cons (.v 2) (.cons (.v 1) .nil))) .nil))) (.cons (.lst (.cons (.v 16) (.cons (.v 16) .nil))) .nil))))) (.cons (.ret (.p (.k (.bl false)))) .nil) .nil) (.cons (.ite (.p (.c2 .gt (.bi .len (.cons (.v 2) .nil)) (.k (.int 1)))) (.cons W__law_case_right_2 .nil) .nil) (.cons (.set 21 (.p (.ca 9 (.cons (.v 1) .nil)))) (.cons (.set 22 (.p (.ss (.v 1)))) (.cons (.ite (.q (.or (.cons (.c2 .ne (.v 21) (.sk (.v 22) 1)) (.cons (.nt (.ca 2 (.cons (.ck 8 (.cons (.v 1) .nil)) (.cons (.v 21) .nil)))) .nil)))) (.cons (.ret (.p (.k (.bl false)))) .nil) .nil) (.cons (.ite (.q (.c2 .lt (.bi .len (.cons (.v 22) .nil)) (.k (.int 6)))) (.cons (.set 23 (.q (.bi .min (.cons (.co (.nm 11) (.sq (.ca 10 (.cons (.v 22) .nil))) .no (.bi .sum (.cons (.co (.nm 8) (.sq (.v 1)) .no (.b2 .add (.me .index (.v 11) (.cons (.v 8) .nil)) (.k (.int 1)))) .nil))) .nil)))) (.cons (.ite (.p (.c2 .ne (.bi .sum (.cons (.co (.nm 8) (.sq (.v 1)) .no (.b2 .add (.me .index (.v 21) (.cons (.v 8) .nil)) (.k (.int 1)))) .nil)) (.v 23))) (.cons (.ret (.p (.k (.bl false)))) .nil) .nil) .nil)) .nil) (.cons (.ret (.p (.k (.bl true)))) .nil)))))))))))))))))
def G__law_case_right : Cy := ⟨⟨[pf (F__law_copied 4), pf (F__law_swapped), pf (F__law_exact 8), pf (F__law_otherwise), pf (F_potentials), pf (F_front_bound), pf (F_sums_by_pairs), pf (F__law_pair), pf (F_pair_costs), pf (F_best_fixed), pf (F__law_orders 7)], [([1, 0], pf (F_fixed_costs)), ([1, 0], pf (F_front_costs)), ([1, 0], pf (F_front_list)), ([1, 0], pf (F_swapped_costs)), ([1, 0], pf (F_potentials)), ([1, 0], pf (F_front_bound)), ([1, 0], pf (F_sums_by_pairs)), ([3, 2, 1, 0], pf (F_pair_costs)), ([0], pf (F_best_fixed))], []⟩, [(F__law_front), (F_fixed_costs), (F_front_costs), (F_front_list), (F_swapped_costs), (F__law_drawn_order)]⟩
def F__law_case_right : Fn := runF G__law_case_right 1 2 24 B__law_case_right
/-! law -/
def N_law : List Str := ["script", "generator", "turn", "row", "others", "thing", "order", "told"]
def M_law : Nx := ⟨⟨N_law, [("best_fixed", 1), ("front_bound", 2), ("potentials", 2), ("pair_costs", 4), ("sums_by_pairs", 2), ("_law_exact", 2)], [], [], ["list", "range", "set", "sorted"], none⟩, 0, [("_law_generator", 0, 2), ("_law_row", 1, 2), ("_law_drawn_order", 1, 1), ("_law_random", 1, 1), ("_law_case_right", 1, 2), ("fixed_costs", 0, 2), ("front_costs", 0, 2), ("swapped_costs", 0, 2)]⟩
def Y_law_1 : Ss := (.cons (.set 3 (.io 1 [1] (.cons (.p (.ix (.lst (.cons (.k (.int 10)) (.cons (.k (.int 30)) (.cons (.k (.int 60)) .nil)))) (.v 2))) (.cons (.p (.ix (.lst (.cons (.k (.int 4)) (.cons (.k (.int 6)) (.cons (.k (.int 8)) .nil)))) (.v 2))) .nil)))) (.cons (.set 4 (.sl (.co (.nm 5) (.sq (.io 2 [1] (.cons (.p (.lr1 (.k (.int 26)))) .nil))) (.so (.q (.c2 .nin (.v 5) (.v 3)))) (.p (.v 5))) .no (.so (.io 3 [1] (.cons (.p (.k (.int 4))) .nil))))) (.cons (.ite (.nt (.io 4 [1] (.cons (.z [3] (.p (.v 3))) (.cons (.io 2 [1] (.cons (.q (.b2 .add (.ss (.v 3)) (.v 4))) .nil)) .nil)))) (.cons (.ret (.p (.k (.bl false)))) .nil) .nil) .nil)))
def W_law_1 : S := (.fo (.nm 2) (.r1 (.p (.k (.int 3)))) Y_law_1)
def B_law : Ss := (.cons (.set 1 (.io 0 [] (.cons (.p (.v 0)) (.cons (.p (.k (.int 0))) .nil)))) (.cons W_law_1 (.cons (.unp (.tp (.cons (.nm 3) (.cons (.nm 6) .nil))) (.tup (.cons (.p (.lst (.cons (.k (.int 2)) (.cons (.k (.int 2)) (.cons (.k (.int 0)) (.cons (.k (.int 1)) (.cons (.k (.int 2)) .nil))))))) (.cons (.p (.lst (.cons (.k (.int 0)) (.cons (.k (.int 1)) (.cons (.k (.int 2)) .nil))))) .nil)))) (.cons (.set 7 (.lst (.cons (.io 5 [] (.cons (.z [3] (.p (.v 3))) (.cons (.z [6] (.p (.v 6))) .nil))) (.cons (.io 6 [] (.cons (.p (.v 3)) (.cons (.p (.v 6)) .nil))) (.cons (.io 7 [] (.cons (.p (.v 3)) (.cons (.p (.v 6)) .nil))) (.cons (.p (.ca 0 (.cons (.v 3) .nil))) (.cons (.p (.ca 1 (.cons (.v 3) (.cons (.v 6) .nil)))) (.cons (.p (.ca 2 (.cons (.v 3) (.cons (.v 6) .nil)))) (.cons (.p (.ca 3 (.cons (.v 3) (.cons (.v 6) (.cons (.k (.int 0)) (.cons (.k (.int 2)) .nil)))))) (.cons (.p (.ca 4 (.cons (.v 3) (.cons (.v 6) .nil)))) .nil)))))))))) (.cons (.ret (.q (.ca 5 (.cons (.v 7) (.cons (.lst (.cons (.lst (.cons (.k (.int 3)) (.cons (.k (.int 3)) (.cons (.k (.int 1)) (.cons (.k (.int 2)) (.cons (.k (.int 3)) .nil)))))) (.cons (.lst (.cons (.k (.int 3)) (.cons (.k (.int 1)) (.cons (.k (.int 2)) (.cons (.k (.int 3)) (.cons (.k (.int 3)) .nil)))))) (.cons (.lst (.cons (.k (.int 3)) (.cons (.k (.int 2)) (.cons (.k (.int 2)) (.cons (.k (.int 3)) (.cons (.k (.int 3)) .nil)))))) (.cons (.lst (.cons (.k (.int 2)) (.cons (.k (.int 0)) (.cons (.k (.int 1)) .nil)))) (.cons (.k (.int 19)) (.cons (.lst (.cons (.k (.int 0)) (.cons (.k (.int 2)) (.cons (.k (.int 2)) (.cons (.k (.int 1)) (.cons (.k (.int 1)) (.cons (.k (.int 3)) .nil))))))) (.cons (.tup (.cons (.k (.int 3)) (.cons (.k (.int 3)) .nil))) (.cons (.tup (.cons (.k (.int 12)) (.cons (.k (.int 12)) .nil))) .nil))))))))) .nil))))) .nil)))))
def G_law : Cy := ⟨⟨[pf (F_best_fixed), pf (F_front_bound), pf (F_potentials), pf (F_pair_costs), pf (F_sums_by_pairs), pf (F__law_exact 8)], [], []⟩, [(F__law_generator), (F__law_row), (F__law_drawn_order), (F__law_random), (F__law_case_right), (F_fixed_costs), (F_front_costs), (F_swapped_costs)]⟩
def F_law : Fn := runF G_law 0 1 8 B_law
/-! linking -/
structure HF (K : PySem.W.Frag) (mg : Str → Option Value) : Prop where
  z_all : mg "all" = none
  z_bool : mg "bool" = none
  z_enumerate : mg "enumerate" = none
  z_int : mg "int" = none
  z_isinstance : mg "isinstance" = none
  z_len : mg "len" = none
  z_list : mg "list" = none
  z_max : mg "max" = none
  z_min : mg "min" = none
  z_range : mg "range" = none
  z_set : mg "set" = none
  z_sorted : mg "sorted" = none
  z_str : mg "str" = none
  z_sum : mg "sum" = none
  z_tuple : mg "tuple" = none
  c_LONGEST : ∃ u v, mg "LONGEST" = some u ∧ RelV v u ∧ ∀ W, Rep K W v (.int 60)
  c_MOST_THINGS : ∃ u v, mg "MOST_THINGS" = some u ∧ RelV v u ∧ ∀ W, Rep K W v (.int 26)
  d_is_whole : DefOk K mg "is_whole" (topS 7) ["value"]
  d_is_count : DefOk K mg "is_count" (topS 8) ["value"]
  d_is_below : DefOk K mg "is_below" (topS 9) ["value", "bound"]
  d_is_thing : DefOk K mg "is_thing" (topS 10) ["value"]
  d_is_row : DefOk K mg "is_row" (topS 11) ["value"]
  d_check_row : DefOk K mg "check_row" (topS 12) ["row"]
  d_is_list_for : DefOk K mg "is_list_for" (topS 15) ["row", "value"]
  d_check_list : DefOk K mg "check_list" (topS 16) ["row", "order"]
  d_fixed_of : DefOk K mg "fixed_of" (topS 17) ["row", "order"]
  d_fixed_costs : DefOk K mg "fixed_costs" (topS 18) ["row", "order"]
  d_moved_of : DefOk K mg "moved_of" (topS 19) ["row", "order"]
  d_front_costs : DefOk K mg "front_costs" (topS 20) ["row", "order"]
  d_swapped_costs : DefOk K mg "swapped_costs" (topS 22) ["row", "order"]
  d_things_of : DefOk K mg "things_of" (topS 13) ["row"]
  d_best_fixed : DefOk K mg "best_fixed" (topS 23) ["row"]
  d_pair_of : DefOk K mg "pair_of" (topS 24) ["row", "order", "thing", "other"]
  d_pair_costs : DefOk K mg "pair_costs" (topS 25) ["row", "order", "thing", "other_thing"]
  d_sums_by_pairs : DefOk K mg "sums_by_pairs" (topS 26) ["row", "order"]
  d_front_bound : DefOk K mg "front_bound" (topS 27) ["row", "order"]
  d_out_of_order : DefOk K mg "out_of_order" (topS 28) ["row", "order", "ask"]
  d_potentials : DefOk K mg "potentials" (topS 29) ["row", "order"]
  d__law_hash : DefOk K mg "_law_hash" (topS 31) ["seed", "index"]
  d__law_random : DefOk K mg "_law_random" (topS 32) ["generator", "bound"]
  d__law_cell : DefOk K mg "_law_cell" (topS 33) ["script", "index"]
  d__law_generator : DefOk K mg "_law_generator" (topS 34) ["script", "index"]
  d__law_drawn_order : DefOk K mg "_law_drawn_order" (topS 35) ["generator", "things"]
  d__law_exact : DefOk K mg "_law_exact" (topS 36) ["told", "due"]
  d__law_row : DefOk K mg "_law_row" (topS 38) ["generator", "most", "things"]
  d_front_list : DefOk K mg "front_list" (topS 21) ["row", "order"]
  d__law_copied : DefOk K mg "_law_copied" (topS 37) ["thing"]
  d__law_front : DefOk K mg "_law_front" (topS 39) ["row", "order"]
  d__law_swapped : DefOk K mg "_law_swapped" (topS 40) ["row", "order"]
  d__law_otherwise : DefOk K mg "_law_otherwise" (topS 41) ["there", "order"]
  d__law_pair : DefOk K mg "_law_pair" (topS 42) ["row", "order", "one", "two"]
  d__law_orders : DefOk K mg "_law_orders" (topS 43) ["things"]
  d__law_case_right : DefOk K mg "_law_case_right" (topS 44) ["generator", "row", "order"]
  d_law : DefOk K mg "law" (topS 45) ["script"]
structure HT (g : GG) : Prop where
  l_best_fixed : LamEx g "best_fixed" "best_fixed.<locals>.<lambda>"
  l__law_case_right : LamEx g "_law_case_right" "_law_case_right.<locals>.<lambda>"
theorem sc_is_whole : FnScope N_is_whole ["value"] (defScope (topS 7)) := ⟨rfl, rfl, rfl, by decide +kernel, rfl, by decide +kernel, by decide +kernel⟩
theorem ck_is_whole : chkSs M_is_whole B_is_whole (defScope (topS 7)) (defBody (topS 7)) = true := by decide +kernel
theorem ok_is_whole {g : GG} (D : HF g.K g.mg) (T : HT g) : FnAt g 1 "is_whole" (topS 7) ["value"] 0 1 F_is_whole :=
  def_ok (k := 0) (M := M_is_whole) (G := G_is_whole) (body := B_is_whole) D.d_is_whole sc_is_whole ck_is_whole (factx_of (nb_cons D.z_bool (nb_cons D.z_int (nb_cons D.z_isinstance nb_nil))) .nil .nil .nil .nil) rfl
theorem sc_is_count : FnScope N_is_count ["value"] (defScope (topS 8)) := ⟨rfl, rfl, rfl, by decide +kernel, rfl, by decide +kernel, by decide +kernel⟩
theorem ck_is_count : chkSs M_is_count B_is_count (defScope (topS 8)) (defBody (topS 8)) = true := by decide +kernel
theorem ok_is_count {g : GG} (D : HF g.K g.mg) (T : HT g) : FnAt g 2 "is_count" (topS 8) ["value"] 0 1 F_is_count :=
  def_ok (k := 1) (M := M_is_count) (G := G_is_count) (body := B_is_count) D.d_is_count sc_is_count ck_is_count (factx_of nb_nil .nil (.cons ((ok_is_whole D T).prf (by omega)) .nil) .nil .nil) rfl
theorem sc_is_below : FnScope N_is_below ["value", "bound"] (defScope (topS 9)) := ⟨rfl, rfl, rfl, by decide +kernel, rfl, by decide +kernel, by decide +kernel⟩
theorem ck_is_below : chkSs M_is_below B_is_below (defScope (topS 9)) (defBody (topS 9)) = true := by decide +kernel
theorem ok_is_below {g : GG} (D : HF g.K g.mg) (T : HT g) : FnAt g 3 "is_below" (topS 9) ["value", "bound"] 0 2 F_is_below :=
  def_ok (k := 2) (M := M_is_below) (G := G_is_below) (body := B_is_below) D.d_is_below sc_is_below ck_is_below (factx_of nb_nil .nil (.cons ((ok_is_count D T).prf (by omega)) .nil) .nil .nil) rfl
theorem sc_is_thing : FnScope N_is_thing ["value"] (defScope (topS 10)) := ⟨rfl, rfl, rfl, by decide +kernel, rfl, by decide +kernel, by decide +kernel⟩
theorem ck_is_thing : chkSs M_is_thing B_is_thing (defScope (topS 10)) (defBody (topS 10)) = true := by decide +kernel
theorem ok_is_thing {g : GG} (D : HF g.K g.mg) (T : HT g) : FnAt g 4 "is_thing" (topS 10) ["value"] 0 1 F_is_thing :=
  def_ok (k := 3) (M := M_is_thing) (G := G_is_thing) (body := B_is_thing) D.d_is_thing sc_is_thing ck_is_thing (factx_of nb_nil (.cons D.c_MOST_THINGS .nil) (.cons ((ok_is_below D T).prf (by omega)) .nil) .nil .nil) rfl
theorem sc_is_row : FnScope N_is_row ["value"] (defScope (topS 11)) := ⟨rfl, rfl, rfl, by decide +kernel, rfl, by decide +kernel, by decide +kernel⟩
theorem ck_is_row : chkSs M_is_row B_is_row (defScope (topS 11)) (defBody (topS 11)) = true := by decide +kernel
theorem ok_is_row {g : GG} (D : HF g.K g.mg) (T : HT g) : FnAt g 5 "is_row" (topS 11) ["value"] 0 1 F_is_row :=
  def_ok (k := 4) (M := M_is_row) (G := G_is_row) (body := B_is_row) D.d_is_row sc_is_row ck_is_row (factx_of (nb_cons D.z_isinstance (nb_cons D.z_len (nb_cons D.z_list nb_nil))) (.cons D.c_LONGEST .nil) (.cons ((ok_is_thing D T).prf (by omega)) .nil) .nil .nil) rfl
theorem sc_check_row : FnScope N_check_row ["row"] (defScope (topS 12)) := ⟨rfl, rfl, rfl, by decide +kernel, rfl, by decide +kernel, by decide +kernel⟩
theorem ck_check_row : chkSs M_check_row B_check_row (defScope (topS 12)) (defBody (topS 12)) = true := by decide +kernel
theorem ok_check_row {g : GG} (D : HF g.K g.mg) (T : HT g) : FnAt g 6 "check_row" (topS 12) ["row"] 0 1 F_check_row :=
  def_ok (k := 5) (M := M_check_row) (G := G_check_row) (body := B_check_row) D.d_check_row sc_check_row ck_check_row (factx_of nb_nil .nil (.cons ((ok_is_row D T).prf (by omega)) .nil) .nil .nil) rfl
theorem sc_is_list_for : FnScope N_is_list_for ["row", "value"] (defScope (topS 15)) := ⟨rfl, rfl, rfl, by decide +kernel, rfl, by decide +kernel, by decide +kernel⟩
theorem ck_is_list_for : chkSs M_is_list_for B_is_list_for (defScope (topS 15)) (defBody (topS 15)) = true := by decide +kernel
theorem ok_is_list_for {g : GG} (D : HF g.K g.mg) (T : HT g) : FnAt g 5 "is_list_for" (topS 15) ["row", "value"] 0 2 F_is_list_for :=
  def_ok (k := 4) (M := M_is_list_for) (G := G_is_list_for) (body := B_is_list_for) D.d_is_list_for sc_is_list_for ck_is_list_for (factx_of (nb_cons D.z_isinstance (nb_cons D.z_len (nb_cons D.z_list (nb_cons D.z_set nb_nil)))) .nil (.cons ((ok_is_thing D T).prf (by omega)) .nil) .nil .nil) rfl
theorem sc_check_list : FnScope N_check_list ["row", "order"] (defScope (topS 16)) := ⟨rfl, rfl, rfl, by decide +kernel, rfl, by decide +kernel, by decide +kernel⟩
theorem ck_check_list : chkSs M_check_list B_check_list (defScope (topS 16)) (defBody (topS 16)) = true := by decide +kernel
theorem ok_check_list {g : GG} (D : HF g.K g.mg) (T : HT g) : FnAt g 6 "check_list" (topS 16) ["row", "order"] 0 2 F_check_list :=
  def_ok (k := 5) (M := M_check_list) (G := G_check_list) (body := B_check_list) D.d_check_list sc_check_list ck_check_list (factx_of nb_nil .nil (.cons ((ok_is_list_for D T).prf (by omega)) .nil) .nil .nil) rfl
theorem sc_fixed_of : FnScope N_fixed_of ["row", "order"] (defScope (topS 17)) := ⟨rfl, rfl, rfl, by decide +kernel, rfl, by decide +kernel, by decide +kernel⟩
theorem ck_fixed_of : chkSs M_fixed_of B_fixed_of (defScope (topS 17)) (defBody (topS 17)) = true := by decide +kernel
theorem ok_fixed_of {g : GG} (D : HF g.K g.mg) (T : HT g) : FnAt g 1 "fixed_of" (topS 17) ["row", "order"] 0 2 F_fixed_of :=
  def_ok (k := 0) (M := M_fixed_of) (G := G_fixed_of) (body := B_fixed_of) D.d_fixed_of sc_fixed_of ck_fixed_of (factx_of nb_nil .nil .nil .nil .nil) rfl
theorem sc_fixed_costs : FnScope N_fixed_costs ["row", "order"] (defScope (topS 18)) := ⟨rfl, rfl, rfl, by decide +kernel, rfl, by decide +kernel, by decide +kernel⟩
theorem ck_fixed_costs : chkSs M_fixed_costs B_fixed_costs (defScope (topS 18)) (defBody (topS 18)) = true := by decide +kernel
theorem ok_fixed_costs {g : GG} (D : HF g.K g.mg) (T : HT g) : FnAt g 7 "fixed_costs" (topS 18) ["row", "order"] 0 2 F_fixed_costs :=
  def_ok (k := 6) (M := M_fixed_costs) (G := G_fixed_costs) (body := B_fixed_costs) D.d_fixed_costs sc_fixed_costs ck_fixed_costs (factx_of nb_nil .nil (.cons ((ok_check_row D T).prf (by omega)) (.cons ((ok_check_list D T).prf (by omega)) .nil)) .nil (.cons ((ok_fixed_of D T).call (by omega)) .nil)) rfl
theorem sc_moved_of : FnScope N_moved_of ["row", "order"] (defScope (topS 19)) := ⟨rfl, rfl, rfl, by decide +kernel, rfl, by decide +kernel, by decide +kernel⟩
theorem ck_moved_of : chkSs M_moved_of B_moved_of (defScope (topS 19)) (defBody (topS 19)) = true := by decide +kernel
theorem ok_moved_of {g : GG} (D : HF g.K g.mg) (T : HT g) : FnAt g 1 "moved_of" (topS 19) ["row", "order"] 0 2 F_moved_of :=
  def_ok (k := 0) (M := M_moved_of) (G := G_moved_of) (body := B_moved_of) D.d_moved_of sc_moved_of ck_moved_of (factx_of (nb_cons D.z_list nb_nil) .nil .nil .nil .nil) rfl
theorem sc_front_costs : FnScope N_front_costs ["row", "order"] (defScope (topS 20)) := ⟨rfl, rfl, rfl, by decide +kernel, rfl, by decide +kernel, by decide +kernel⟩
theorem ck_front_costs : chkSs M_front_costs B_front_costs (defScope (topS 20)) (defBody (topS 20)) = true := by decide +kernel
theorem ok_front_costs {g : GG} (D : HF g.K g.mg) (T : HT g) : FnAt g 7 "front_costs" (topS 20) ["row", "order"] 0 2 F_front_costs :=
  def_ok (k := 6) (M := M_front_costs) (G := G_front_costs) (body := B_front_costs) D.d_front_costs sc_front_costs ck_front_costs (factx_of nb_nil .nil (.cons ((ok_check_row D T).prf (by omega)) (.cons ((ok_check_list D T).prf (by omega)) .nil)) .nil (.cons ((ok_moved_of D T).call (by omega)) .nil)) rfl
theorem sc_swapped_costs : FnScope N_swapped_costs ["row", "order"] (defScope (topS 22)) := ⟨rfl, rfl, rfl, by decide +kernel, rfl, by decide +kernel, by decide +kernel⟩
theorem ck_swapped_costs : chkSs M_swapped_costs B_swapped_costs (defScope (topS 22)) (defBody (topS 22)) = true := by decide +kernel
theorem ok_swapped_costs {g : GG} (D : HF g.K g.mg) (T : HT g) : FnAt g 7 "swapped_costs" (topS 22) ["row", "order"] 0 2 F_swapped_costs :=
  def_ok (k := 6) (M := M_swapped_costs) (G := G_swapped_costs) (body := B_swapped_costs) D.d_swapped_costs sc_swapped_costs ck_swapped_costs (factx_of (nb_cons D.z_list nb_nil) .nil (.cons ((ok_check_row D T).prf (by omega)) (.cons ((ok_check_list D T).prf (by omega)) .nil)) .nil .nil) rfl
theorem sc_things_of : FnScope N_things_of ["row"] (defScope (topS 13)) := ⟨rfl, rfl, rfl, by decide +kernel, rfl, by decide +kernel, by decide +kernel⟩
theorem ck_things_of : chkSs M_things_of B_things_of (defScope (topS 13)) (defBody (topS 13)) = true := by decide +kernel
theorem ok_things_of {g : GG} (D : HF g.K g.mg) (T : HT g) : FnAt g 1 "things_of" (topS 13) ["row"] 0 1 F_things_of :=
  def_ok (k := 0) (M := M_things_of) (G := G_things_of) (body := B_things_of) D.d_things_of sc_things_of ck_things_of (factx_of (nb_cons D.z_set (nb_cons D.z_sorted nb_nil)) .nil .nil .nil .nil) rfl
theorem sc_best_fixed : FnScope N_best_fixed ["row"] (defScope (topS 23)) := ⟨rfl, rfl, rfl, by decide +kernel, rfl, by decide +kernel, by decide +kernel⟩
theorem ck_best_fixed : chkSs M_best_fixed B_best_fixed (defScope (topS 23)) (defBody (topS 23)) = true := by decide +kernel
theorem ok_best_fixed {g : GG} (D : HF g.K g.mg) (T : HT g) : FnAt g 7 "best_fixed" (topS 23) ["row"] 0 1 F_best_fixed :=
  def_okL (k := 6) (M := M_best_fixed) (G := G_best_fixed) (body := B_best_fixed) D.d_best_fixed sc_best_fixed ck_best_fixed (factx_of (nb_cons D.z_sorted nb_nil) .nil (.cons ((ok_check_row D T).prf (by omega)) (.cons ((ok_things_of D T).prf (by omega)) .nil)) .nil .nil) rfl (fun q hq => ⟨by omega, (Option.some.inj hq : _ = q) ▸ T.l_best_fixed⟩)
theorem sc_pair_of : FnScope N_pair_of ["row", "order", "thing", "other"] (defScope (topS 24)) := ⟨rfl, rfl, rfl, by decide +kernel, rfl, by decide +kernel, by decide +kernel⟩
theorem ck_pair_of : chkSs M_pair_of B_pair_of (defScope (topS 24)) (defBody (topS 24)) = true := by decide +kernel
theorem ok_pair_of {g : GG} (D : HF g.K g.mg) (T : HT g) : FnAt g 2 "pair_of" (topS 24) ["row", "order", "thing", "other"] 0 4 F_pair_of :=
  def_ok (k := 1) (M := M_pair_of) (G := G_pair_of) (body := B_pair_of) D.d_pair_of sc_pair_of ck_pair_of (factx_of (nb_cons D.z_len (nb_cons D.z_sum nb_nil)) .nil (.cons ((ok_moved_of D T).prf (by omega)) (.cons ((ok_fixed_of D T).prf (by omega)) .nil)) .nil .nil) rfl
theorem sc_pair_costs : FnScope N_pair_costs ["row", "order", "thing", "other_thing"] (defScope (topS 25)) := ⟨rfl, rfl, rfl, by decide +kernel, rfl, by decide +kernel, by decide +kernel⟩
theorem ck_pair_costs : chkSs M_pair_costs B_pair_costs (defScope (topS 25)) (defBody (topS 25)) = true := by decide +kernel
theorem ok_pair_costs {g : GG} (D : HF g.K g.mg) (T : HT g) : FnAt g 7 "pair_costs" (topS 25) ["row", "order", "thing", "other_thing"] 0 4 F_pair_costs :=
  def_ok (k := 6) (M := M_pair_costs) (G := G_pair_costs) (body := B_pair_costs) D.d_pair_costs sc_pair_costs ck_pair_costs (factx_of nb_nil .nil (.cons ((ok_check_row D T).prf (by omega)) (.cons ((ok_check_list D T).prf (by omega)) (.cons ((ok_is_thing D T).prf (by omega)) (.cons ((ok_pair_of D T).prf (by omega)) .nil)))) .nil .nil) rfl
theorem sc_sums_by_pairs : FnScope N_sums_by_pairs ["row", "order"] (defScope (topS 26)) := ⟨rfl, rfl, rfl, by decide +kernel, rfl, by decide +kernel, by decide +kernel⟩
theorem ck_sums_by_pairs : chkSs M_sums_by_pairs B_sums_by_pairs (defScope (topS 26)) (defBody (topS 26)) = true := by decide +kernel
theorem ok_sums_by_pairs {g : GG} (D : HF g.K g.mg) (T : HT g) : FnAt g 7 "sums_by_pairs" (topS 26) ["row", "order"] 0 2 F_sums_by_pairs :=
  def_ok (k := 6) (M := M_sums_by_pairs) (G := G_sums_by_pairs) (body := B_sums_by_pairs) D.d_sums_by_pairs sc_sums_by_pairs ck_sums_by_pairs (factx_of (nb_cons D.z_enumerate (nb_cons D.z_len nb_nil)) .nil (.cons ((ok_check_row D T).prf (by omega)) (.cons ((ok_check_list D T).prf (by omega)) (.cons ((ok_pair_of D T).prf (by omega)) .nil))) .nil .nil) rfl
theorem sc_front_bound : FnScope N_front_bound ["row", "order"] (defScope (topS 27)) := ⟨rfl, rfl, rfl, by decide +kernel, rfl, by decide +kernel, by decide +kernel⟩
theorem ck_front_bound : chkSs M_front_bound B_front_bound (defScope (topS 27)) (defBody (topS 27)) = true := by decide +kernel
theorem ok_front_bound {g : GG} (D : HF g.K g.mg) (T : HT g) : FnAt g 7 "front_bound" (topS 27) ["row", "order"] 0 2 F_front_bound :=
  def_ok (k := 6) (M := M_front_bound) (G := G_front_bound) (body := B_front_bound) D.d_front_bound sc_front_bound ck_front_bound (factx_of (nb_cons D.z_len (nb_cons D.z_sum nb_nil)) .nil (.cons ((ok_check_row D T).prf (by omega)) (.cons ((ok_check_list D T).prf (by omega)) (.cons ((ok_fixed_of D T).prf (by omega)) .nil))) .nil .nil) rfl
theorem sc_out_of_order : FnScope N_out_of_order ["row", "order", "ask"] (defScope (topS 28)) := ⟨rfl, rfl, rfl, by decide +kernel, rfl, by decide +kernel, by decide +kernel⟩
theorem ck_out_of_order : chkSs M_out_of_order B_out_of_order (defScope (topS 28)) (defBody (topS 28)) = true := by decide +kernel
theorem ok_out_of_order {g : GG} (D : HF g.K g.mg) (T : HT g) : FnAt g 2 "out_of_order" (topS 28) ["row", "order", "ask"] 0 3 F_out_of_order :=
  def_ok (k := 1) (M := M_out_of_order) (G := G_out_of_order) (body := B_out_of_order) D.d_out_of_order sc_out_of_order ck_out_of_order (factx_of (nb_cons D.z_enumerate nb_nil) .nil .nil .nil (.cons ((ok_moved_of D T).call (by omega)) .nil)) rfl
theorem sc_potentials : FnScope N_potentials ["row", "order"] (defScope (topS 29)) := ⟨rfl, rfl, rfl, by decide +kernel, rfl, by decide +kernel, by decide +kernel⟩
theorem ck_potentials : chkSs M_potentials B_potentials (defScope (topS 29)) (defBody (topS 29)) = true := by decide +kernel
theorem ok_potentials {g : GG} (D : HF g.K g.mg) (T : HT g) : FnAt g 7 "potentials" (topS 29) ["row", "order"] 0 2 F_potentials :=
  def_ok (k := 6) (M := M_potentials) (G := G_potentials) (body := B_potentials) D.d_potentials sc_potentials ck_potentials (factx_of (nb_cons D.z_len (nb_cons D.z_range nb_nil)) .nil (.cons ((ok_check_row D T).prf (by omega)) (.cons ((ok_check_list D T).prf (by omega)) (.cons ((ok_out_of_order D T).prf (by omega)) .nil))) .nil .nil) rfl
theorem sc__law_hash : FnScope N__law_hash ["seed", "index"] (defScope (topS 31)) := ⟨rfl, rfl, rfl, by decide +kernel, rfl, by decide +kernel, by decide +kernel⟩
theorem ck__law_hash : chkSs M__law_hash B__law_hash (defScope (topS 31)) (defBody (topS 31)) = true := by decide +kernel
theorem ok__law_hash {g : GG} (D : HF g.K g.mg) (T : HT g) : FnAt g 1 "_law_hash" (topS 31) ["seed", "index"] 0 2 F__law_hash :=
  def_ok (k := 0) (M := M__law_hash) (G := G__law_hash) (body := B__law_hash) D.d__law_hash sc__law_hash ck__law_hash (factx_of (nb_cons D.z_int nb_nil) .nil .nil .nil .nil) rfl
theorem sc__law_random : FnScope N__law_random ["generator", "bound"] (defScope (topS 32)) := ⟨rfl, rfl, rfl, by decide +kernel, rfl, by decide +kernel, by decide +kernel⟩
theorem ck__law_random : chkSs M__law_random B__law_random (defScope (topS 32)) (defBody (topS 32)) = true := by decide +kernel
theorem ok__law_random {g : GG} (D : HF g.K g.mg) (T : HT g) : FnAt g 2 "_law_random" (topS 32) ["generator", "bound"] 1 1 F__law_random :=
  def_ok (k := 1) (M := M__law_random) (G := G__law_random) (body := B__law_random) D.d__law_random sc__law_random ck__law_random (factx_of (nb_cons D.z_int (nb_cons D.z_range nb_nil)) .nil (.cons ((ok__law_hash D T).prf (by omega)) .nil) .nil .nil) rfl
theorem sc__law_cell : FnScope N__law_cell ["script", "index"] (defScope (topS 33)) := ⟨rfl, rfl, rfl, by decide +kernel, rfl, by decide +kernel, by decide +kernel⟩
theorem ck__law_cell : chkSs M__law_cell B__law_cell (defScope (topS 33)) (defBody (topS 33)) = true := by decide +kernel
theorem ok__law_cell {g : GG} (D : HF g.K g.mg) (T : HT g) : FnAt g 1 "_law_cell" (topS 33) ["script", "index"] 0 2 F__law_cell :=
  def_ok (k := 0) (M := M__law_cell) (G := G__law_cell) (body := B__law_cell) D.d__law_cell sc__law_cell ck__law_cell (factx_of (nb_cons D.z_len (nb_cons D.z_sum nb_nil)) .nil .nil .nil .nil) rfl
theorem sc__law_generator : FnScope N__law_generator ["script", "index"] (defScope (topS 34)) := ⟨rfl, rfl, rfl, by decide +kernel, rfl, by decide +kernel, by decide +kernel⟩
theorem ck__law_generator : chkSs M__law_generator B__law_generator (defScope (topS 34)) (defBody (topS 34)) = true := by decide +kernel
theorem ok__law_generator {g : GG} (D : HF g.K g.mg) (T : HT g) : FnAt g 2 "_law_generator" (topS 34) ["script", "index"] 0 2 F__law_generator :=
  def_ok (k := 1) (M := M__law_generator) (G := G__law_generator) (body := B__law_generator) D.d__law_generator sc__law_generator ck__law_generator (factx_of (nb_cons D.z_int (nb_cons D.z_max nb_nil)) .nil (.cons ((ok__law_cell D T).prf (by omega)) .nil) .nil .nil) rfl
theorem sc__law_drawn_order : FnScope N__law_drawn_order ["generator", "things"] (defScope (topS 35)) := ⟨rfl, rfl, rfl, by decide +kernel, rfl, by decide +kernel, by decide +kernel⟩
theorem ck__law_drawn_order : chkSs M__law_drawn_order B__law_drawn_order (defScope (topS 35)) (defBody (topS 35)) = true := by decide +kernel
theorem ok__law_drawn_order {g : GG} (D : HF g.K g.mg) (T : HT g) : FnAt g 3 "_law_drawn_order" (topS 35) ["generator", "things"] 1 1 F__law_drawn_order :=
  def_ok (k := 2) (M := M__law_drawn_order) (G := G__law_drawn_order) (body := B__law_drawn_order) D.d__law_drawn_order sc__law_drawn_order ck__law_drawn_order (factx_of (nb_cons D.z_len (nb_cons D.z_list nb_nil)) .nil .nil .nil (.cons ((ok__law_random D T).call (by omega)) .nil)) rfl
theorem sc__law_exact : FnScope N__law_exact ["told", "due"] (defScope (topS 36)) := ⟨rfl, rfl, rfl, by decide +kernel, rfl, by decide +kernel, by decide +kernel⟩
theorem ck__law_exact : chkSs M__law_exact B__law_exact (defScope (topS 36)) (defBody (topS 36)) = true := by decide +kernel
theorem ok__law_exact {g : GG} (D : HF g.K g.mg) (T : HT g) : ∀ n : Nat, FnAt g (0 + n) "_law_exact" (topS 36) ["told", "due"] 0 2 (F__law_exact n)
  | 0 => def_none D.d__law_exact rfl
  | n + 1 => def_ok (k := 0 + n) (M := M__law_exact) (body := B__law_exact) D.d__law_exact sc__law_exact ck__law_exact (factx_of (nb_cons D.z_all (nb_cons D.z_bool (nb_cons D.z_enumerate (nb_cons D.z_int (nb_cons D.z_isinstance (nb_cons D.z_len (nb_cons D.z_list (nb_cons D.z_str (nb_cons D.z_tuple nb_nil))))))))) .nil (.cons ((ok__law_exact D T n).prf (by omega)) .nil) .nil .nil) rfl
theorem sc__law_row : FnScope N__law_row ["generator", "most", "things"] (defScope (topS 38)) := ⟨rfl, rfl, rfl, by decide +kernel, rfl, by decide +kernel, by decide +kernel⟩
theorem ck__law_row : chkSs M__law_row B__law_row (defScope (topS 38)) (defBody (topS 38)) = true := by decide +kernel
theorem ok__law_row {g : GG} (D : HF g.K g.mg) (T : HT g) : FnAt g 4 "_law_row" (topS 38) ["generator", "most", "things"] 1 2 F__law_row :=
  def_ok (k := 3) (M := M__law_row) (G := G__law_row) (body := B__law_row) D.d__law_row sc__law_row ck__law_row (factx_of (nb_cons D.z_int (nb_cons D.z_len (nb_cons D.z_list (nb_cons D.z_max (nb_cons D.z_min (nb_cons D.z_range nb_nil)))))) .nil .nil .nil (.cons ((ok__law_random D T).call (by omega)) (.cons ((ok__law_drawn_order D T).call (by omega)) .nil))) rfl
theorem sc_front_list : FnScope N_front_list ["row", "order"] (defScope (topS 21)) := ⟨rfl, rfl, rfl, by decide +kernel, rfl, by decide +kernel, by decide +kernel⟩
theorem ck_front_list : chkSs M_front_list B_front_list (defScope (topS 21)) (defBody (topS 21)) = true := by decide +kernel
theorem ok_front_list {g : GG} (D : HF g.K g.mg) (T : HT g) : FnAt g 7 "front_list" (topS 21) ["row", "order"] 0 2 F_front_list :=
  def_ok (k := 6) (M := M_front_list) (G := G_front_list) (body := B_front_list) D.d_front_list sc_front_list ck_front_list (factx_of nb_nil .nil (.cons ((ok_check_row D T).prf (by omega)) (.cons ((ok_check_list D T).prf (by omega)) .nil)) .nil (.cons ((ok_moved_of D T).call (by omega)) .nil)) rfl
theorem sc__law_copied : FnScope N__law_copied ["thing"] (defScope (topS 37)) := ⟨rfl, rfl, rfl, by decide +kernel, rfl, by decide +kernel, by decide +kernel⟩
theorem ck__law_copied : chkSs M__law_copied B__law_copied (defScope (topS 37)) (defBody (topS 37)) = true := by decide +kernel
theorem ok__law_copied {g : GG} (D : HF g.K g.mg) (T : HT g) : ∀ n : Nat, FnAt g (0 + n) "_law_copied" (topS 37) ["thing"] 0 1 (F__law_copied n)
  | 0 => def_none D.d__law_copied rfl
  | n + 1 => def_ok (k := 0 + n) (M := M__law_copied) (body := B__law_copied) D.d__law_copied sc__law_copied ck__law_copied (factx_of (nb_cons D.z_isinstance (nb_cons D.z_list (nb_cons D.z_tuple nb_nil))) .nil (.cons ((ok__law_copied D T n).prf (by omega)) .nil) .nil .nil) rfl
theorem sc__law_front : FnScope N__law_front ["row", "order"] (defScope (topS 39)) := ⟨rfl, rfl, rfl, by decide +kernel, rfl, by decide +kernel, by decide +kernel⟩
theorem ck__law_front : chkSs M__law_front B__law_front (defScope (topS 39)) (defBody (topS 39)) = true := by decide +kernel
theorem ok__law_front {g : GG} (D : HF g.K g.mg) (T : HT g) : FnAt g 1 "_law_front" (topS 39) ["row", "order"] 0 2 F__law_front :=
  def_ok (k := 0) (M := M__law_front) (G := G__law_front) (body := B__law_front) D.d__law_front sc__law_front ck__law_front (factx_of (nb_cons D.z_list nb_nil) .nil .nil .nil .nil) rfl
theorem sc__law_swapped : FnScope N__law_swapped ["row", "order"] (defScope (topS 40)) := ⟨rfl, rfl, rfl, by decide +kernel, rfl, by decide +kernel, by decide +kernel⟩
theorem ck__law_swapped : chkSs M__law_swapped B__law_swapped (defScope (topS 40)) (defBody (topS 40)) = true := by decide +kernel
theorem ok__law_swapped {g : GG} (D : HF g.K g.mg) (T : HT g) : FnAt g 1 "_law_swapped" (topS 40) ["row", "order"] 0 2 F__law_swapped :=
  def_ok (k := 0) (M := M__law_swapped) (G := G__law_swapped) (body := B__law_swapped) D.d__law_swapped sc__law_swapped ck__law_swapped (factx_of (nb_cons D.z_list nb_nil) .nil .nil .nil .nil) rfl
theorem sc__law_otherwise : FnScope N__law_otherwise ["there", "order"] (defScope (topS 41)) := ⟨rfl, rfl, rfl, by decide +kernel, rfl, by decide +kernel, by decide +kernel⟩
theorem ck__law_otherwise : chkSs M__law_otherwise B__law_otherwise (defScope (topS 41)) (defBody (topS 41)) = true := by decide +kernel
theorem ok__law_otherwise {g : GG} (D : HF g.K g.mg) (T : HT g) : FnAt g 1 "_law_otherwise" (topS 41) ["there", "order"] 0 2 F__law_otherwise :=
  def_ok (k := 0) (M := M__law_otherwise) (G := G__law_otherwise) (body := B__law_otherwise) D.d__law_otherwise sc__law_otherwise ck__law_otherwise (factx_of (nb_cons D.z_enumerate (nb_cons D.z_len nb_nil)) .nil .nil .nil .nil) rfl
theorem sc__law_pair : FnScope N__law_pair ["row", "order", "one", "two"] (defScope (topS 42)) := ⟨rfl, rfl, rfl, by decide +kernel, rfl, by decide +kernel, by decide +kernel⟩
theorem ck__law_pair : chkSs M__law_pair B__law_pair (defScope (topS 42)) (defBody (topS 42)) = true := by decide +kernel
theorem ok__law_pair {g : GG} (D : HF g.K g.mg) (T : HT g) : FnAt g 1 "_law_pair" (topS 42) ["row", "order", "one", "two"] 0 4 F__law_pair :=
  def_ok (k := 0) (M := M__law_pair) (G := G__law_pair) (body := B__law_pair) D.d__law_pair sc__law_pair ck__law_pair (factx_of (nb_cons D.z_int (nb_cons D.z_len nb_nil)) .nil .nil .nil .nil) rfl
theorem sc__law_orders : FnScope N__law_orders ["things"] (defScope (topS 43)) := ⟨rfl, rfl, rfl, by decide +kernel, rfl, by decide +kernel, by decide +kernel⟩
theorem ck__law_orders : chkSs M__law_orders B__law_orders (defScope (topS 43)) (defBody (topS 43)) = true := by decide +kernel
theorem ok__law_orders {g : GG} (D : HF g.K g.mg) (T : HT g) : ∀ n : Nat, FnAt g (0 + n) "_law_orders" (topS 43) ["things"] 0 1 (F__law_orders n)
  | 0 => def_none D.d__law_orders rfl
  | n + 1 => def_ok (k := 0 + n) (M := M__law_orders) (body := B__law_orders) D.d__law_orders sc__law_orders ck__law_orders (factx_of (nb_cons D.z_len (nb_cons D.z_range nb_nil)) .nil (.cons ((ok__law_orders D T n).prf (by omega)) .nil) .nil .nil) rfl
theorem sc__law_case_right : FnScope N__law_case_right ["generator", "row", "order"] (defScope (topS 44)) := ⟨rfl, rfl, rfl, by decide +kernel, rfl, by decide +kernel, by decide +kernel⟩
theorem ck__law_case_right : chkSs M__law_case_right B__law_case_right (defScope (topS 44)) (defBody (topS 44)) = true := by decide +kernel
theorem ok__law_case_right {g : GG} (D : HF g.K g.mg) (T : HT g) : FnAt g 9 "_law_case_right" (topS 44) ["generator", "row", "order"] 1 2 F__law_case_right :=
  def_okL (k := 8) (M := M__law_case_right) (G := G__law_case_right) (body := B__law_case_right) D.d__law_case_right sc__law_case_right ck__law_case_right (factx_of (nb_cons D.z_enumerate (nb_cons D.z_len (nb_cons D.z_min (nb_cons D.z_range (nb_cons D.z_set (nb_cons D.z_sorted (nb_cons D.z_sum nb_nil))))))) .nil (.cons ((ok__law_copied D T 4).prf (by omega)) (.cons ((ok__law_swapped D T).prf (by omega)) (.cons ((ok__law_exact D T 8).prf (by omega)) (.cons ((ok__law_otherwise D T).prf (by omega)) (.cons ((ok_potentials D T).prf (by omega)) (.cons ((ok_front_bound D T).prf (by omega)) (.cons ((ok_sums_by_pairs D T).prf (by omega)) (.cons ((ok__law_pair D T).prf (by omega)) (.cons ((ok_pair_costs D T).prf (by omega)) (.cons ((ok_best_fixed D T).prf (by omega)) (.cons ((ok__law_orders D T 7).prf (by omega)) .nil))))))))))) (.cons ((ok_fixed_costs D T).kw (by omega) ["order", "row"] [1, 0] rfl (fun _ _ _ _ _ _ ws h => match ws, h with | [_, _], _ => rfl)) (.cons ((ok_front_costs D T).kw (by omega) ["order", "row"] [1, 0] rfl (fun _ _ _ _ _ _ ws h => match ws, h with | [_, _], _ => rfl)) (.cons ((ok_front_list D T).kw (by omega) ["order", "row"] [1, 0] rfl (fun _ _ _ _ _ _ ws h => match ws, h with | [_, _], _ => rfl)) (.cons ((ok_swapped_costs D T).kw (by omega) ["order", "row"] [1, 0] rfl (fun _ _ _ _ _ _ ws h => match ws, h with | [_, _], _ => rfl)) (.cons ((ok_potentials D T).kw (by omega) ["order", "row"] [1, 0] rfl (fun _ _ _ _ _ _ ws h => match ws, h with | [_, _], _ => rfl)) (.cons ((ok_front_bound D T).kw (by omega) ["order", "row"] [1, 0] rfl (fun _ _ _ _ _ _ ws h => match ws, h with | [_, _], _ => rfl)) (.cons ((ok_sums_by_pairs D T).kw (by omega) ["order", "row"] [1, 0] rfl (fun _ _ _ _ _ _ ws h => match ws, h with | [_, _], _ => rfl)) (.cons ((ok_pair_costs D T).kw (by omega) ["other_thing", "thing", "order", "row"] [3, 2, 1, 0] rfl (fun _ _ _ _ _ _ ws h => match ws, h with | [_, _, _, _], _ => rfl)) (.cons ((ok_best_fixed D T).kw (by omega) ["row"] [0] rfl (fun _ _ _ _ _ _ ws h => match ws, h with | [_], _ => rfl)) .nil))))))))) (.cons ((ok__law_front D T).call (by omega)) (.cons ((ok_fixed_costs D T).call (by omega)) (.cons ((ok_front_costs D T).call (by omega)) (.cons ((ok_front_list D T).call (by omega)) (.cons ((ok_swapped_costs D T).call (by omega)) (.cons ((ok__law_drawn_order D T).call (by omega)) .nil))))))) rfl (fun q hq => ⟨by omega, (Option.some.inj hq : _ = q) ▸ T.l__law_case_right⟩)
theorem sc_law : FnScope N_law ["script"] (defScope (topS 45)) := ⟨rfl, rfl, rfl, by decide +kernel, rfl, by decide +kernel, by decide +kernel⟩
theorem ck_law : chkSs M_law B_law (defScope (topS 45)) (defBody (topS 45)) = true := by decide +kernel
theorem ok_law {g : GG} (D : HF g.K g.mg) (T : HT g) : FnAt g 10 "law" (topS 45) ["script"] 0 1 F_law :=
  def_ok (k := 9) (M := M_law) (G := G_law) (body := B_law) D.d_law sc_law ck_law (factx_of (nb_cons D.z_list (nb_cons D.z_range (nb_cons D.z_set (nb_cons D.z_sorted nb_nil)))) .nil (.cons ((ok_best_fixed D T).prf (by omega)) (.cons ((ok_front_bound D T).prf (by omega)) (.cons ((ok_potentials D T).prf (by omega)) (.cons ((ok_pair_costs D T).prf (by omega)) (.cons ((ok_sums_by_pairs D T).prf (by omega)) (.cons ((ok__law_exact D T 8).prf (by omega)) .nil)))))) .nil (.cons ((ok__law_generator D T).call (by omega)) (.cons ((ok__law_row D T).call (by omega)) (.cons ((ok__law_drawn_order D T).call (by omega)) (.cons ((ok__law_random D T).call (by omega)) (.cons ((ok__law_case_right D T).call (by omega)) (.cons ((ok_fixed_costs D T).call (by omega)) (.cons ((ok_front_costs D T).call (by omega)) (.cons ((ok_swapped_costs D T).call (by omega)) .nil))))))))) rfl
end L46
end KP
/-! K46b: plain lists: a thing moves to the front; pairs that stand otherwise. -/
namespace KP
namespace L46
/-- a thing moves to the front -/
def mtf (t : List Int) (x : Int) : List Int := x :: t.filter fun y => !decide (y = x)
theorem split_at {t : List Int} {x : Int} (h : x ∈ t) : ∃ A B, t = A ++ x :: B ∧ x ∉ A ∧ t.idxOf x = A.length := by
  induction t with
  | nil => cases h
  | cons y t ih =>
    by_cases q : y = x
    · subst q; exact ⟨[], t, rfl, by simp, by simp [List.idxOf_cons]⟩
    · obtain ⟨A, B, e, n, hi⟩ := ih ((List.mem_cons.mp h).resolve_left fun z => q z.symm)
      refine ⟨y :: A, B, by rw [e]; rfl, ?_, ?_⟩
      · simp only [List.mem_cons, not_or]; exact ⟨fun z => q z.symm, n⟩
      · have e0 : (y == x) = false := by simpa using q
        rw [List.idxOf_cons, e0]; simp [hi]
theorem filter_split {A B : List Int} {x : Int} (nd : (A ++ x :: B).Nodup) : (A ++ x :: B).filter (fun y => !decide (y = x)) = A ++ B := by
  obtain ⟨n1, n2, d⟩ := List.nodup_append.mp nd
  have hA : ∀ a ∈ A, a ≠ x := fun a ha => d a ha x (by simp)
  have hB : ∀ b ∈ B, b ≠ x := fun b hb z => (List.nodup_cons.mp n2).1 (z ▸ hb)
  rw [List.filter_append, List.filter_cons]
  have e1 : A.filter (fun y => !decide (y = x)) = A := List.filter_eq_self.mpr fun a ha => by simp [hA a ha]
  have e2 : B.filter (fun y => !decide (y = x)) = B := List.filter_eq_self.mpr fun b hb => by simp [hB b hb]
  rw [e1, e2]; simp
theorem mtf_split {A B : List Int} {x : Int} (nd : (A ++ x :: B).Nodup) : mtf (A ++ x :: B) x = x :: (A ++ B) := by unfold mtf; rw [filter_split nd]
theorem mtf_perm {t : List Int} {x : Int} (nd : t.Nodup) (h : x ∈ t) : (mtf t x).Perm t := by
  obtain ⟨A, B, rfl, n, -⟩ := split_at h
  rw [mtf_split nd]
  exact List.perm_middle.symm
/-- pairs, the first one ahead in t and not in the order told by k -/
def otherw (k : Int → Nat) : List Int → Nat
  | [] => 0
  | a :: r => (r.filter fun b => decide (k b < k a)).length + otherw k r
theorem otherw_app (k : Int → Nat) : ∀ (A B : List Int), otherw k (A ++ B) = otherw k A + otherw k B + (A.map fun a => (B.filter fun b => decide (k b < k a)).length).sum
  | [], B => by simp [otherw]
  | a :: A, B => by
    simp only [List.cons_append, otherw, otherw_app k A B, List.filter_append, List.length_append, List.map_cons, List.sum_cons]
    omega
theorem sum_ind (k : Int → Nat) (x : Int) : ∀ A : List Int, (A.map fun a => (if k x < k a then 1 else 0)).sum = (A.filter fun a => decide (k x < k a)).length
  | [] => rfl
  | a :: A => by
    simp only [List.map_cons, List.sum_cons, sum_ind k x A, List.filter_cons]
    by_cases q : k x < k a <;> simp [q]; omega
theorem sum_add {α : Type} (f g : α → Nat) : ∀ l : List α, (l.map fun a => f a + g a).sum = (l.map f).sum + (l.map g).sum
  | [] => rfl
  | a :: l => by simp only [List.map_cons, List.sum_cons, sum_add f g l]; omega
/-- what an ask costs and how the pairs grow -/
theorem mtf_pot {k : Int → Nat} {A B : List Int} {x : Int} (nd : (A ++ x :: B).Nodup) (inj : ∀ a ∈ A, k a ≠ k x) :
    (A.length + 1) + otherw k (mtf (A ++ x :: B) x) = otherw k (A ++ x :: B) + 2 * (A.filter fun a => decide (k a < k x)).length + 1 := by
  rw [mtf_split nd]
  have e1 : otherw k (x :: (A ++ B)) = ((A ++ B).filter fun b => decide (k b < k x)).length + otherw k (A ++ B) := rfl
  have e2 : otherw k (A ++ x :: B) = otherw k A + otherw k (x :: B) + (A.map fun a => ((x :: B).filter fun b => decide (k b < k a)).length).sum := otherw_app k A (x :: B)
  have e3 : (A.map fun a => ((x :: B).filter fun b => decide (k b < k a)).length).sum = (A.filter fun a => decide (k x < k a)).length + (A.map fun a => (B.filter fun b => decide (k b < k a)).length).sum := by
    rw [← sum_ind k x A, ← sum_add]
    congr 1
    apply List.map_congr_left
    intro a _
    rw [List.filter_cons]
    by_cases q : k x < k a <;> simp [q]; omega
  have e4 : A.length = (A.filter fun a => decide (k a < k x)).length + (A.filter fun a => decide (k x < k a)).length := by
    clear e1 e2 e3 nd
    induction A with
    | nil => rfl
    | cons a A ih =>
      have h1 := ih fun b hb => inj b (List.mem_cons_of_mem _ hb)
      have h2 := inj a (by simp)
      simp only [List.length_cons, List.filter_cons]
      by_cases q : k a < k x
      · have : ¬ k x < k a := by omega
        simp [q, this]; omega
      · have : k x < k a := by omega
        simp [q, this]; omega
  have e5 : otherw k (x :: B) = (B.filter fun b => decide (k b < k x)).length + otherw k B := rfl
  rw [e1, e2, e3, e5, otherw_app k A B, List.filter_append, List.length_append]
  omega
/-- few things stand ahead -/
theorem few_ahead : ∀ {n : Nat} {l : List Nat}, l.Nodup → (∀ x ∈ l, x < n) → l.length ≤ n
  | 0, [], _, _ => Nat.le_refl _
  | 0, x :: _, _, h => absurd (h x (by simp)) (by omega)
  | n + 1, l, nd, h => by
    by_cases q : n ∈ l
    · obtain ⟨A, B, rfl⟩ := List.append_of_mem q
      obtain ⟨n1, n2, d⟩ := List.nodup_append.mp nd
      obtain ⟨nB, n3⟩ := List.nodup_cons.mp n2
      have := few_ahead (n := n) (l := A ++ B) (List.nodup_append.mpr ⟨n1, n3, fun a ha b hb => d a ha b (by simp [hb])⟩) fun x hx => by
        have h1 : x < n + 1 := h x (by rcases List.mem_append.mp hx with z | z <;> simp [z])
        have h2 : x ≠ n := fun z => by
          subst z
          rcases List.mem_append.mp hx with z | z
          · exact d x z x (by simp) rfl
          · exact nB z
        omega
      simp only [List.length_append, List.length_cons] at this ⊢
      omega
    · have := few_ahead (n := n) (l := l) nd fun x hx => by
        have h1 := h x hx
        have h2 : x ≠ n := fun z => q (z ▸ hx)
        omega
      omega
end L46
end KP
/-! K46c: plain lists: sums over all pairs. -/
namespace KP
namespace L46
/-- sums over all pairs of a list -/
def psum (w : Int → Int → Nat) : List Int → Nat
  | [] => 0
  | a :: r => (r.map fun b => w a b).sum + psum w r
theorem psum_snoc (w : Int → Int → Nat) (a : Int) : ∀ l : List Int, psum w (l ++ [a]) = psum w l + (l.map fun b => w b a).sum
  | [] => rfl
  | c :: l => by
    simp only [List.cons_append, psum, psum_snoc w a l, List.map_append, List.sum_append, List.map_cons, List.sum_cons, List.map_nil, List.sum_nil]
    omega
theorem psum_add (f g : Int → Int → Nat) : ∀ l : List Int, psum (fun a b => f a b + g a b) l = psum f l + psum g l
  | [] => rfl
  | a :: l => by
    show (l.map fun b => f a b + g a b).sum + psum (fun a b => f a b + g a b) l = (l.map (f a)).sum + psum f l + ((l.map (g a)).sum + psum g l)
    rw [psum_add f g l]
    have := sum_add (f a) (g a) l
    omega
theorem psum_zero : ∀ l : List Int, psum (fun _ _ => 0) l = 0
  | [] => rfl
  | a :: l => by
    have e : (l.map fun _ : Int => 0).sum = 0 := by induction l with
      | nil => rfl
      | cons b l ih => simp [ih]
    simp only [psum, psum_zero l, e]
theorem psum_congr {f g : Int → Int → Nat} : ∀ {l : List Int}, l.Nodup → (∀ a ∈ l, ∀ b ∈ l, a ≠ b → f a b = g a b) → psum f l = psum g l
  | [], _, _ => rfl
  | a :: l, nd, h => by
    obtain ⟨na, nl⟩ := List.nodup_cons.mp nd
    have e1 : (l.map fun b => f a b) = l.map fun b => g a b := List.map_congr_left fun b hb => h a (by simp) b (by simp [hb]) fun z => na (z ▸ hb)
    simp only [psum, e1, psum_congr nl fun c hc d hd => h c (by simp [hc]) d (by simp [hd])]
/-- one ask for x where k tells the places: the pair a, b with the other one ahead -/
def wx (k : Int → Nat) (x a b : Int) : Nat := (if a = x ∧ k b < k x then 1 else 0) + (if b = x ∧ k a < k x then 1 else 0)
theorem wx_comm (k : Int → Nat) (x a b : Int) : wx k x a b = wx k x b a := by unfold wx; omega
theorem psum_out {k : Int → Nat} {x : Int} : ∀ {l : List Int}, x ∉ l → psum (wx k x) l = 0
  | [], _ => rfl
  | a :: l, h => by
    simp only [List.mem_cons, not_or] at h
    have e : (l.map fun b => wx k x a b).sum = 0 := by
      have : (l.map fun b => wx k x a b) = l.map fun _ => 0 := List.map_congr_left fun b hb => by
        have h1 : a ≠ x := fun z => h.1 z.symm
        have h2 : b ≠ x := fun z => h.2 (z ▸ hb)
        simp [wx, h1, h2]
      rw [this]
      clear this h
      induction l with
      | nil => rfl
      | cons b l ih => simp [ih]
    simp only [psum, e, psum_out h.2]
theorem sum_filter (p : Int → Prop) [DecidablePred p] : ∀ l : List Int, (l.map fun b => if p b then 1 else 0).sum = (l.filter fun b => decide (p b)).length
  | [] => rfl
  | a :: l => by
    simp only [List.map_cons, List.sum_cons, sum_filter p l, List.filter_cons]
    by_cases q : p a <;> simp [q]; omega
theorem sum_one (c : Prop) [Decidable c] {x : Int} : ∀ {l : List Int}, l.Nodup → x ∈ l → (l.map fun b => if b = x ∧ c then 1 else 0).sum = if c then 1 else 0
  | a :: l, nd, h => by
    obtain ⟨na, nl⟩ := List.nodup_cons.mp nd
    by_cases q : a = x
    · subst q
      have e : (l.map fun b => if b = a ∧ c then 1 else 0) = l.map fun _ => 0 := List.map_congr_left fun b hb => by
        have : b ≠ a := fun z => na (z ▸ hb)
        simp [this]
      have e0 : (l.map fun _ : Int => 0).sum = 0 := by
        clear e na nl nd h
        induction l with
        | nil => rfl
        | cons b l ih => simp [ih]
      simp only [List.map_cons, List.sum_cons, e, e0]
      simp
    · have h2 : x ∈ l := (List.mem_cons.mp h).resolve_left fun z => q z.symm
      simp only [List.map_cons, List.sum_cons, sum_one c nl h2]
      simp [q]
theorem psum_in {k : Int → Nat} {x : Int} : ∀ {l : List Int}, l.Nodup → x ∈ l → psum (wx k x) l = (l.filter fun y => decide (k y < k x)).length
  | a :: l, nd, h => by
    obtain ⟨na, nl⟩ := List.nodup_cons.mp nd
    by_cases q : a = x
    · subst q
      have e : (l.map fun b => wx k a a b) = l.map fun b => if k b < k a then 1 else 0 := List.map_congr_left fun b hb => by
        have : b ≠ a := fun z => na (z ▸ hb)
        simp [wx, this]
      simp only [psum, e, psum_out na, sum_filter, List.filter_cons]
      simp
    · have h2 : x ∈ l := (List.mem_cons.mp h).resolve_left fun z => q z.symm
      have e : (l.map fun b => wx k x a b) = l.map fun b => if b = x ∧ k a < k x then 1 else 0 := List.map_congr_left fun b hb => by
        simp [wx, q]
      simp only [psum, e, sum_one (k a < k x) nl h2, psum_in nl h2, List.filter_cons]
      by_cases r : k a < k x <;> simp [r]; omega
/-- a place is the number of things ahead -/
theorem idx_ahead {t : List Int} {x : Int} (nd : t.Nodup) (h : x ∈ t) : t.idxOf x = (t.filter fun y => decide (t.idxOf y < t.idxOf x)).length := by
  obtain ⟨A, B, e, n, hi⟩ := split_at h
  have hA : ∀ a ∈ A, t.idxOf a < t.idxOf x := fun a ha => by
    rw [hi, e, List.idxOf_append, if_pos ha]
    exact List.idxOf_lt_length_of_mem ha
  have hB : ∀ b ∈ x :: B, ¬ t.idxOf b < t.idxOf x := fun b hb z => by
    rw [hi, e] at z
    have nb : b ∉ A := fun q => (List.nodup_append.mp (e ▸ nd)).2.2 b q b hb rfl
    rw [List.idxOf_append, if_neg nb] at z
    omega
  have e2 : t.filter (fun y => decide (t.idxOf y < t.idxOf x)) = A := by
    conv => lhs; arg 2; rw [e]
    rw [List.filter_append, List.filter_eq_self.mpr fun a ha => by simpa using hA a ha, List.filter_eq_nil_iff.mpr fun b hb => by simpa using hB b hb]
    simp
  rw [e2, hi]
/-- the place told by all pairs of any list of the same things -/
theorem idx_pairs {t o : List Int} {x : Int} (nd : t.Nodup) (hp : o.Perm t) (h : x ∈ t) : t.idxOf x = psum (wx (fun y => t.idxOf y) x) o := by
  rw [psum_in (hp.nodup_iff.mpr nd) (hp.mem_iff.mpr h), (hp.filter _).length_eq]
  exact idx_ahead nd h
end L46
end KP
/-! K46d: plain lists: a row of asks, things moving to the front; by pairs; the bound. -/
namespace KP
namespace L46
/-- the places of the asked things, each moving to the front -/
def runM (t : List Int) : List Int → List Nat
  | [] => []
  | x :: r => t.idxOf x :: runM (mtf t x) r
theorem runM_snoc (x : Int) : ∀ (pre t : List Int), runM t (pre ++ [x]) = runM t pre ++ [(pre.foldl mtf t).idxOf x]
  | [], t => rfl
  | y :: pre, t => by simp only [List.cons_append, runM, List.foldl_cons, runM_snoc x pre]
theorem runM_length : ∀ (row t : List Int), (runM t row).length = row.length
  | [], _ => rfl
  | _ :: r, t => by simp [runM, runM_length r]
theorem foldM_perm : ∀ {row t : List Int}, t.Nodup → (∀ x ∈ row, x ∈ t) → (row.foldl mtf t).Perm t
  | [], t, _, _ => List.Perm.refl _
  | x :: r, t, nd, h => by
    have p := mtf_perm nd (h x (by simp))
    exact (foldM_perm (p.nodup_iff.mpr nd) fun y hy => p.mem_iff.mpr (h y (by simp [hy]))).trans p
/-- what two things cost among all asks -/
def pcost (a b : Int) : List Int → List Int → Nat
  | _, [] => 0
  | t, x :: r => wx (fun y => t.idxOf y) x a b + pcost a b (mtf t x) r
theorem run_pairs : ∀ {row t o : List Int}, t.Nodup → o.Perm t → (∀ x ∈ row, x ∈ t) → (runM t row).sum = psum (fun a b => pcost a b t row) o
  | [], t, o, _, _, _ => by
    show 0 = psum (fun _ _ => 0) o
    rw [psum_zero]
  | x :: r, t, o, nd, hp, h => by
    have p := mtf_perm nd (h x (by simp))
    have ih := run_pairs (row := r) (t := mtf t x) (o := o) (p.nodup_iff.mpr nd) (hp.trans p.symm) fun y hy => p.mem_iff.mpr (h y (by simp [hy]))
    show t.idxOf x + (runM (mtf t x) r).sum = psum (fun a b => wx (fun y => t.idxOf y) x a b + pcost a b (mtf t x) r) o
    rw [ih, idx_pairs nd hp (h x (by simp)), ← psum_add]
theorem lt_iff {t A B : List Int} {x b : Int} (e : t = A ++ x :: B) (n : x ∉ A) : t.idxOf b < t.idxOf x ↔ b ∈ A := by
  have hx : t.idxOf x = A.length := by rw [e, List.idxOf_append, if_neg n]; simp [List.idxOf_cons]
  rw [hx, e, List.idxOf_append]
  by_cases q : b ∈ A
  · rw [if_pos q]; exact ⟨fun _ => q, fun _ => List.idxOf_lt_length_of_mem q⟩
  · rw [if_neg q]; exact ⟨fun z => by omega, fun z => absurd z q⟩
theorem filter_lt {t : List Int} {p : Int → Bool} {x b : Int} (h : x ∈ t) (px : p x = true) (pb : p b = true) : (t.filter p).idxOf b < (t.filter p).idxOf x ↔ t.idxOf b < t.idxOf x := by
  obtain ⟨A, B, e, n, -⟩ := split_at h
  have e2 : t.filter p = A.filter p ++ x :: B.filter p := by rw [e, List.filter_append, List.filter_cons, px]; rfl
  rw [lt_iff e2 fun z => n (List.mem_filter.mp z).1, lt_iff e n]
  exact ⟨fun z => (List.mem_filter.mp z).1, fun z => List.mem_filter.mpr ⟨z, pb⟩⟩
theorem mtf_filter {t : List Int} {p : Int → Bool} {x : Int} : (mtf t x).filter p = if p x then mtf (t.filter p) x else t.filter p := by
  unfold mtf
  rw [List.filter_cons, List.filter_filter]
  by_cases q : p x
  · rw [if_pos q, if_pos q, List.filter_filter]
    congr 1
    apply List.filter_congr
    intro y _
    rw [Bool.and_comm]
  · rw [if_neg q, if_neg q]
    apply List.filter_congr
    intro y _
    by_cases z : y = x
    · subst z; simp [q]
    · simp [z]
def isP (a b : Int) : Int → Bool := fun y => decide (y = a ∨ y = b)
theorem pair_perm {t : List Int} {a b : Int} (nd : t.Nodup) (ha : a ∈ t) (hb : b ∈ t) (ne : a ≠ b) : ([a, b] : List Int).Perm (t.filter (isP a b)) :=
  (List.perm_ext_iff_of_nodup (by simp [ne]) (nd.sublist List.filter_sublist)).mpr fun y => by
    simp only [List.mem_cons, List.not_mem_nil, or_false, List.mem_filter, isP, decide_eq_true_eq]
    exact ⟨fun h => ⟨by rcases h with rfl | rfl <;> assumption, h⟩, fun h => h.2⟩
/-- the asks for two things alone, in the list of these two -/
theorem run_pair {a b : Int} (ne : a ≠ b) : ∀ {row t : List Int}, t.Nodup → a ∈ t → b ∈ t → (∀ x ∈ row, x ∈ t) → (runM (t.filter (isP a b)) (row.filter (isP a b))).sum = pcost a b t row
  | [], _, _, _, _, _ => rfl
  | x :: r, t, nd, ha, hb, h => by
    have hx := h x (by simp)
    have p := mtf_perm nd hx
    have ih := run_pair ne (row := r) (t := mtf t x) (p.nodup_iff.mpr nd) (p.mem_iff.mpr ha) (p.mem_iff.mpr hb) fun y hy => p.mem_iff.mpr (h y (by simp [hy]))
    rw [mtf_filter] at ih
    rw [List.filter_cons]
    by_cases q : isP a b x = true
    · rw [if_pos q] at ih ⊢
      show (t.filter (isP a b)).idxOf x + (runM (mtf (t.filter (isP a b)) x) (r.filter (isP a b))).sum = _
      rw [ih, idx_pairs (nd.sublist List.filter_sublist) (pair_perm nd ha hb ne) (List.mem_filter.mpr ⟨hx, q⟩)]
      have pa : isP a b a = true := by simp [isP]
      have pb : isP a b b = true := by simp [isP]
      have e : psum (wx (fun y => (t.filter (isP a b)).idxOf y) x) [a, b] = wx (fun y => t.idxOf y) x a b := by
        simp only [psum, List.map_cons, List.map_nil, List.sum_cons, List.sum_nil, Nat.add_zero]
        unfold wx
        simp only [filter_lt hx q pb, filter_lt hx q pa]
      rw [e]; rfl
    · rw [if_neg q] at ih ⊢
      rw [ih]
      have e : wx (fun y => t.idxOf y) x a b = 0 := by
        have h1 : ¬ (x = a ∨ x = b) := by simpa [isP] using q
        have h2 : a ≠ x := fun z => h1 (.inl z.symm)
        have h3 : b ≠ x := fun z => h1 (.inr z.symm)
        simp [wx, h2, h3]
      show _ = wx (fun y => t.idxOf y) x a b + pcost a b (mtf t x) r
      rw [e, Nat.zero_add]
/-- the fixed costs by pairs -/
def fcost (o : List Int) (a b : Int) : List Int → Nat
  | [] => 0
  | x :: r => wx (fun y => o.idxOf y) x a b + fcost o a b r
theorem fix_pairs {o : List Int} (nd : o.Nodup) : ∀ {row : List Int}, (∀ x ∈ row, x ∈ o) → (row.map fun x => o.idxOf x).sum = psum (fun a b => fcost o a b row) o
  | [], _ => by
    show 0 = psum (fun _ _ => 0) o
    rw [psum_zero]
  | x :: r, h => by
    show o.idxOf x + (r.map fun x => o.idxOf x).sum = psum (fun a b => wx (fun y => o.idxOf y) x a b + fcost o a b r) o
    rw [fix_pairs nd fun y hy => h y (by simp [hy]), idx_pairs nd (List.Perm.refl _) (h x (by simp)), ← psum_add]
theorem fix_pair {o : List Int} {a b : Int} (nd : o.Nodup) (ne : a ≠ b) (ha : a ∈ o) (hb : b ∈ o) : ∀ {row : List Int}, (∀ x ∈ row, x ∈ o) → ((row.filter (isP a b)).map fun x => (o.filter (isP a b)).idxOf x).sum = fcost o a b row
  | [], _ => rfl
  | x :: r, h => by
    have hx := h x (by simp)
    have ih := fix_pair nd ne ha hb (row := r) fun y hy => h y (by simp [hy])
    rw [List.filter_cons]
    by_cases q : isP a b x = true
    · rw [if_pos q]
      show (o.filter (isP a b)).idxOf x + ((r.filter (isP a b)).map fun x => (o.filter (isP a b)).idxOf x).sum = _
      rw [ih]
      rw [idx_pairs (nd.sublist List.filter_sublist) (pair_perm nd ha hb ne) (List.mem_filter.mpr ⟨hx, q⟩)]
      have pa : isP a b a = true := by simp [isP]
      have pb : isP a b b = true := by simp [isP]
      have e : psum (wx (fun y => (o.filter (isP a b)).idxOf y) x) [a, b] = wx (fun y => o.idxOf y) x a b := by
        simp only [psum, List.map_cons, List.map_nil, List.sum_cons, List.sum_nil, Nat.add_zero]
        unfold wx
        simp only [filter_lt hx q pb, filter_lt hx q pa]
      rw [e]; rfl
    · rw [if_neg q, ih]
      have e : wx (fun y => o.idxOf y) x a b = 0 := by
        have h1 : ¬ (x = a ∨ x = b) := by simpa [isP] using q
        have h2 : a ≠ x := fun z => h1 (.inl z.symm)
        have h3 : b ≠ x := fun z => h1 (.inr z.symm)
        simp [wx, h2, h3]
      show _ = wx (fun y => o.idxOf y) x a b + fcost o a b r
      rw [e, Nat.zero_add]
/-- an ask's cost and the growth of the pairs that stand otherwise -/
theorem ask_bound {o t : List Int} {x : Int} (no : o.Nodup) (nd : t.Nodup) (sub : ∀ y ∈ t, y ∈ o) (hx : x ∈ t) :
    (t.idxOf x + 1) + otherw (fun y => o.idxOf y) (mtf t x) ≤ otherw (fun y => o.idxOf y) t + 2 * o.idxOf x + 1 := by
  obtain ⟨A, B, rfl, n, hi⟩ := split_at hx
  have inj : ∀ y ∈ A ++ x :: B, ∀ z ∈ A ++ x :: B, o.idxOf y = o.idxOf z → y = z := fun y hy z hz e => by
    have h1 := List.getElem_idxOf (List.idxOf_lt_length_of_mem (sub y hy))
    have h2 := List.getElem_idxOf (List.idxOf_lt_length_of_mem (sub z hz))
    rw [← h1, ← h2]
    congr 1
  have hA : ∀ a ∈ A, o.idxOf a ≠ o.idxOf x := fun a ha e => n (inj a (by simp [ha]) x (by simp) e ▸ ha)
  have key := mtf_pot (k := fun y => o.idxOf y) nd hA
  have few : (A.filter fun a => decide (o.idxOf a < o.idxOf x)).length ≤ o.idxOf x := by
    have e := few_ahead (n := o.idxOf x) (l := (A.filter fun a => decide (o.idxOf a < o.idxOf x)).map fun a => o.idxOf a) ?_ ?_
    · simpa using e
    · have nA := (List.nodup_append.mp nd).1
      have nF := nA.sublist (List.filter_sublist (p := fun a => decide (o.idxOf a < o.idxOf x)))
      have hsub : ∀ y ∈ (A.filter fun a => decide (o.idxOf a < o.idxOf x)), y ∈ A := fun y hy => (List.mem_filter.mp hy).1
      revert nF hsub
      generalize (A.filter fun a => decide (o.idxOf a < o.idxOf x)) = L
      intro nF hsub
      induction L with
      | nil => exact List.nodup_nil
      | cons y L ih =>
        obtain ⟨n1, n2⟩ := List.nodup_cons.mp nF
        rw [List.map_cons]
        refine List.nodup_cons.mpr ⟨fun z => ?_, ih n2 fun w hw => hsub w (by simp [hw])⟩
        obtain ⟨w, hw, e⟩ := List.mem_map.mp z
        have := inj w (by simp [hsub w (by simp [hw])]) y (by simp [hsub y (by simp)]) e
        exact n1 (this ▸ hw)
    · intro y hy
      obtain ⟨a, ha, rfl⟩ := List.mem_map.mp hy
      simpa using (List.mem_filter.mp ha).2
  rw [hi]
  omega
end L46
end KP
/-! K46e: plain lists: the best list that stays. -/
namespace KP
namespace L46
theorem fix_pairs2 {l o : List Int} (nd : l.Nodup) (hp : o.Perm l) : ∀ {row : List Int}, (∀ x ∈ row, x ∈ l) → (row.map fun x => l.idxOf x).sum = psum (fun a b => fcost l a b row) o
  | [], _ => by
    show 0 = psum (fun _ _ => 0) o
    rw [psum_zero]
  | x :: r, h => by
    show l.idxOf x + (r.map fun x => l.idxOf x).sum = psum (fun a b => wx (fun y => l.idxOf y) x a b + fcost l a b r) o
    rw [fix_pairs2 nd hp fun y hy => h y (by simp [hy]), idx_pairs nd hp (h x (by simp)), ← psum_add]
theorem fcost_eq {l : List Int} {a b : Int} (ne : a ≠ b) : ∀ row : List Int, fcost l a b row = (if l.idxOf b < l.idxOf a then row.count a else 0) + (if l.idxOf a < l.idxOf b then row.count b else 0)
  | [] => by simp [fcost]
  | x :: r => by
    show wx (fun y => l.idxOf y) x a b + fcost l a b r = _
    rw [fcost_eq ne r]
    unfold wx
    simp only [List.count_cons]
    by_cases h1 : a = x
    · subst h1
      have h2 : ¬ b = a := fun z => ne z.symm
      have h3 : (a == b) = false := by simpa using ne
      simp only [h2, h3, true_and, false_and, if_false, beq_self_eq_true, if_true]
      by_cases q : l.idxOf b < l.idxOf a
      · have : ¬ l.idxOf a < l.idxOf b := by omega
        simp [q, this]; omega
      · simp [q]
    · by_cases h2 : b = x
      · subst h2
        have h3 : (b == a) = false := by simpa using fun z => ne z.symm
        simp only [h1, h3, true_and, false_and, if_false, beq_self_eq_true, if_true]
        by_cases q : l.idxOf a < l.idxOf b
        · have : ¬ l.idxOf b < l.idxOf a := by omega
          simp [q, this]; omega
        · simp [q]
      · have h3 : (x == a) = false := by simpa using fun z => h1 z.symm
        have h4 : (x == b) = false := by simpa using fun z => h2 z.symm
        simp [h1, h2, h3, h4]
theorem psum_le {f g : Int → Int → Nat} : ∀ {l : List Int}, l.Nodup → (∀ a ∈ l, ∀ b ∈ l, a ≠ b → f a b ≤ g a b) → psum f l ≤ psum g l
  | [], _, _ => Nat.le_refl _
  | a :: l, nd, h => by
    obtain ⟨na, nl⟩ := List.nodup_cons.mp nd
    have h1 := psum_le nl fun c hc d hd => h c (by simp [hc]) d (by simp [hd])
    have h2 : (l.map fun b => f a b).sum ≤ (l.map fun b => g a b).sum := by
      have h3 : ∀ b ∈ l, f a b ≤ g a b := fun b hb => h a (by simp) b (by simp [hb]) fun z => na (z ▸ hb)
      clear h h1 nd na nl
      induction l with
      | nil => exact Nat.le_refl _
      | cons b l ih =>
        have := ih fun c hc => h3 c (by simp [hc])
        have := h3 b (by simp)
        simp only [List.map_cons, List.sum_cons]
        omega
    exact Nat.add_le_add h2 h1
theorem idx_ne {l : List Int} {a b : Int} (ha : a ∈ l) (hb : b ∈ l) (ne : a ≠ b) : l.idxOf a ≠ l.idxOf b := fun e => by
  have h1 := List.getElem_idxOf (List.idxOf_lt_length_of_mem ha)
  have h2 := List.getElem_idxOf (List.idxOf_lt_length_of_mem hb)
  apply ne
  rw [← h1, ← h2]
  congr 1
/-- a list in which those asked for more come first costs least of all lists of the same things -/
theorem best_least {row best l : List Int} (nd : best.Nodup) (hp : l.Perm best) (hr : ∀ x ∈ row, x ∈ best) (hs : best.Pairwise fun a b => row.count b ≤ row.count a) :
    (row.map fun x => best.idxOf x).sum ≤ (row.map fun x => l.idxOf x).sum := by
  have nl : l.Nodup := hp.nodup_iff.mpr nd
  rw [fix_pairs2 nd (List.Perm.refl best) hr, fix_pairs2 nl hp.symm fun x hx => hp.mem_iff.mpr (hr x hx)]
  refine psum_le nd fun a ha b hb ne => ?_
  rw [fcost_eq ne, fcost_eq ne]
  have key : ∀ {c d : Int}, c ∈ best → d ∈ best → best.idxOf c < best.idxOf d → row.count d ≤ row.count c := fun {c d} hc hd h => by
    have h1 := List.idxOf_lt_length_of_mem hc
    have h2 := List.idxOf_lt_length_of_mem hd
    have := List.pairwise_iff_getElem.mp hs _ _ h1 h2 h
    rwa [List.getElem_idxOf h1, List.getElem_idxOf h2] at this
  have n1 := idx_ne ha hb ne
  have n2 := idx_ne (hp.mem_iff.mpr ha) (hp.mem_iff.mpr hb) ne
  by_cases q : best.idxOf b < best.idxOf a
  · have q' : ¬ best.idxOf a < best.idxOf b := by omega
    have := key hb ha q
    by_cases r : l.idxOf b < l.idxOf a
    · have r' : ¬ l.idxOf a < l.idxOf b := by omega
      simp [q, q', r, r']
    · have r' : l.idxOf a < l.idxOf b := by omega
      simp [q, q', r, r']; omega
  · have q' : best.idxOf a < best.idxOf b := by omega
    have := key ha hb q'
    by_cases r : l.idxOf b < l.idxOf a
    · have r' : ¬ l.idxOf a < l.idxOf b := by omega
      simp [q, q', r, r']; omega
    · have r' : l.idxOf a < l.idxOf b := by omega
      simp [q, q', r, r']
end L46
end KP
/-! K46t: plain lists: two things; asks behind the other one. -/
namespace KP
namespace L46
def cc (f : Int) : List Int → Nat
  | [] => 0
  | x :: r => (if x = f then 0 else 1) + cc x r
theorem run2 : ∀ {asks : List Int} {f o : Int}, f ≠ o → (∀ x ∈ asks, x = f ∨ x = o) → (runM [f, o] asks).sum = cc f asks
  | [], _, _, _, _ => rfl
  | x :: r, f, o, ne, h => by
    show [f, o].idxOf x + (runM (mtf [f, o] x) r).sum = (if x = f then 0 else 1) + cc x r
    have ne' : ¬ o = f := fun z => ne z.symm
    rcases h x (by simp) with rfl | rfl
    · have e : mtf [x, o] x = [x, o] := by simp [mtf, ne']
      rw [e, run2 ne fun y hy => h y (by simp [hy])]
      simp [List.idxOf_cons]
    · have e : mtf [f, x] x = [x, f] := by simp [mtf, ne]
      have e0 : (f == x) = false := by simpa using ne
      rw [e, run2 ne' fun y hy => (h y (by simp [hy])).symm]
      simp [List.idxOf_cons, e0, ne']
theorem fix2 : ∀ {asks : List Int} {f o : Int}, f ≠ o → (∀ x ∈ asks, x = f ∨ x = o) → (asks.map fun x => [f, o].idxOf x).sum = (asks.filter fun x => decide (x = o)).length
  | [], _, _, _, _ => rfl
  | x :: r, f, o, ne, h => by
    have ih := fix2 ne fun y hy => h y (List.mem_cons_of_mem x hy)
    have ne' : ¬ o = f := fun z => ne z.symm
    simp only [List.map_cons, List.sum_cons, ih, List.filter_cons]
    rcases h x (by simp) with rfl | rfl
    · simp [List.idxOf_cons, ne]
    · have e0 : (f == x) = false := by simpa using ne
      simp [List.idxOf_cons, e0]; omega
end L46
end KP
/-! K46v: plain lists: all orders. -/
namespace KP
namespace L46
def ords : Nat → List Int → List (List Int)
  | 0, _ => [[]]
  | n + 1, t => if t = [] then [[]] else (List.range t.length).flatMap fun i => (ords n (t.take i ++ t.drop (i + 1))).map fun r => t.getD i 0 :: r
theorem ords_perm : ∀ {n : Nat} {t r : List Int}, t.length ≤ n → r ∈ ords n t → r.Perm t
  | 0, t, r, h, hr => by
    have : t = [] := List.eq_nil_of_length_eq_zero (by omega)
    subst this
    simp only [ords, List.mem_singleton] at hr
    subst hr; exact List.Perm.refl _
  | n + 1, t, r, h, hr => by
    unfold ords at hr
    split at hr
    · rename_i e
      subst e
      simp only [List.mem_singleton] at hr
      subst hr; exact List.Perm.refl _
    · obtain ⟨i, hi, hr⟩ := List.mem_flatMap.mp hr
      obtain ⟨s, hs, rfl⟩ := List.mem_map.mp hr
      have hi := List.mem_range.mp hi
      have hp := ords_perm (n := n) (t := t.take i ++ t.drop (i + 1)) (by simp; omega) hs
      have e : t.getD i 0 = t[i] := by simp [List.getD_eq_getElem?_getD, List.getElem?_eq_getElem hi]
      rw [e]
      refine (List.Perm.cons _ hp).trans ?_
      have : t = t.take i ++ t[i] :: t.drop (i + 1) := by rw [← List.drop_eq_getElem_cons hi, List.take_append_drop]
      conv => rhs; rw [this]
      exact List.perm_middle.symm
theorem ords_all : ∀ {n : Nat} {t r : List Int}, t.length ≤ n → r.Perm t → r ∈ ords n t
  | 0, t, r, h, hr => by
    have : t = [] := List.eq_nil_of_length_eq_zero (by omega)
    subst this
    rw [List.perm_nil.mp hr]; simp [ords]
  | n + 1, t, r, h, hr => by
    unfold ords
    split
    · rename_i e
      subst e
      rw [List.perm_nil.mp hr]; simp
    · rename_i ne
      match r, hr with
      | [], hr => exact absurd (List.nil_perm.mp hr) ne
      | x :: s, hr =>
        have hx : x ∈ t := hr.mem_iff.mp (by simp)
        obtain ⟨A, B, e⟩ := List.append_of_mem hx
        refine List.mem_flatMap.mpr ⟨A.length, List.mem_range.mpr (by rw [e]; simp), List.mem_map.mpr ⟨s, ?_, ?_⟩⟩
        · have e2 : t.take A.length ++ t.drop (A.length + 1) = A ++ B := by
            rw [e, List.take_left' rfl, show A ++ x :: B = (A ++ [x]) ++ B by simp, List.drop_left' (by simp)]
          rw [e2]
          have hl : t.length = A.length + B.length + 1 := by rw [e]; simp; omega
          refine ords_all (by simp; omega) ?_
          rw [e] at hr
          exact (hr.trans List.perm_middle).cons_inv
        · congr 1
          rw [e]
          simp [List.getD_eq_getElem?_getD]
end L46
end KP
/-! K46f: the program's costs, mirrored. -/
namespace KP
namespace L46
open PySem L2 Com
theorem findIdx_eq {xs : List Int} {k : Int} : (xs.map D.int).findIdx? (fun z => D.eqv z (.int k)) = xs.findIdx? fun x => decide (x = k) := by
  rw [List.findIdx?_map]
  congr 1
theorem meIndexI {xs : List Int} {k : Int} {i : Nat} (h : xs.findIdx? (fun x => decide (x = k)) = some i) : meIndex (.lst (xs.map .int)) [.int k] = some (.sh (.int i)) := by
  simp only [meIndex, ok_int, okn_ints', Bool.and_self, if_true, findIdx_eq, h, Option.map_some]
theorem findIdx_idxOf {xs : List Int} {x : Int} (h : x ∈ xs) : xs.findIdx? (fun y => decide (y = x)) = some (xs.idxOf x) := by
  induction xs with
  | nil => cases h
  | cons y t ih =>
    rw [List.findIdx?_cons, List.idxOf_cons]
    by_cases q : y = x
    · subst q; simp
    · have e0 : (y == x) = false := by simpa using q
      simp [q, e0, ih ((List.mem_cons.mp h).resolve_left fun z => q z.symm)]
theorem meIdx {xs : List Int} {x : Int} (h : x ∈ xs) : meIndex (.lst (xs.map .int)) [.int x] = some (.sh (.int (xs.idxOf x : Nat))) := meIndexI (findIdx_idxOf h)
structure OC (row order : List Int) : Prop where
  l1 : 1 ≤ row.length
  l2 : row.length ≤ 60
  th : ∀ x ∈ row, 0 ≤ x ∧ x < 26
  nd : order.Nodup
  ot : ∀ x ∈ order, 0 ≤ x ∧ x < 26
  sub : ∀ x ∈ row, x ∈ order
  ol : order.length ≤ 26
theorem p_is_list_for {row order : List Int} (h : OC row order) : pf F_is_list_for [.lst (row.map .int), .lst (order.map .int)] = some (.sh (.bl true)) := by
  unfold pf F_is_list_for runF
  have hz : ¬ ∃ x, x ∈ order ∧ (0 ≤ x → 26 ≤ x) := fun ⟨x, hx, q⟩ => by have := h.ot x hx; have := q this.1; omega
  simp [evSs, evS, evX, evXs, evXan, evXor, evXo, evXc, evXt, evp, evs, evAnd, evOr, evo, evc, evi, ShR, AlR, shS, alS, O.pu, O.puL, O.d, O.dL, Ro1, Ro2, Ro3, Ro4, Rd1, Rd2, Rd3, Rd4, Rf1, Rf2, Rf3, Rf4, iteB1, iteB2, iteR1, iteR, iteBl, iteIn, D.fl, D.flL, asB1, asO1, at21, getAll, setAll, unS, frz1, frzS, backS, bT1, bT2, bT3, bT4, bT5, bO1, bO2, bO3, bO4, bO5, bO6, bO7, bO8, bO9, C.d, oAdd, oSub, oMul1, oMul2, oMulC, oMod, oFdiv, itemsD, ixL, ixT, ai0, ai1, ai2, putL, xn0, xn1, xn2, cEq, cLt, cLe, cGt, cGe, cNe, addNL, addNR, start0_eq, mapS, mapD, foldO, pmapE, pmap, Tg.ids, Tgs.ids, biAll, LIM, ok_non, ok_bl, ok_int, ok_lst, ok_tup, okn_non, okn_bl, okn_int, okn_lst, okn_tup, okn_ints, okn_ints', flL_ints, mapOI, flL_mapI, eqv_int, eqv_bl, eqv_LI, eqD_LI, eqD_nilI, filterT, eqD_nil0, eqD_int, eqD_bl, cEqD, cNeD, cIn, cNin, cIs, cIsn, inD_LI, inD_nilI, ints?_map, ints?_ints, atI_map, atI_nat, cutL_map, slD_map, compL_map, compL_enum, rangeD_I, compG_some, compG_all, dL_sh, dL_sh', map_sh, foldI, foldI1, addL, -List.map_cons, -List.map_append, -List.map_map, -List.map_take, -List.map_drop, -List.map_reverse, Rd2, biLen, biLenT, biListL, biSorted, biMax2, biMin2, biInt, isD1, isD2, G_is_list_for, B_is_list_for, isiD, tyD, p_is_thing, hz, dedupI_nodup h.nd, show order.length ≤ 4000 by have := h.ol; omega]
  exact h.sub
theorem p_check_list {row order : List Int} (h : OC row order) : pf F_check_list [.lst (row.map .int), .lst (order.map .int)] = some (.sh .non) := by
  unfold pf F_check_list runF
  simp [evSs, evS, evX, evXs, evXan, evXor, evXo, evXc, evXt, evp, evs, evAnd, evOr, evo, evc, evi, ShR, AlR, shS, alS, O.pu, O.puL, O.d, O.dL, Ro1, Ro2, Ro3, Ro4, Rd1, Rd2, Rd3, Rd4, Rf1, Rf2, Rf3, Rf4, iteB1, iteB2, iteR1, iteR, iteBl, iteIn, D.fl, D.flL, asB1, asO1, at21, getAll, setAll, unS, frz1, frzS, backS, bT1, bT2, bT3, bT4, bT5, bO1, bO2, bO3, bO4, bO5, bO6, bO7, bO8, bO9, C.d, oAdd, oSub, oMul1, oMul2, oMulC, oMod, oFdiv, itemsD, ixL, ixT, ai0, ai1, ai2, putL, xn0, xn1, xn2, cEq, cLt, cLe, cGt, cGe, cNe, addNL, addNR, start0_eq, mapS, mapD, foldO, pmapE, pmap, Tg.ids, Tgs.ids, biAll, LIM, ok_non, ok_bl, ok_int, ok_lst, ok_tup, okn_non, okn_bl, okn_int, okn_lst, okn_tup, okn_ints, okn_ints', flL_ints, mapOI, flL_mapI, eqv_int, eqv_bl, eqv_LI, eqD_LI, eqD_nilI, filterT, eqD_nil0, eqD_int, eqD_bl, cEqD, cNeD, cIn, cNin, cIs, cIsn, inD_LI, inD_nilI, ints?_map, ints?_ints, atI_map, atI_nat, cutL_map, slD_map, compL_map, compL_enum, rangeD_I, compG_some, compG_all, dL_sh, dL_sh', map_sh, foldI, foldI1, addL, -List.map_cons, -List.map_append, -List.map_map, -List.map_take, -List.map_drop, -List.map_reverse, Rd2, biLen, biLenT, biListL, biSorted, biMax2, biMin2, biInt, isD1, isD2, G_check_list, B_check_list, p_is_list_for h]
theorem OC.row {row order : List Int} (h : OC row order) : pf F_check_row [.lst (row.map .int)] = some (.sh .non) := p_check_row h.l1 h.l2 h.th
def fixI (row order : List Int) : List Int := row.map fun x => (order.idxOf x : Int) + 1
theorem r_fixed_of {row order : List Int} (h : ∀ x ∈ row, x ∈ order) (hl : row.length ≤ 1000) : F_fixed_of [] [.lst (row.map .int), .lst (order.map .int)] = some (.ol ((fixI row order).map fun x => .sh (.int x)), []) := by
  unfold F_fixed_of runF
  simp [evSs, evS, evX, evXs, evXan, evXor, evXo, evXc, evXt, evp, evs, evAnd, evOr, evo, evc, evi, ShR, AlR, shS, alS, O.pu, O.puL, O.d, O.dL, Ro1, Ro2, Ro3, Ro4, Rd1, Rd2, Rd3, Rd4, Rf1, Rf2, Rf3, Rf4, iteB1, iteB2, iteR1, iteR, iteBl, iteIn, D.fl, D.flL, asB1, asO1, at21, getAll, setAll, unS, frz1, frzS, backS, bT1, bT2, bT3, bT4, bT5, bO1, bO2, bO3, bO4, bO5, bO6, bO7, bO8, bO9, C.d, oAdd, oSub, oMul1, oMul2, oMulC, oMod, oFdiv, itemsD, ixL, ixT, ai0, ai1, ai2, putL, xn0, xn1, xn2, cEq, cLt, cLe, cGt, cGe, cNe, addNL, addNR, start0_eq, mapS, mapD, foldO, pmapE, pmap, Tg.ids, Tgs.ids, biAll, LIM, ok_non, ok_bl, ok_int, ok_lst, ok_tup, okn_non, okn_bl, okn_int, okn_lst, okn_tup, okn_ints, okn_ints', flL_ints, mapOI, flL_mapI, eqv_int, eqv_bl, eqv_LI, eqD_LI, eqD_nilI, filterT, eqD_nil0, eqD_int, eqD_bl, cEqD, cNeD, cIn, cNin, cIs, cIsn, inD_LI, inD_nilI, ints?_map, ints?_ints, atI_map, atI_nat, cutL_map, slD_map, compL_map, compL_enum, rangeD_I, compG_some, compG_all, dL_sh, dL_sh', map_sh, foldI, foldI1, addL, -List.map_cons, -List.map_append, -List.map_map, -List.map_take, -List.map_drop, -List.map_reverse, Rd2, biLen, biLenT, biListL, biSorted, biMax2, biMin2, biInt, isD1, isD2, G_fixed_of, B_fixed_of, meD]
  rw [compG_map (xs := row) (fun x => D.int ((order.idxOf x : Int) + 1)) (fun x hx => rfl) (fun x hx => by simp [meIdx (h x hx), oAdd, Ro1, Rd1])]
  simp [fixI, Function.comp_def, Ro2]
def costs (row order : List Int) : List Int := (runM order row).map fun n : Nat => (n : Int) + 1
theorem costs_snoc (order pre : List Int) (x : Int) : costs (pre ++ [x]) order = costs pre order ++ [((pre.foldl mtf order).idxOf x : Int) + 1] := by simp [costs, runM_snoc]
theorem costs_length (row order : List Int) : (costs row order).length = row.length := by simp [costs, runM_length]
theorem mtf_len {t : List Int} {x : Int} (nd : t.Nodup) (h : x ∈ t) : (t.filter fun y => !decide (y = x)).length + 1 = t.length := by
  have := (mtf_perm nd h).length_eq
  simpa [mtf] using this
theorem r_moved_of {row order : List Int} (nd : order.Nodup) (sub : ∀ x ∈ row, x ∈ order) (hl : row.length ≤ 1000) (ho : order.length ≤ 1000) :
    F_moved_of [] [.lst (row.map .int), .lst (order.map .int)] = some (.ot [.ol ((costs row order).map fun x => .sh (.int x)), .ol ((row.foldl mtf order).map fun x => .sh (.int x))], []) := by
  have loop := fo_map (G := G_moved_of) (tg := .nm 4) (it := .sq (.p (.v 0))) (b := Y_moved_of_1) (xs := row) (e := D.int)
    (ρ := [some (.sh (.lst (row.map .int))), some (.sh (.lst (order.map .int))), some (.ol (order.map fun x => .sh (.int x))), some (.ol []), none, none])
    (fun pre ρ => ∃ (j k : Option O), ρ = [some (.sh (.lst (row.map .int))), some (.sh (.lst (order.map .int))), some (.ol ((pre.foldl mtf order).map fun x => .sh (.int x))), some (.ol ((costs pre order).map fun x => .sh (.int x))), j, k])
    (by simp [evSs, evS, evX, evXs, evXan, evXor, evXo, evXc, evXt, evp, evs, evAnd, evOr, evo, evc, evi, ShR, AlR, shS, alS, O.pu, O.puL, O.d, O.dL, Ro1, Ro2, Ro3, Ro4, Rd1, Rd2, Rd3, Rd4, Rf1, Rf2, Rf3, Rf4, iteB1, iteB2, iteR1, iteR, iteBl, iteIn, D.fl, D.flL, asB1, asO1, at21, getAll, setAll, unS, frz1, frzS, backS, bT1, bT2, bT3, bT4, bT5, bO1, bO2, bO3, bO4, bO5, bO6, bO7, bO8, bO9, C.d, oAdd, oSub, oMul1, oMul2, oMulC, oMod, oFdiv, itemsD, ixL, ixT, ai0, ai1, ai2, putL, xn0, xn1, xn2, cEq, cLt, cLe, cGt, cGe, cNe, addNL, addNR, start0_eq, mapS, mapD, foldO, pmapE, pmap, Tg.ids, Tgs.ids, biAll, LIM, ok_non, ok_bl, ok_int, ok_lst, ok_tup, okn_non, okn_bl, okn_int, okn_lst, okn_tup, okn_ints, okn_ints', flL_ints, mapOI, flL_mapI, eqv_int, eqv_bl, eqv_LI, eqD_LI, eqD_nilI, filterT, eqD_nil0, eqD_int, eqD_bl, cEqD, cNeD, cIn, cNin, cIs, cIsn, inD_LI, inD_nilI, ints?_map, ints?_ints, atI_map, atI_nat, cutL_map, slD_map, compL_map, compL_enum, rangeD_I, compG_some, compG_all, dL_sh, dL_sh', map_sh, foldI, foldI1, addL, -List.map_cons, -List.map_append, -List.map_map, -List.map_take, -List.map_drop, -List.map_reverse, Rd2, biLen, biLenT, biListL, biSorted, biMax2, biMin2, biInt, isD1, isD2] <;> rfl) ⟨none, none, rfl⟩ fun pre x post ρ e ⟨j, k, e2⟩ => by
      subst e2
      have hlp := congrArg List.length e
      simp at hlp
      have hc := costs_length pre order
      have hp := foldM_perm (row := pre) nd fun y hy => sub y (by rw [e]; simp [hy])
      have hx : x ∈ pre.foldl mtf order := hp.mem_iff.mpr (sub x (by rw [e]; simp))
      have hnd := hp.nodup_iff.mpr nd
      have hlen := mtf_len hnd hx
      have hpl := hp.length_eq
      rw [costs_snoc, List.foldl_append, List.foldl_cons, List.foldl_nil]
      generalize pre.foldl mtf order = t at *
      refine ⟨_, by simp [evSs, evS, evX, evXs, evXan, evXor, evXo, evXc, evXt, evp, evs, evAnd, evOr, evo, evc, evi, ShR, AlR, shS, alS, O.pu, O.puL, O.d, O.dL, Ro1, Ro2, Ro3, Ro4, Rd1, Rd2, Rd3, Rd4, Rf1, Rf2, Rf3, Rf4, iteB1, iteB2, iteR1, iteR, iteBl, iteIn, D.fl, D.flL, asB1, asO1, at21, getAll, setAll, unS, frz1, frzS, backS, bT1, bT2, bT3, bT4, bT5, bO1, bO2, bO3, bO4, bO5, bO6, bO7, bO8, bO9, C.d, oAdd, oSub, oMul1, oMul2, oMulC, oMod, oFdiv, itemsD, ixL, ixT, ai0, ai1, ai2, putL, xn0, xn1, xn2, cEq, cLt, cLe, cGt, cGe, cNe, addNL, addNR, start0_eq, mapS, mapD, foldO, pmapE, pmap, Tg.ids, Tgs.ids, biAll, LIM, ok_non, ok_bl, ok_int, ok_lst, ok_tup, okn_non, okn_bl, okn_int, okn_lst, okn_tup, okn_ints, okn_ints', flL_ints, mapOI, flL_mapI, eqv_int, eqv_bl, eqv_LI, eqD_LI, eqD_nilI, filterT, eqD_nil0, eqD_int, eqD_bl, cEqD, cNeD, cIn, cNin, cIs, cIsn, inD_LI, inD_nilI, ints?_map, ints?_ints, atI_map, atI_nat, cutL_map, slD_map, compL_map, compL_enum, rangeD_I, compG_some, compG_all, dL_sh, dL_sh', map_sh, foldI, foldI1, addL, -List.map_cons, -List.map_append, -List.map_map, -List.map_take, -List.map_drop, -List.map_reverse, Rd2, biLen, biLenT, biListL, biSorted, biMax2, biMin2, biInt, isD1, isD2] <;> rfl, _, .inl (by simp [evSs, evS, evX, evXs, evXan, evXor, evXo, evXc, evXt, evp, evs, evAnd, evOr, evo, evc, evi, ShR, AlR, shS, alS, O.pu, O.puL, O.d, O.dL, Ro1, Ro2, Ro3, Ro4, Rd1, Rd2, Rd3, Rd4, Rf1, Rf2, Rf3, Rf4, iteB1, iteB2, iteR1, iteR, iteBl, iteIn, D.fl, D.flL, asB1, asO1, at21, getAll, setAll, unS, frz1, frzS, backS, bT1, bT2, bT3, bT4, bT5, bO1, bO2, bO3, bO4, bO5, bO6, bO7, bO8, bO9, C.d, oAdd, oSub, oMul1, oMul2, oMulC, oMod, oFdiv, itemsD, ixL, ixT, ai0, ai1, ai2, putL, xn0, xn1, xn2, cEq, cLt, cLe, cGt, cGe, cNe, addNL, addNR, start0_eq, mapS, mapD, foldO, pmapE, pmap, Tg.ids, Tgs.ids, biAll, LIM, ok_non, ok_bl, ok_int, ok_lst, ok_tup, okn_non, okn_bl, okn_int, okn_lst, okn_tup, okn_ints, okn_ints', flL_ints, mapOI, flL_mapI, eqv_int, eqv_bl, eqv_LI, eqD_LI, eqD_nilI, filterT, eqD_nil0, eqD_int, eqD_bl, cEqD, cNeD, cIn, cNin, cIs, cIsn, inD_LI, inD_nilI, ints?_map, ints?_ints, atI_map, atI_nat, cutL_map, slD_map, compL_map, compL_enum, rangeD_I, compG_some, compG_all, dL_sh, dL_sh', map_sh, foldI, foldI1, addL, -List.map_cons, -List.map_append, -List.map_map, -List.map_take, -List.map_drop, -List.map_reverse, Rd2, biLen, biLenT, biListL, biSorted, biMax2, biMin2, biInt, isD1, isD2, G_moved_of, Y_moved_of_1, meD, meIdx hx, hc, show pre.length < 100000 by omega, show 1 + (t.filter fun y => !decide (y = x)).length ≤ 100000 by omega] <;> rfl), ?_⟩
      simp only [mtf, List.map_append, List.map_cons, List.map_nil]
      exact ⟨_, _, rfl⟩
  obtain ⟨ρ', h1, j, k, rfl⟩ := loop
  have h1' : evS G_moved_of W_moved_of_1 _ = _ := h1
  simp only [G_moved_of] at h1'
  unfold F_moved_of runF
  simp [evSs, evS, evX, evXs, evXan, evXor, evXo, evXc, evXt, evp, evs, evAnd, evOr, evo, evc, evi, ShR, AlR, shS, alS, O.pu, O.puL, O.d, O.dL, Ro1, Ro2, Ro3, Ro4, Rd1, Rd2, Rd3, Rd4, Rf1, Rf2, Rf3, Rf4, iteB1, iteB2, iteR1, iteR, iteBl, iteIn, D.fl, D.flL, asB1, asO1, at21, getAll, setAll, unS, frz1, frzS, backS, bT1, bT2, bT3, bT4, bT5, bO1, bO2, bO3, bO4, bO5, bO6, bO7, bO8, bO9, C.d, oAdd, oSub, oMul1, oMul2, oMulC, oMod, oFdiv, itemsD, ixL, ixT, ai0, ai1, ai2, putL, xn0, xn1, xn2, cEq, cLt, cLe, cGt, cGe, cNe, addNL, addNR, start0_eq, mapS, mapD, foldO, pmapE, pmap, Tg.ids, Tgs.ids, biAll, LIM, ok_non, ok_bl, ok_int, ok_lst, ok_tup, okn_non, okn_bl, okn_int, okn_lst, okn_tup, okn_ints, okn_ints', flL_ints, mapOI, flL_mapI, eqv_int, eqv_bl, eqv_LI, eqD_LI, eqD_nilI, filterT, eqD_nil0, eqD_int, eqD_bl, cEqD, cNeD, cIn, cNin, cIs, cIsn, inD_LI, inD_nilI, ints?_map, ints?_ints, atI_map, atI_nat, cutL_map, slD_map, compL_map, compL_enum, rangeD_I, compG_some, compG_all, dL_sh, dL_sh', map_sh, foldI, foldI1, addL, -List.map_cons, -List.map_append, -List.map_map, -List.map_take, -List.map_drop, -List.map_reverse, Rd2, biLen, biLenT, biListL, biSorted, biMax2, biMin2, biInt, isD1, isD2, G_moved_of, B_moved_of, h1']
end L46
end KP
/-! K46g: the program's functions, mirrored. -/
namespace KP
namespace L46
open PySem L2 Com
theorem OC.rl {row order : List Int} (h : OC row order) : row.length ≤ 1000 := by have := h.l2; omega
theorem OC.ol2 {row order : List Int} (h : OC row order) : order.length ≤ 1000 := by have := h.ol; omega
theorem r_fixed_costs {row order : List Int} (h : OC row order) : F_fixed_costs [] [.lst (row.map .int), .lst (order.map .int)] = some (.ol ((fixI row order).map fun x => .sh (.int x)), []) := by
  unfold F_fixed_costs runF
  simp [evSs, evS, evX, evXs, evXan, evXor, evXo, evXc, evXt, evp, evs, evAnd, evOr, evo, evc, evi, ShR, AlR, shS, alS, O.pu, O.puL, O.d, O.dL, Ro1, Ro2, Ro3, Ro4, Rd1, Rd2, Rd3, Rd4, Rf1, Rf2, Rf3, Rf4, iteB1, iteB2, iteR1, iteR, iteBl, iteIn, D.fl, D.flL, asB1, asO1, at21, getAll, setAll, unS, frz1, frzS, backS, bT1, bT2, bT3, bT4, bT5, bO1, bO2, bO3, bO4, bO5, bO6, bO7, bO8, bO9, C.d, oAdd, oSub, oMul1, oMul2, oMulC, oMod, oFdiv, itemsD, ixL, ixT, ai0, ai1, ai2, putL, xn0, xn1, xn2, cEq, cLt, cLe, cGt, cGe, cNe, addNL, addNR, start0_eq, mapS, mapD, foldO, pmapE, pmap, Tg.ids, Tgs.ids, biAll, LIM, ok_non, ok_bl, ok_int, ok_lst, ok_tup, okn_non, okn_bl, okn_int, okn_lst, okn_tup, okn_ints, okn_ints', flL_ints, mapOI, flL_mapI, eqv_int, eqv_bl, eqv_LI, eqD_LI, eqD_nilI, filterT, eqD_nil0, eqD_int, eqD_bl, cEqD, cNeD, cIn, cNin, cIs, cIsn, inD_LI, inD_nilI, ints?_map, ints?_ints, atI_map, atI_nat, cutL_map, slD_map, compL_map, compL_enum, rangeD_I, compG_some, compG_all, dL_sh, dL_sh', map_sh, foldI, foldI1, addL, -List.map_cons, -List.map_append, -List.map_map, -List.map_take, -List.map_drop, -List.map_reverse, Rd2, biLen, biLenT, biListL, biSorted, biMax2, biMin2, biInt, isD1, isD2, G_fixed_costs, B_fixed_costs, h.row, p_check_list h, r_fixed_of h.sub h.rl]
theorem r_front_costs {row order : List Int} (h : OC row order) : F_front_costs [] [.lst (row.map .int), .lst (order.map .int)] = some (.ol ((costs row order).map fun x => .sh (.int x)), []) := by
  unfold F_front_costs runF
  simp [evSs, evS, evX, evXs, evXan, evXor, evXo, evXc, evXt, evp, evs, evAnd, evOr, evo, evc, evi, ShR, AlR, shS, alS, O.pu, O.puL, O.d, O.dL, Ro1, Ro2, Ro3, Ro4, Rd1, Rd2, Rd3, Rd4, Rf1, Rf2, Rf3, Rf4, iteB1, iteB2, iteR1, iteR, iteBl, iteIn, D.fl, D.flL, asB1, asO1, at21, getAll, setAll, unS, frz1, frzS, backS, bT1, bT2, bT3, bT4, bT5, bO1, bO2, bO3, bO4, bO5, bO6, bO7, bO8, bO9, C.d, oAdd, oSub, oMul1, oMul2, oMulC, oMod, oFdiv, itemsD, ixL, ixT, ai0, ai1, ai2, putL, xn0, xn1, xn2, cEq, cLt, cLe, cGt, cGe, cNe, addNL, addNR, start0_eq, mapS, mapD, foldO, pmapE, pmap, Tg.ids, Tgs.ids, biAll, LIM, ok_non, ok_bl, ok_int, ok_lst, ok_tup, okn_non, okn_bl, okn_int, okn_lst, okn_tup, okn_ints, okn_ints', flL_ints, mapOI, flL_mapI, eqv_int, eqv_bl, eqv_LI, eqD_LI, eqD_nilI, filterT, eqD_nil0, eqD_int, eqD_bl, cEqD, cNeD, cIn, cNin, cIs, cIsn, inD_LI, inD_nilI, ints?_map, ints?_ints, atI_map, atI_nat, cutL_map, slD_map, compL_map, compL_enum, rangeD_I, compG_some, compG_all, dL_sh, dL_sh', map_sh, foldI, foldI1, addL, -List.map_cons, -List.map_append, -List.map_map, -List.map_take, -List.map_drop, -List.map_reverse, Rd2, biLen, biLenT, biListL, biSorted, biMax2, biMin2, biInt, isD1, isD2, G_front_costs, B_front_costs, h.row, p_check_list h, r_moved_of h.nd h.sub h.rl h.ol2]
theorem r_front_list {row order : List Int} (h : OC row order) : F_front_list [] [.lst (row.map .int), .lst (order.map .int)] = some (.ol ((row.foldl mtf order).map fun x => .sh (.int x)), []) := by
  unfold F_front_list runF
  simp [evSs, evS, evX, evXs, evXan, evXor, evXo, evXc, evXt, evp, evs, evAnd, evOr, evo, evc, evi, ShR, AlR, shS, alS, O.pu, O.puL, O.d, O.dL, Ro1, Ro2, Ro3, Ro4, Rd1, Rd2, Rd3, Rd4, Rf1, Rf2, Rf3, Rf4, iteB1, iteB2, iteR1, iteR, iteBl, iteIn, D.fl, D.flL, asB1, asO1, at21, getAll, setAll, unS, frz1, frzS, backS, bT1, bT2, bT3, bT4, bT5, bO1, bO2, bO3, bO4, bO5, bO6, bO7, bO8, bO9, C.d, oAdd, oSub, oMul1, oMul2, oMulC, oMod, oFdiv, itemsD, ixL, ixT, ai0, ai1, ai2, putL, xn0, xn1, xn2, cEq, cLt, cLe, cGt, cGe, cNe, addNL, addNR, start0_eq, mapS, mapD, foldO, pmapE, pmap, Tg.ids, Tgs.ids, biAll, LIM, ok_non, ok_bl, ok_int, ok_lst, ok_tup, okn_non, okn_bl, okn_int, okn_lst, okn_tup, okn_ints, okn_ints', flL_ints, mapOI, flL_mapI, eqv_int, eqv_bl, eqv_LI, eqD_LI, eqD_nilI, filterT, eqD_nil0, eqD_int, eqD_bl, cEqD, cNeD, cIn, cNin, cIs, cIsn, inD_LI, inD_nilI, ints?_map, ints?_ints, atI_map, atI_nat, cutL_map, slD_map, compL_map, compL_enum, rangeD_I, compG_some, compG_all, dL_sh, dL_sh', map_sh, foldI, foldI1, addL, -List.map_cons, -List.map_append, -List.map_map, -List.map_take, -List.map_drop, -List.map_reverse, Rd2, biLen, biLenT, biListL, biSorted, biMax2, biMin2, biInt, isD1, isD2, G_front_list, B_front_list, h.row, p_check_list h, r_moved_of h.nd h.sub h.rl h.ol2]
theorem biSum {xs : List Int} : biD .sum [.lst (xs.map D.int)] = some (.sh (.int xs.sum)) := by simp only [biD, ints?_ints, Option.map_some]
theorem r_front_bound {row order : List Int} (h : OC row order) : F_front_bound [] [.lst (row.map .int), .lst (order.map .int)] = some (.sh (.int (2 * (fixI row order).sum - row.length)), []) := by
  unfold F_front_bound runF
  simp [evSs, evS, evX, evXs, evXan, evXor, evXo, evXc, evXt, evp, evs, evAnd, evOr, evo, evc, evi, ShR, AlR, shS, alS, O.pu, O.puL, O.d, O.dL, Ro1, Ro2, Ro3, Ro4, Rd1, Rd2, Rd3, Rd4, Rf1, Rf2, Rf3, Rf4, iteB1, iteB2, iteR1, iteR, iteBl, iteIn, D.fl, D.flL, asB1, asO1, at21, getAll, setAll, unS, frz1, frzS, backS, bT1, bT2, bT3, bT4, bT5, bO1, bO2, bO3, bO4, bO5, bO6, bO7, bO8, bO9, C.d, oAdd, oSub, oMul1, oMul2, oMulC, oMod, oFdiv, itemsD, ixL, ixT, ai0, ai1, ai2, putL, xn0, xn1, xn2, cEq, cLt, cLe, cGt, cGe, cNe, addNL, addNR, start0_eq, mapS, mapD, foldO, pmapE, pmap, Tg.ids, Tgs.ids, biAll, LIM, ok_non, ok_bl, ok_int, ok_lst, ok_tup, okn_non, okn_bl, okn_int, okn_lst, okn_tup, okn_ints, okn_ints', flL_ints, mapOI, flL_mapI, eqv_int, eqv_bl, eqv_LI, eqD_LI, eqD_nilI, filterT, eqD_nil0, eqD_int, eqD_bl, cEqD, cNeD, cIn, cNin, cIs, cIsn, inD_LI, inD_nilI, ints?_map, ints?_ints, atI_map, atI_nat, cutL_map, slD_map, compL_map, compL_enum, rangeD_I, compG_some, compG_all, dL_sh, dL_sh', map_sh, foldI, foldI1, addL, -List.map_cons, -List.map_append, -List.map_map, -List.map_take, -List.map_drop, -List.map_reverse, Rd2, biLen, biLenT, biListL, biSorted, biMax2, biMin2, biInt, isD1, isD2, G_front_bound, B_front_bound, h.row, p_check_list h, pf_of (r_fixed_of h.sub h.rl), biSum, oMul1 (show (2 : Int).natAbs < 2 ^ 64 by decide)]
theorem p_things_of {row : List Int} (h : row.length < 64) : pf F_things_of [.lst (row.map .int)] = some (.sh (.lst ((isort (dedupI row)).map .int))) := by
  unfold pf F_things_of runF
  simp [evSs, evS, evX, evXs, evXan, evXor, evXo, evXc, evXt, evp, evs, evAnd, evOr, evo, evc, evi, ShR, AlR, shS, alS, O.pu, O.puL, O.d, O.dL, Ro1, Ro2, Ro3, Ro4, Rd1, Rd2, Rd3, Rd4, Rf1, Rf2, Rf3, Rf4, iteB1, iteB2, iteR1, iteR, iteBl, iteIn, D.fl, D.flL, asB1, asO1, at21, getAll, setAll, unS, frz1, frzS, backS, bT1, bT2, bT3, bT4, bT5, bO1, bO2, bO3, bO4, bO5, bO6, bO7, bO8, bO9, C.d, oAdd, oSub, oMul1, oMul2, oMulC, oMod, oFdiv, itemsD, ixL, ixT, ai0, ai1, ai2, putL, xn0, xn1, xn2, cEq, cLt, cLe, cGt, cGe, cNe, addNL, addNR, start0_eq, mapS, mapD, foldO, pmapE, pmap, Tg.ids, Tgs.ids, biAll, LIM, ok_non, ok_bl, ok_int, ok_lst, ok_tup, okn_non, okn_bl, okn_int, okn_lst, okn_tup, okn_ints, okn_ints', flL_ints, mapOI, flL_mapI, eqv_int, eqv_bl, eqv_LI, eqD_LI, eqD_nilI, filterT, eqD_nil0, eqD_int, eqD_bl, cEqD, cNeD, cIn, cNin, cIs, cIsn, inD_LI, inD_nilI, ints?_map, ints?_ints, atI_map, atI_nat, cutL_map, slD_map, compL_map, compL_enum, rangeD_I, compG_some, compG_all, dL_sh, dL_sh', map_sh, foldI, foldI1, addL, -List.map_cons, -List.map_append, -List.map_map, -List.map_take, -List.map_drop, -List.map_reverse, Rd2, biLen, biLenT, biListL, biSorted, biMax2, biMin2, biInt, isD1, isD2, G_things_of, B_things_of, h]
def bestI (row : List Int) : List Int := (isort (dedupI row)).mergeSort (pairLe (cntKey row))
theorem p_best_fixed {row order : List Int} (h : OC row order) : pf F_best_fixed [.lst (row.map .int)] = some (.sh (.lst ((bestI row).map .int))) := by
  have h1 : row.length < 64 := by have := h.l2; omega
  have h2 : (isort (dedupI row)).length < 64 := by rw [(isort_perm _).length_eq]; have := dedupI_length row; omega
  unfold pf F_best_fixed runF
  simp [evSs, evS, evX, evXs, evXan, evXor, evXo, evXc, evXt, evp, evs, evAnd, evOr, evo, evc, evi, ShR, AlR, shS, alS, O.pu, O.puL, O.d, O.dL, Ro1, Ro2, Ro3, Ro4, Rd1, Rd2, Rd3, Rd4, Rf1, Rf2, Rf3, Rf4, iteB1, iteB2, iteR1, iteR, iteBl, iteIn, D.fl, D.flL, asB1, asO1, at21, getAll, setAll, unS, frz1, frzS, backS, bT1, bT2, bT3, bT4, bT5, bO1, bO2, bO3, bO4, bO5, bO6, bO7, bO8, bO9, C.d, oAdd, oSub, oMul1, oMul2, oMulC, oMod, oFdiv, itemsD, ixL, ixT, ai0, ai1, ai2, putL, xn0, xn1, xn2, cEq, cLt, cLe, cGt, cGe, cNe, addNL, addNR, start0_eq, mapS, mapD, foldO, pmapE, pmap, Tg.ids, Tgs.ids, biAll, LIM, ok_non, ok_bl, ok_int, ok_lst, ok_tup, okn_non, okn_bl, okn_int, okn_lst, okn_tup, okn_ints, okn_ints', flL_ints, mapOI, flL_mapI, eqv_int, eqv_bl, eqv_LI, eqD_LI, eqD_nilI, filterT, eqD_nil0, eqD_int, eqD_bl, cEqD, cNeD, cIn, cNin, cIs, cIsn, inD_LI, inD_nilI, ints?_map, ints?_ints, atI_map, atI_nat, cutL_map, slD_map, compL_map, compL_enum, rangeD_I, compG_some, compG_all, dL_sh, dL_sh', map_sh, foldI, foldI1, addL, -List.map_cons, -List.map_append, -List.map_map, -List.map_take, -List.map_drop, -List.map_reverse, Rd2, biLen, biLenT, biListL, biSorted, biMax2, biMin2, biInt, isD1, isD2, G_best_fixed, B_best_fixed, h.row, p_things_of h1, h2, bestI]
end L46
end KP
/-! K46h: the law's own lists, mirrored. -/
namespace KP
namespace L46
open PySem L2 Com
def runL (t : List Int) : List Int → List (List Int)
  | [] => [t]
  | x :: r => t :: runL (mtf t x) r
theorem runL_snoc (x : Int) : ∀ (pre t : List Int), runL t (pre ++ [x]) = runL t pre ++ [(pre ++ [x]).foldl mtf t]
  | [], t => rfl
  | y :: pre, t => by simp only [List.cons_append, runL, List.foldl_cons, runL_snoc x pre]
theorem runL_length : ∀ (row t : List Int), (runL t row).length = row.length + 1
  | [], _ => rfl
  | _ :: r, t => by simp [runL, runL_length r]
theorem at_mtf {t : List Int} {x : Int} (nd : t.Nodup) (h : x ∈ t) : x :: (t.take (t.idxOf x) ++ t.drop (t.idxOf x + 1)) = mtf t x := by
  obtain ⟨A, B, e, n, hi⟩ := split_at h
  rw [hi, e, mtf_split (e ▸ nd)]
  simp
theorem r_law_front {row order : List Int} (h : OC row order) :
    F__law_front [] [.lst (row.map .int), .lst (order.map .int)] = some (.ol [.ol ((costs row order).map fun x => .sh (.int x)), .ol ((runL order row).map fun t => .sh (.lst (t.map .int)))], []) := by
  have hrl := h.l2
  have hol := h.ol
  have loop := fo_map (G := G__law_front) (tg := .nm 5) (it := .sq (.p (.v 0))) (b := Y__law_front_1) (xs := row) (e := D.int)
    (ρ := [some (.sh (.lst (row.map .int))), some (.sh (.lst (order.map .int))), some (.ol (order.map fun x => .sh (.int x))), some (.ol []), some (.ol (List.map O.sh [D.lst (order.map D.int)])), none, none])
    (fun pre ρ => ∃ (o2 : O) (j k : Option O), (o2 = .ol ((pre.foldl mtf order).map fun x => .sh (.int x)) ∨ o2 = .sh (.lst ((pre.foldl mtf order).map .int))) ∧ ρ = [some (.sh (.lst (row.map .int))), some (.sh (.lst (order.map .int))), some o2, some (.ol ((costs pre order).map fun x => .sh (.int x))), some (.ol ((runL order pre).map fun t => .sh (.lst (t.map .int)))), j, k])
    (by simp [evSs, evS, evX, evXs, evXan, evXor, evXo, evXc, evXt, evp, evs, evAnd, evOr, evo, evc, evi, ShR, AlR, shS, alS, O.pu, O.puL, O.d, O.dL, Ro1, Ro2, Ro3, Ro4, Rd1, Rd2, Rd3, Rd4, Rf1, Rf2, Rf3, Rf4, iteB1, iteB2, iteR1, iteR, iteBl, iteIn, D.fl, D.flL, asB1, asO1, at21, getAll, setAll, unS, frz1, frzS, backS, bT1, bT2, bT3, bT4, bT5, bO1, bO2, bO3, bO4, bO5, bO6, bO7, bO8, bO9, C.d, oAdd, oSub, oMul1, oMul2, oMulC, oMod, oFdiv, itemsD, ixL, ixT, ai0, ai1, ai2, putL, xn0, xn1, xn2, cEq, cLt, cLe, cGt, cGe, cNe, addNL, addNR, start0_eq, mapS, mapD, foldO, pmapE, pmap, Tg.ids, Tgs.ids, biAll, LIM, ok_non, ok_bl, ok_int, ok_lst, ok_tup, okn_non, okn_bl, okn_int, okn_lst, okn_tup, okn_ints, okn_ints', flL_ints, mapOI, flL_mapI, eqv_int, eqv_bl, eqv_LI, eqD_LI, eqD_nilI, filterT, eqD_nil0, eqD_int, eqD_bl, cEqD, cNeD, cIn, cNin, cIs, cIsn, inD_LI, inD_nilI, ints?_map, ints?_ints, atI_map, atI_nat, cutL_map, slD_map, compL_map, compL_enum, rangeD_I, compG_some, compG_all, dL_sh, dL_sh', map_sh, foldI, foldI1, addL, -List.map_cons, -List.map_append, -List.map_map, -List.map_take, -List.map_drop, -List.map_reverse, Rd2, biLen, biLenT, biListL, biSorted, biMax2, biMin2, biInt, isD1, isD2] <;> rfl) ⟨_, none, none, .inl rfl, rfl⟩ fun pre x post ρ e ⟨o2, j, k, ho, e2⟩ => by
      subst e2
      have hlp := congrArg List.length e
      simp at hlp
      have hc := costs_length pre order
      have hL := runL_length pre order
      have hp := foldM_perm (row := pre) h.nd fun y hy => h.sub y (by rw [e]; simp [hy])
      have hx : x ∈ pre.foldl mtf order := hp.mem_iff.mpr (h.sub x (by rw [e]; simp))
      have hnd := hp.nodup_iff.mpr h.nd
      have hpl := hp.length_eq
      rw [costs_snoc, runL_snoc, List.foldl_append, List.foldl_cons, List.foldl_nil]
      have hm := at_mtf hnd hx
      have hi := List.idxOf_lt_length_of_mem hx
      generalize pre.foldl mtf order = t at *
      rw [← hm]
      rcases ho with rfl | rfl
      · refine ⟨_, by simp [evSs, evS, evX, evXs, evXan, evXor, evXo, evXc, evXt, evp, evs, evAnd, evOr, evo, evc, evi, ShR, AlR, shS, alS, O.pu, O.puL, O.d, O.dL, Ro1, Ro2, Ro3, Ro4, Rd1, Rd2, Rd3, Rd4, Rf1, Rf2, Rf3, Rf4, iteB1, iteB2, iteR1, iteR, iteBl, iteIn, D.fl, D.flL, asB1, asO1, at21, getAll, setAll, unS, frz1, frzS, backS, bT1, bT2, bT3, bT4, bT5, bO1, bO2, bO3, bO4, bO5, bO6, bO7, bO8, bO9, C.d, oAdd, oSub, oMul1, oMul2, oMulC, oMod, oFdiv, itemsD, ixL, ixT, ai0, ai1, ai2, putL, xn0, xn1, xn2, cEq, cLt, cLe, cGt, cGe, cNe, addNL, addNR, start0_eq, mapS, mapD, foldO, pmapE, pmap, Tg.ids, Tgs.ids, biAll, LIM, ok_non, ok_bl, ok_int, ok_lst, ok_tup, okn_non, okn_bl, okn_int, okn_lst, okn_tup, okn_ints, okn_ints', flL_ints, mapOI, flL_mapI, eqv_int, eqv_bl, eqv_LI, eqD_LI, eqD_nilI, filterT, eqD_nil0, eqD_int, eqD_bl, cEqD, cNeD, cIn, cNin, cIs, cIsn, inD_LI, inD_nilI, ints?_map, ints?_ints, atI_map, atI_nat, cutL_map, slD_map, compL_map, compL_enum, rangeD_I, compG_some, compG_all, dL_sh, dL_sh', map_sh, foldI, foldI1, addL, -List.map_cons, -List.map_append, -List.map_map, -List.map_take, -List.map_drop, -List.map_reverse, Rd2, biLen, biLenT, biListL, biSorted, biMax2, biMin2, biInt, isD1, isD2] <;> rfl, _, .inl (by simp [evSs, evS, evX, evXs, evXan, evXor, evXo, evXc, evXt, evp, evs, evAnd, evOr, evo, evc, evi, ShR, AlR, shS, alS, O.pu, O.puL, O.d, O.dL, Ro1, Ro2, Ro3, Ro4, Rd1, Rd2, Rd3, Rd4, Rf1, Rf2, Rf3, Rf4, iteB1, iteB2, iteR1, iteR, iteBl, iteIn, D.fl, D.flL, asB1, asO1, at21, getAll, setAll, unS, frz1, frzS, backS, bT1, bT2, bT3, bT4, bT5, bO1, bO2, bO3, bO4, bO5, bO6, bO7, bO8, bO9, C.d, oAdd, oSub, oMul1, oMul2, oMulC, oMod, oFdiv, itemsD, ixL, ixT, ai0, ai1, ai2, putL, xn0, xn1, xn2, cEq, cLt, cLe, cGt, cGe, cNe, addNL, addNR, start0_eq, mapS, mapD, foldO, pmapE, pmap, Tg.ids, Tgs.ids, biAll, LIM, ok_non, ok_bl, ok_int, ok_lst, ok_tup, okn_non, okn_bl, okn_int, okn_lst, okn_tup, okn_ints, okn_ints', flL_ints, mapOI, flL_mapI, eqv_int, eqv_bl, eqv_LI, eqD_LI, eqD_nilI, filterT, eqD_nil0, eqD_int, eqD_bl, cEqD, cNeD, cIn, cNin, cIs, cIsn, inD_LI, inD_nilI, ints?_map, ints?_ints, atI_map, atI_nat, cutL_map, slD_map, compL_map, compL_enum, rangeD_I, compG_some, compG_all, dL_sh, dL_sh', map_sh, foldI, foldI1, addL, -List.map_cons, -List.map_append, -List.map_map, -List.map_take, -List.map_drop, -List.map_reverse, Rd2, biLen, biLenT, biListL, biSorted, biMax2, biMin2, biInt, isD1, isD2, G__law_front, Y__law_front_1, meD, meIdx hx, hc, hL, cutL_to (show (0 : Int) ≤ (t.idxOf x : Nat) by omega), cutL_from (show (0 : Int) ≤ ((t.idxOf x : Nat) : Int) + 1 by omega), show pre.length < 100000 by omega, show pre.length + 1 < 100000 by omega, show 1 + min (t.idxOf x) t.length ≤ 100000 by omega, show min (t.idxOf x) t.length + 1 + (t.length - (t.idxOf x + 1)) ≤ 100000 by omega, show 1 + min (t.idxOf x) t.length + (t.length - (t.idxOf x + 1)) ≤ 100000 by omega] <;> rfl), ?_⟩
        simp only [List.map_append, List.map_cons, List.map_nil]
        exact ⟨_, _, _, .inr rfl, rfl⟩
      · refine ⟨_, by simp [evSs, evS, evX, evXs, evXan, evXor, evXo, evXc, evXt, evp, evs, evAnd, evOr, evo, evc, evi, ShR, AlR, shS, alS, O.pu, O.puL, O.d, O.dL, Ro1, Ro2, Ro3, Ro4, Rd1, Rd2, Rd3, Rd4, Rf1, Rf2, Rf3, Rf4, iteB1, iteB2, iteR1, iteR, iteBl, iteIn, D.fl, D.flL, asB1, asO1, at21, getAll, setAll, unS, frz1, frzS, backS, bT1, bT2, bT3, bT4, bT5, bO1, bO2, bO3, bO4, bO5, bO6, bO7, bO8, bO9, C.d, oAdd, oSub, oMul1, oMul2, oMulC, oMod, oFdiv, itemsD, ixL, ixT, ai0, ai1, ai2, putL, xn0, xn1, xn2, cEq, cLt, cLe, cGt, cGe, cNe, addNL, addNR, start0_eq, mapS, mapD, foldO, pmapE, pmap, Tg.ids, Tgs.ids, biAll, LIM, ok_non, ok_bl, ok_int, ok_lst, ok_tup, okn_non, okn_bl, okn_int, okn_lst, okn_tup, okn_ints, okn_ints', flL_ints, mapOI, flL_mapI, eqv_int, eqv_bl, eqv_LI, eqD_LI, eqD_nilI, filterT, eqD_nil0, eqD_int, eqD_bl, cEqD, cNeD, cIn, cNin, cIs, cIsn, inD_LI, inD_nilI, ints?_map, ints?_ints, atI_map, atI_nat, cutL_map, slD_map, compL_map, compL_enum, rangeD_I, compG_some, compG_all, dL_sh, dL_sh', map_sh, foldI, foldI1, addL, -List.map_cons, -List.map_append, -List.map_map, -List.map_take, -List.map_drop, -List.map_reverse, Rd2, biLen, biLenT, biListL, biSorted, biMax2, biMin2, biInt, isD1, isD2] <;> rfl, _, .inl (by simp [evSs, evS, evX, evXs, evXan, evXor, evXo, evXc, evXt, evp, evs, evAnd, evOr, evo, evc, evi, ShR, AlR, shS, alS, O.pu, O.puL, O.d, O.dL, Ro1, Ro2, Ro3, Ro4, Rd1, Rd2, Rd3, Rd4, Rf1, Rf2, Rf3, Rf4, iteB1, iteB2, iteR1, iteR, iteBl, iteIn, D.fl, D.flL, asB1, asO1, at21, getAll, setAll, unS, frz1, frzS, backS, bT1, bT2, bT3, bT4, bT5, bO1, bO2, bO3, bO4, bO5, bO6, bO7, bO8, bO9, C.d, oAdd, oSub, oMul1, oMul2, oMulC, oMod, oFdiv, itemsD, ixL, ixT, ai0, ai1, ai2, putL, xn0, xn1, xn2, cEq, cLt, cLe, cGt, cGe, cNe, addNL, addNR, start0_eq, mapS, mapD, foldO, pmapE, pmap, Tg.ids, Tgs.ids, biAll, LIM, ok_non, ok_bl, ok_int, ok_lst, ok_tup, okn_non, okn_bl, okn_int, okn_lst, okn_tup, okn_ints, okn_ints', flL_ints, mapOI, flL_mapI, eqv_int, eqv_bl, eqv_LI, eqD_LI, eqD_nilI, filterT, eqD_nil0, eqD_int, eqD_bl, cEqD, cNeD, cIn, cNin, cIs, cIsn, inD_LI, inD_nilI, ints?_map, ints?_ints, atI_map, atI_nat, cutL_map, slD_map, compL_map, compL_enum, rangeD_I, compG_some, compG_all, dL_sh, dL_sh', map_sh, foldI, foldI1, addL, -List.map_cons, -List.map_append, -List.map_map, -List.map_take, -List.map_drop, -List.map_reverse, Rd2, biLen, biLenT, biListL, biSorted, biMax2, biMin2, biInt, isD1, isD2, G__law_front, Y__law_front_1, meD, meIdx hx, hc, hL, cutL_to (show (0 : Int) ≤ (t.idxOf x : Nat) by omega), cutL_from (show (0 : Int) ≤ ((t.idxOf x : Nat) : Int) + 1 by omega), show pre.length < 100000 by omega, show pre.length + 1 < 100000 by omega, show 1 + min (t.idxOf x) t.length ≤ 100000 by omega, show min (t.idxOf x) t.length + 1 + (t.length - (t.idxOf x + 1)) ≤ 100000 by omega, show 1 + min (t.idxOf x) t.length + (t.length - (t.idxOf x + 1)) ≤ 100000 by omega] <;> rfl), ?_⟩
        simp only [List.map_append, List.map_cons, List.map_nil]
        exact ⟨_, _, _, .inr rfl, rfl⟩
  obtain ⟨ρ', h1, o2, j, k, ho, rfl⟩ := loop
  have h1' : evS G__law_front W__law_front_1 _ = _ := h1
  simp only [G__law_front] at h1'
  unfold F__law_front runF
  rcases ho with rfl | rfl <;> simp [evSs, evS, evX, evXs, evXan, evXor, evXo, evXc, evXt, evp, evs, evAnd, evOr, evo, evc, evi, ShR, AlR, shS, alS, O.pu, O.puL, O.d, O.dL, Ro1, Ro2, Ro3, Ro4, Rd1, Rd2, Rd3, Rd4, Rf1, Rf2, Rf3, Rf4, iteB1, iteB2, iteR1, iteR, iteBl, iteIn, D.fl, D.flL, asB1, asO1, at21, getAll, setAll, unS, frz1, frzS, backS, bT1, bT2, bT3, bT4, bT5, bO1, bO2, bO3, bO4, bO5, bO6, bO7, bO8, bO9, C.d, oAdd, oSub, oMul1, oMul2, oMulC, oMod, oFdiv, itemsD, ixL, ixT, ai0, ai1, ai2, putL, xn0, xn1, xn2, cEq, cLt, cLe, cGt, cGe, cNe, addNL, addNR, start0_eq, mapS, mapD, foldO, pmapE, pmap, Tg.ids, Tgs.ids, biAll, LIM, ok_non, ok_bl, ok_int, ok_lst, ok_tup, okn_non, okn_bl, okn_int, okn_lst, okn_tup, okn_ints, okn_ints', flL_ints, mapOI, flL_mapI, eqv_int, eqv_bl, eqv_LI, eqD_LI, eqD_nilI, filterT, eqD_nil0, eqD_int, eqD_bl, cEqD, cNeD, cIn, cNin, cIs, cIsn, inD_LI, inD_nilI, ints?_map, ints?_ints, atI_map, atI_nat, cutL_map, slD_map, compL_map, compL_enum, rangeD_I, compG_some, compG_all, dL_sh, dL_sh', map_sh, foldI, foldI1, addL, -List.map_cons, -List.map_append, -List.map_map, -List.map_take, -List.map_drop, -List.map_reverse, Rd2, biLen, biLenT, biListL, biSorted, biMax2, biMin2, biInt, isD1, isD2, G__law_front, B__law_front, h1']
end L46
end KP
/-! K46i: neighbours exchanged: the program's way and the law's. -/
namespace KP
namespace L46
open PySem L2 Com
def swp (t : List Int) (x : Int) : List Int := if t.idxOf x = 0 then t else swapI t (t.idxOf x - 1) (t.idxOf x)
def runW (t : List Int) : List Int → List Int
  | [] => []
  | x :: r => ((t.idxOf x : Nat) + 1 : Int) :: runW (swp t x) r
theorem runW_snoc (x : Int) : ∀ (pre t : List Int), runW t (pre ++ [x]) = runW t pre ++ [((pre.foldl swp t).idxOf x : Int) + 1]
  | [], t => rfl
  | y :: pre, t => by simp only [List.cons_append, runW, List.foldl_cons, runW_snoc x pre]
theorem runW_length : ∀ (row t : List Int), (runW t row).length = row.length
  | [], _ => rfl
  | _ :: r, t => by simp [runW, runW_length r]
theorem oInts_map : ∀ t : List Int, oInts (t.map fun x => O.sh (.int x)) = some t
  | [] => rfl
  | x :: t => by simp only [List.map_cons, oInts, oInts_map t, Option.map_some]
theorem asI1 {k : Int} : asI (.sh (.int k)) = some k := rfl
theorem swapI_eq {A B : List Int} {p x : Int} : swapI (A ++ p :: x :: B) A.length (A.length + 1) = A ++ x :: p :: B := by
  unfold swapI
  simp [List.set_append, List.getD_eq_getElem?_getD, List.getElem?_append]
theorem swp_split {t : List Int} {x : Int} (h : x ∈ t) (h0 : t.idxOf x ≠ 0) : ∃ A B p, t = A ++ p :: x :: B ∧ t.idxOf x = A.length + 1 ∧ swapI t (t.idxOf x - 1) (t.idxOf x) = A ++ x :: p :: B := by
  obtain ⟨A, B, e, n, hi⟩ := split_at h
  rcases List.eq_nil_or_concat A with rfl | ⟨A', p, rfl⟩
  · simp at hi; omega
  · refine ⟨A', B, p, by rw [e]; simp, by rw [hi]; simp, ?_⟩
    rw [hi]
    have : t = A' ++ p :: x :: B := by rw [e]; simp
    rw [this]
    simpa using swapI_eq
theorem swp_perm {t : List Int} {x : Int} (h : x ∈ t) : (swp t x).Perm t := by
  unfold swp
  split
  · exact List.Perm.refl _
  · rename_i h0
    obtain ⟨A, B, p, e, -, e2⟩ := swp_split h h0
    rw [e2, e]
    exact (List.Perm.swap p x B).append_left A
theorem foldW_perm : ∀ {row t : List Int}, (∀ x ∈ row, x ∈ t) → (row.foldl swp t).Perm t
  | [], t, _ => List.Perm.refl _
  | x :: r, t, h => by
    have p := swp_perm (h x (by simp))
    exact (foldW_perm fun y hy => p.mem_iff.mpr (h y (by simp [hy]))).trans p
theorem r_swapped_costs {row order : List Int} (h : OC row order) : F_swapped_costs [] [.lst (row.map .int), .lst (order.map .int)] = some (.ol ((runW order row).map fun x => .sh (.int x)), []) := by
  have hrl := h.l2
  have hol := h.ol
  have loop := fo_map (G := G_swapped_costs) (tg := .nm 4) (it := .sq (.p (.v 0))) (b := Y_swapped_costs_1) (xs := row) (e := D.int)
    (ρ := [some (.sh (.lst (row.map .int))), some (.sh (.lst (order.map .int))), some (.ol (order.map fun x => .sh (.int x))), some (.ol []), none, none])
    (fun pre ρ => ∃ (j k : Option O), ρ = [some (.sh (.lst (row.map .int))), some (.sh (.lst (order.map .int))), some (.ol ((pre.foldl swp order).map fun x => .sh (.int x))), some (.ol ((runW order pre).map fun x => .sh (.int x))), j, k])
    (by simp [evSs, evS, evX, evXs, evXan, evXor, evXo, evXc, evXt, evp, evs, evAnd, evOr, evo, evc, evi, ShR, AlR, shS, alS, O.pu, O.puL, O.d, O.dL, Ro1, Ro2, Ro3, Ro4, Rd1, Rd2, Rd3, Rd4, Rf1, Rf2, Rf3, Rf4, iteB1, iteB2, iteR1, iteR, iteBl, iteIn, D.fl, D.flL, asB1, asO1, at21, getAll, setAll, unS, frz1, frzS, backS, bT1, bT2, bT3, bT4, bT5, bO1, bO2, bO3, bO4, bO5, bO6, bO7, bO8, bO9, C.d, oAdd, oSub, oMul1, oMul2, oMulC, oMod, oFdiv, itemsD, ixL, ixT, ai0, ai1, ai2, putL, xn0, xn1, xn2, cEq, cLt, cLe, cGt, cGe, cNe, addNL, addNR, start0_eq, mapS, mapD, foldO, pmapE, pmap, Tg.ids, Tgs.ids, biAll, LIM, ok_non, ok_bl, ok_int, ok_lst, ok_tup, okn_non, okn_bl, okn_int, okn_lst, okn_tup, okn_ints, okn_ints', flL_ints, mapOI, flL_mapI, eqv_int, eqv_bl, eqv_LI, eqD_LI, eqD_nilI, filterT, eqD_nil0, eqD_int, eqD_bl, cEqD, cNeD, cIn, cNin, cIs, cIsn, inD_LI, inD_nilI, ints?_map, ints?_ints, atI_map, atI_nat, cutL_map, slD_map, compL_map, compL_enum, rangeD_I, compG_some, compG_all, dL_sh, dL_sh', map_sh, foldI, foldI1, addL, -List.map_cons, -List.map_append, -List.map_map, -List.map_take, -List.map_drop, -List.map_reverse, Rd2, biLen, biLenT, biListL, biSorted, biMax2, biMin2, biInt, isD1, isD2] <;> rfl) ⟨none, none, rfl⟩ fun pre x post ρ e ⟨j, k, e2⟩ => by
      subst e2
      have hlp := congrArg List.length e
      simp at hlp
      have hc := runW_length pre order
      have hp := foldW_perm (row := pre) (t := order) fun y hy => h.sub y (by rw [e]; simp [hy])
      have hx : x ∈ pre.foldl swp order := hp.mem_iff.mpr (h.sub x (by rw [e]; simp))
      have hpl := hp.length_eq
      rw [runW_snoc, List.foldl_append, List.foldl_cons, List.foldl_nil]
      have hi := List.idxOf_lt_length_of_mem hx
      generalize pre.foldl swp order = t at *
      by_cases h0 : t.idxOf x = 0
      · refine ⟨_, by simp [evSs, evS, evX, evXs, evXan, evXor, evXo, evXc, evXt, evp, evs, evAnd, evOr, evo, evc, evi, ShR, AlR, shS, alS, O.pu, O.puL, O.d, O.dL, Ro1, Ro2, Ro3, Ro4, Rd1, Rd2, Rd3, Rd4, Rf1, Rf2, Rf3, Rf4, iteB1, iteB2, iteR1, iteR, iteBl, iteIn, D.fl, D.flL, asB1, asO1, at21, getAll, setAll, unS, frz1, frzS, backS, bT1, bT2, bT3, bT4, bT5, bO1, bO2, bO3, bO4, bO5, bO6, bO7, bO8, bO9, C.d, oAdd, oSub, oMul1, oMul2, oMulC, oMod, oFdiv, itemsD, ixL, ixT, ai0, ai1, ai2, putL, xn0, xn1, xn2, cEq, cLt, cLe, cGt, cGe, cNe, addNL, addNR, start0_eq, mapS, mapD, foldO, pmapE, pmap, Tg.ids, Tgs.ids, biAll, LIM, ok_non, ok_bl, ok_int, ok_lst, ok_tup, okn_non, okn_bl, okn_int, okn_lst, okn_tup, okn_ints, okn_ints', flL_ints, mapOI, flL_mapI, eqv_int, eqv_bl, eqv_LI, eqD_LI, eqD_nilI, filterT, eqD_nil0, eqD_int, eqD_bl, cEqD, cNeD, cIn, cNin, cIs, cIsn, inD_LI, inD_nilI, ints?_map, ints?_ints, atI_map, atI_nat, cutL_map, slD_map, compL_map, compL_enum, rangeD_I, compG_some, compG_all, dL_sh, dL_sh', map_sh, foldI, foldI1, addL, -List.map_cons, -List.map_append, -List.map_map, -List.map_take, -List.map_drop, -List.map_reverse, Rd2, biLen, biLenT, biListL, biSorted, biMax2, biMin2, biInt, isD1, isD2] <;> rfl, _, .inl (by simp [evSs, evS, evX, evXs, evXan, evXor, evXo, evXc, evXt, evp, evs, evAnd, evOr, evo, evc, evi, ShR, AlR, shS, alS, O.pu, O.puL, O.d, O.dL, Ro1, Ro2, Ro3, Ro4, Rd1, Rd2, Rd3, Rd4, Rf1, Rf2, Rf3, Rf4, iteB1, iteB2, iteR1, iteR, iteBl, iteIn, D.fl, D.flL, asB1, asO1, at21, getAll, setAll, unS, frz1, frzS, backS, bT1, bT2, bT3, bT4, bT5, bO1, bO2, bO3, bO4, bO5, bO6, bO7, bO8, bO9, C.d, oAdd, oSub, oMul1, oMul2, oMulC, oMod, oFdiv, itemsD, ixL, ixT, ai0, ai1, ai2, putL, xn0, xn1, xn2, cEq, cLt, cLe, cGt, cGe, cNe, addNL, addNR, start0_eq, mapS, mapD, foldO, pmapE, pmap, Tg.ids, Tgs.ids, biAll, LIM, ok_non, ok_bl, ok_int, ok_lst, ok_tup, okn_non, okn_bl, okn_int, okn_lst, okn_tup, okn_ints, okn_ints', flL_ints, mapOI, flL_mapI, eqv_int, eqv_bl, eqv_LI, eqD_LI, eqD_nilI, filterT, eqD_nil0, eqD_int, eqD_bl, cEqD, cNeD, cIn, cNin, cIs, cIsn, inD_LI, inD_nilI, ints?_map, ints?_ints, atI_map, atI_nat, cutL_map, slD_map, compL_map, compL_enum, rangeD_I, compG_some, compG_all, dL_sh, dL_sh', map_sh, foldI, foldI1, addL, -List.map_cons, -List.map_append, -List.map_map, -List.map_take, -List.map_drop, -List.map_reverse, Rd2, biLen, biLenT, biListL, biSorted, biMax2, biMin2, biInt, isD1, isD2, G_swapped_costs, Y_swapped_costs_1, meD, meIdx hx, hc, h0, show pre.length < 100000 by omega] <;> rfl), ?_⟩
        simp only [swp, h0, List.map_append, List.map_cons, List.map_nil]
        exact ⟨_, _, rfl⟩
      · have e1 : L2.ixN t.length ((t.idxOf x : Int) - 1) = some (t.idxOf x - 1) := by rw [ixN_pos (by omega) (by omega)]; congr 1; omega
        have e2 : L2.ixN t.length (t.idxOf x : Int) = some (t.idxOf x) := by rw [ixN_pos (by omega) (by omega)]; congr 1
        refine ⟨_, by simp [evSs, evS, evX, evXs, evXan, evXor, evXo, evXc, evXt, evp, evs, evAnd, evOr, evo, evc, evi, ShR, AlR, shS, alS, O.pu, O.puL, O.d, O.dL, Ro1, Ro2, Ro3, Ro4, Rd1, Rd2, Rd3, Rd4, Rf1, Rf2, Rf3, Rf4, iteB1, iteB2, iteR1, iteR, iteBl, iteIn, D.fl, D.flL, asB1, asO1, at21, getAll, setAll, unS, frz1, frzS, backS, bT1, bT2, bT3, bT4, bT5, bO1, bO2, bO3, bO4, bO5, bO6, bO7, bO8, bO9, C.d, oAdd, oSub, oMul1, oMul2, oMulC, oMod, oFdiv, itemsD, ixL, ixT, ai0, ai1, ai2, putL, xn0, xn1, xn2, cEq, cLt, cLe, cGt, cGe, cNe, addNL, addNR, start0_eq, mapS, mapD, foldO, pmapE, pmap, Tg.ids, Tgs.ids, biAll, LIM, ok_non, ok_bl, ok_int, ok_lst, ok_tup, okn_non, okn_bl, okn_int, okn_lst, okn_tup, okn_ints, okn_ints', flL_ints, mapOI, flL_mapI, eqv_int, eqv_bl, eqv_LI, eqD_LI, eqD_nilI, filterT, eqD_nil0, eqD_int, eqD_bl, cEqD, cNeD, cIn, cNin, cIs, cIsn, inD_LI, inD_nilI, ints?_map, ints?_ints, atI_map, atI_nat, cutL_map, slD_map, compL_map, compL_enum, rangeD_I, compG_some, compG_all, dL_sh, dL_sh', map_sh, foldI, foldI1, addL, -List.map_cons, -List.map_append, -List.map_map, -List.map_take, -List.map_drop, -List.map_reverse, Rd2, biLen, biLenT, biListL, biSorted, biMax2, biMin2, biInt, isD1, isD2] <;> rfl, _, .inl (by simp [evSs, evS, evX, evXs, evXan, evXor, evXo, evXc, evXt, evp, evs, evAnd, evOr, evo, evc, evi, ShR, AlR, shS, alS, O.pu, O.puL, O.d, O.dL, Ro1, Ro2, Ro3, Ro4, Rd1, Rd2, Rd3, Rd4, Rf1, Rf2, Rf3, Rf4, iteB1, iteB2, iteR1, iteR, iteBl, iteIn, D.fl, D.flL, asB1, asO1, at21, getAll, setAll, unS, frz1, frzS, backS, bT1, bT2, bT3, bT4, bT5, bO1, bO2, bO3, bO4, bO5, bO6, bO7, bO8, bO9, C.d, oAdd, oSub, oMul1, oMul2, oMulC, oMod, oFdiv, itemsD, ixL, ixT, ai0, ai1, ai2, putL, xn0, xn1, xn2, cEq, cLt, cLe, cGt, cGe, cNe, addNL, addNR, start0_eq, mapS, mapD, foldO, pmapE, pmap, Tg.ids, Tgs.ids, biAll, LIM, ok_non, ok_bl, ok_int, ok_lst, ok_tup, okn_non, okn_bl, okn_int, okn_lst, okn_tup, okn_ints, okn_ints', flL_ints, mapOI, flL_mapI, eqv_int, eqv_bl, eqv_LI, eqD_LI, eqD_nilI, filterT, eqD_nil0, eqD_int, eqD_bl, cEqD, cNeD, cIn, cNin, cIs, cIsn, inD_LI, inD_nilI, ints?_map, ints?_ints, atI_map, atI_nat, cutL_map, slD_map, compL_map, compL_enum, rangeD_I, compG_some, compG_all, dL_sh, dL_sh', map_sh, foldI, foldI1, addL, -List.map_cons, -List.map_append, -List.map_map, -List.map_take, -List.map_drop, -List.map_reverse, Rd2, biLen, biLenT, biListL, biSorted, biMax2, biMin2, biInt, isD1, isD2, G_swapped_costs, Y_swapped_costs_1, meD, meIdx hx, hc, show pre.length < 100000 by omega, show 0 < t.idxOf x by omega, oInts_map, asI1, e1, e2] <;> rfl), ?_⟩
        simp only [swp, h0, if_false, List.map_append, List.map_cons, List.map_nil]
        exact ⟨_, _, rfl⟩
  obtain ⟨ρ', h1, j, k, rfl⟩ := loop
  have h1' : evS G_swapped_costs W_swapped_costs_1 _ = _ := h1
  simp only [G_swapped_costs] at h1'
  unfold F_swapped_costs runF
  simp [evSs, evS, evX, evXs, evXan, evXor, evXo, evXc, evXt, evp, evs, evAnd, evOr, evo, evc, evi, ShR, AlR, shS, alS, O.pu, O.puL, O.d, O.dL, Ro1, Ro2, Ro3, Ro4, Rd1, Rd2, Rd3, Rd4, Rf1, Rf2, Rf3, Rf4, iteB1, iteB2, iteR1, iteR, iteBl, iteIn, D.fl, D.flL, asB1, asO1, at21, getAll, setAll, unS, frz1, frzS, backS, bT1, bT2, bT3, bT4, bT5, bO1, bO2, bO3, bO4, bO5, bO6, bO7, bO8, bO9, C.d, oAdd, oSub, oMul1, oMul2, oMulC, oMod, oFdiv, itemsD, ixL, ixT, ai0, ai1, ai2, putL, xn0, xn1, xn2, cEq, cLt, cLe, cGt, cGe, cNe, addNL, addNR, start0_eq, mapS, mapD, foldO, pmapE, pmap, Tg.ids, Tgs.ids, biAll, LIM, ok_non, ok_bl, ok_int, ok_lst, ok_tup, okn_non, okn_bl, okn_int, okn_lst, okn_tup, okn_ints, okn_ints', flL_ints, mapOI, flL_mapI, eqv_int, eqv_bl, eqv_LI, eqD_LI, eqD_nilI, filterT, eqD_nil0, eqD_int, eqD_bl, cEqD, cNeD, cIn, cNin, cIs, cIsn, inD_LI, inD_nilI, ints?_map, ints?_ints, atI_map, atI_nat, cutL_map, slD_map, compL_map, compL_enum, rangeD_I, compG_some, compG_all, dL_sh, dL_sh', map_sh, foldI, foldI1, addL, -List.map_cons, -List.map_append, -List.map_map, -List.map_take, -List.map_drop, -List.map_reverse, Rd2, biLen, biLenT, biListL, biSorted, biMax2, biMin2, biInt, isD1, isD2, G_swapped_costs, B_swapped_costs, h.row, p_check_list h, h1']
end L46
end KP
/-! K46j: neighbours exchanged: the law's way. -/
namespace KP
namespace L46
open PySem L2 Com
theorem swp_law {t : List Int} {x : Int} (h : x ∈ t) (h0 : t.idxOf x ≠ 0) : ∃ p, L2.atI t ((t.idxOf x : Int) - 1) = some p ∧ t.take (t.idxOf x - 1) ++ [x, p] ++ t.drop (t.idxOf x + 1) = swp t x := by
  obtain ⟨A, B, p, e, hi, hs⟩ := swp_split h h0
  refine ⟨p, ?_, ?_⟩
  · rw [hi, show ((A.length + 1 : Nat) : Int) - 1 = (A.length : Nat) by omega, atI_nat, e]
    simp
  · unfold swp
    rw [if_neg h0, hs, hi, e]
    simp
    rw [show A ++ p :: x :: B = (A ++ [p, x]) ++ B by simp]
    exact List.drop_left' (by simp)
theorem r_law_swapped {row order : List Int} (h : OC row order) : F__law_swapped [] [.lst (row.map .int), .lst (order.map .int)] = some (.ol ((runW order row).map fun x => .sh (.int x)), []) := by
  have hrl := h.l2
  have hol := h.ol
  have loop := fo_map (G := G__law_swapped) (tg := .nm 4) (it := .sq (.p (.v 0))) (b := Y__law_swapped_1) (xs := row) (e := D.int)
    (ρ := [some (.sh (.lst (row.map .int))), some (.sh (.lst (order.map .int))), some (.ol (order.map fun x => .sh (.int x))), some (.ol []), none, none])
    (fun pre ρ => ∃ (j k : Option O), ρ = [some (.sh (.lst (row.map .int))), some (.sh (.lst (order.map .int))), some (.ol ((pre.foldl swp order).map fun x => .sh (.int x))), some (.ol ((runW order pre).map fun x => .sh (.int x))), j, k])
    (by simp [evSs, evS, evX, evXs, evXan, evXor, evXo, evXc, evXt, evp, evs, evAnd, evOr, evo, evc, evi, ShR, AlR, shS, alS, O.pu, O.puL, O.d, O.dL, Ro1, Ro2, Ro3, Ro4, Rd1, Rd2, Rd3, Rd4, Rf1, Rf2, Rf3, Rf4, iteB1, iteB2, iteR1, iteR, iteBl, iteIn, D.fl, D.flL, asB1, asO1, at21, getAll, setAll, unS, frz1, frzS, backS, bT1, bT2, bT3, bT4, bT5, bO1, bO2, bO3, bO4, bO5, bO6, bO7, bO8, bO9, C.d, oAdd, oSub, oMul1, oMul2, oMulC, oMod, oFdiv, itemsD, ixL, ixT, ai0, ai1, ai2, putL, xn0, xn1, xn2, cEq, cLt, cLe, cGt, cGe, cNe, addNL, addNR, start0_eq, mapS, mapD, foldO, pmapE, pmap, Tg.ids, Tgs.ids, biAll, LIM, ok_non, ok_bl, ok_int, ok_lst, ok_tup, okn_non, okn_bl, okn_int, okn_lst, okn_tup, okn_ints, okn_ints', flL_ints, mapOI, flL_mapI, eqv_int, eqv_bl, eqv_LI, eqD_LI, eqD_nilI, filterT, eqD_nil0, eqD_int, eqD_bl, cEqD, cNeD, cIn, cNin, cIs, cIsn, inD_LI, inD_nilI, ints?_map, ints?_ints, atI_map, atI_nat, cutL_map, slD_map, compL_map, compL_enum, rangeD_I, compG_some, compG_all, dL_sh, dL_sh', map_sh, foldI, foldI1, addL, -List.map_cons, -List.map_append, -List.map_map, -List.map_take, -List.map_drop, -List.map_reverse, Rd2, biLen, biLenT, biListL, biSorted, biMax2, biMin2, biInt, isD1, isD2] <;> rfl) ⟨none, none, rfl⟩ fun pre x post ρ e ⟨j, k, e2⟩ => by
      subst e2
      have hlp := congrArg List.length e
      simp at hlp
      have hc := runW_length pre order
      have hp := foldW_perm (row := pre) (t := order) fun y hy => h.sub y (by rw [e]; simp [hy])
      have hx : x ∈ pre.foldl swp order := hp.mem_iff.mpr (h.sub x (by rw [e]; simp))
      have hpl := hp.length_eq
      rw [runW_snoc, List.foldl_append, List.foldl_cons, List.foldl_nil]
      have hi := List.idxOf_lt_length_of_mem hx
      generalize pre.foldl swp order = t at *
      by_cases h0 : t.idxOf x = 0
      · refine ⟨_, by simp [evSs, evS, evX, evXs, evXan, evXor, evXo, evXc, evXt, evp, evs, evAnd, evOr, evo, evc, evi, ShR, AlR, shS, alS, O.pu, O.puL, O.d, O.dL, Ro1, Ro2, Ro3, Ro4, Rd1, Rd2, Rd3, Rd4, Rf1, Rf2, Rf3, Rf4, iteB1, iteB2, iteR1, iteR, iteBl, iteIn, D.fl, D.flL, asB1, asO1, at21, getAll, setAll, unS, frz1, frzS, backS, bT1, bT2, bT3, bT4, bT5, bO1, bO2, bO3, bO4, bO5, bO6, bO7, bO8, bO9, C.d, oAdd, oSub, oMul1, oMul2, oMulC, oMod, oFdiv, itemsD, ixL, ixT, ai0, ai1, ai2, putL, xn0, xn1, xn2, cEq, cLt, cLe, cGt, cGe, cNe, addNL, addNR, start0_eq, mapS, mapD, foldO, pmapE, pmap, Tg.ids, Tgs.ids, biAll, LIM, ok_non, ok_bl, ok_int, ok_lst, ok_tup, okn_non, okn_bl, okn_int, okn_lst, okn_tup, okn_ints, okn_ints', flL_ints, mapOI, flL_mapI, eqv_int, eqv_bl, eqv_LI, eqD_LI, eqD_nilI, filterT, eqD_nil0, eqD_int, eqD_bl, cEqD, cNeD, cIn, cNin, cIs, cIsn, inD_LI, inD_nilI, ints?_map, ints?_ints, atI_map, atI_nat, cutL_map, slD_map, compL_map, compL_enum, rangeD_I, compG_some, compG_all, dL_sh, dL_sh', map_sh, foldI, foldI1, addL, -List.map_cons, -List.map_append, -List.map_map, -List.map_take, -List.map_drop, -List.map_reverse, Rd2, biLen, biLenT, biListL, biSorted, biMax2, biMin2, biInt, isD1, isD2] <;> rfl, _, .inl (by simp [evSs, evS, evX, evXs, evXan, evXor, evXo, evXc, evXt, evp, evs, evAnd, evOr, evo, evc, evi, ShR, AlR, shS, alS, O.pu, O.puL, O.d, O.dL, Ro1, Ro2, Ro3, Ro4, Rd1, Rd2, Rd3, Rd4, Rf1, Rf2, Rf3, Rf4, iteB1, iteB2, iteR1, iteR, iteBl, iteIn, D.fl, D.flL, asB1, asO1, at21, getAll, setAll, unS, frz1, frzS, backS, bT1, bT2, bT3, bT4, bT5, bO1, bO2, bO3, bO4, bO5, bO6, bO7, bO8, bO9, C.d, oAdd, oSub, oMul1, oMul2, oMulC, oMod, oFdiv, itemsD, ixL, ixT, ai0, ai1, ai2, putL, xn0, xn1, xn2, cEq, cLt, cLe, cGt, cGe, cNe, addNL, addNR, start0_eq, mapS, mapD, foldO, pmapE, pmap, Tg.ids, Tgs.ids, biAll, LIM, ok_non, ok_bl, ok_int, ok_lst, ok_tup, okn_non, okn_bl, okn_int, okn_lst, okn_tup, okn_ints, okn_ints', flL_ints, mapOI, flL_mapI, eqv_int, eqv_bl, eqv_LI, eqD_LI, eqD_nilI, filterT, eqD_nil0, eqD_int, eqD_bl, cEqD, cNeD, cIn, cNin, cIs, cIsn, inD_LI, inD_nilI, ints?_map, ints?_ints, atI_map, atI_nat, cutL_map, slD_map, compL_map, compL_enum, rangeD_I, compG_some, compG_all, dL_sh, dL_sh', map_sh, foldI, foldI1, addL, -List.map_cons, -List.map_append, -List.map_map, -List.map_take, -List.map_drop, -List.map_reverse, Rd2, biLen, biLenT, biListL, biSorted, biMax2, biMin2, biInt, isD1, isD2, G__law_swapped, Y__law_swapped_1, meD, meIdx hx, hc, h0, show pre.length < 100000 by omega] <;> rfl), ?_⟩
        simp only [swp, h0, List.map_append, List.map_cons, List.map_nil]
        exact ⟨_, _, rfl⟩
      · obtain ⟨p, ha, hs⟩ := swp_law hx h0
        have e0 : ((t.idxOf x : Int) - 1).toNat = t.idxOf x - 1 := by omega
        have hA : o2D O2.add (D.lst ((t.take (t.idxOf x - 1)).map D.int)) (D.lst [D.int x, D.int p]) = some (.fl ((t.take (t.idxOf x - 1) ++ [x, p]).map D.int)) := addL (ys := [x, p]) (by show _ ≤ 100000; simp; omega)
        have hB : o2D O2.add (D.lst ((t.take (t.idxOf x - 1) ++ [x, p]).map D.int)) (D.lst ((t.drop (t.idxOf x + 1)).map D.int)) = some (.fl ((t.take (t.idxOf x - 1) ++ [x, p] ++ t.drop (t.idxOf x + 1)).map D.int)) := addL (by show _ ≤ 100000; simp; omega)
        refine ⟨_, by simp [evSs, evS, evX, evXs, evXan, evXor, evXo, evXc, evXt, evp, evs, evAnd, evOr, evo, evc, evi, ShR, AlR, shS, alS, O.pu, O.puL, O.d, O.dL, Ro1, Ro2, Ro3, Ro4, Rd1, Rd2, Rd3, Rd4, Rf1, Rf2, Rf3, Rf4, iteB1, iteB2, iteR1, iteR, iteBl, iteIn, D.fl, D.flL, asB1, asO1, at21, getAll, setAll, unS, frz1, frzS, backS, bT1, bT2, bT3, bT4, bT5, bO1, bO2, bO3, bO4, bO5, bO6, bO7, bO8, bO9, C.d, oAdd, oSub, oMul1, oMul2, oMulC, oMod, oFdiv, itemsD, ixL, ixT, ai0, ai1, ai2, putL, xn0, xn1, xn2, cEq, cLt, cLe, cGt, cGe, cNe, addNL, addNR, start0_eq, mapS, mapD, foldO, pmapE, pmap, Tg.ids, Tgs.ids, biAll, LIM, ok_non, ok_bl, ok_int, ok_lst, ok_tup, okn_non, okn_bl, okn_int, okn_lst, okn_tup, okn_ints, okn_ints', flL_ints, mapOI, flL_mapI, eqv_int, eqv_bl, eqv_LI, eqD_LI, eqD_nilI, filterT, eqD_nil0, eqD_int, eqD_bl, cEqD, cNeD, cIn, cNin, cIs, cIsn, inD_LI, inD_nilI, ints?_map, ints?_ints, atI_map, atI_nat, cutL_map, slD_map, compL_map, compL_enum, rangeD_I, compG_some, compG_all, dL_sh, dL_sh', map_sh, foldI, foldI1, addL, -List.map_cons, -List.map_append, -List.map_map, -List.map_take, -List.map_drop, -List.map_reverse, Rd2, biLen, biLenT, biListL, biSorted, biMax2, biMin2, biInt, isD1, isD2] <;> rfl, _, .inl (by simp [evSs, evS, evX, evXs, evXan, evXor, evXo, evXc, evXt, evp, evs, evAnd, evOr, evo, evc, evi, ShR, AlR, shS, alS, O.pu, O.puL, O.d, O.dL, Ro1, Ro2, Ro3, Ro4, Rd1, Rd2, Rd3, Rd4, Rf1, Rf2, Rf3, Rf4, iteB1, iteB2, iteR1, iteR, iteBl, iteIn, D.fl, D.flL, asB1, asO1, at21, getAll, setAll, unS, frz1, frzS, backS, bT1, bT2, bT3, bT4, bT5, bO1, bO2, bO3, bO4, bO5, bO6, bO7, bO8, bO9, C.d, oAdd, oSub, oMul1, oMul2, oMulC, oMod, oFdiv, itemsD, ixL, ixT, ai0, ai1, ai2, putL, xn0, xn1, xn2, cEq, cLt, cLe, cGt, cGe, cNe, addNL, addNR, start0_eq, mapS, mapD, foldO, pmapE, pmap, Tg.ids, Tgs.ids, biAll, LIM, ok_non, ok_bl, ok_int, ok_lst, ok_tup, okn_non, okn_bl, okn_int, okn_lst, okn_tup, okn_ints, okn_ints', flL_ints, mapOI, flL_mapI, eqv_int, eqv_bl, eqv_LI, eqD_LI, eqD_nilI, filterT, eqD_nil0, eqD_int, eqD_bl, cEqD, cNeD, cIn, cNin, cIs, cIsn, inD_LI, inD_nilI, ints?_map, ints?_ints, atI_map, atI_nat, cutL_map, slD_map, compL_map, compL_enum, rangeD_I, compG_some, compG_all, dL_sh, dL_sh', map_sh, foldI, foldI1, addL, -List.map_cons, -List.map_append, -List.map_map, -List.map_take, -List.map_drop, -List.map_reverse, Rd2, biLen, biLenT, biListL, biSorted, biMax2, biMin2, biInt, isD1, isD2, G__law_swapped, Y__law_swapped_1, meD, meIdx hx, hc, hA, hB, ha, e0, cutL_to (show (0 : Int) ≤ (t.idxOf x : Int) - 1 by omega), cutL_from (show (0 : Int) ≤ ((t.idxOf x : Nat) : Int) + 1 by omega), show pre.length < 100000 by omega, show 0 < t.idxOf x by omega, show min (t.idxOf x - 1) t.length + 2 ≤ 100000 by omega, show min (t.idxOf x - 1) t.length + 2 + (t.length - (t.idxOf x + 1)) ≤ 100000 by omega] <;> rfl), ?_⟩
        rw [← hs]
        exact ⟨some (.sh (.int x)), some (.sh (.int (t.idxOf x : Nat))), by simp⟩
  obtain ⟨ρ', h1, j, k, rfl⟩ := loop
  have h1' : evS G__law_swapped W__law_swapped_1 _ = _ := h1
  simp only [G__law_swapped] at h1'
  unfold F__law_swapped runF
  simp [evSs, evS, evX, evXs, evXan, evXor, evXo, evXc, evXt, evp, evs, evAnd, evOr, evo, evc, evi, ShR, AlR, shS, alS, O.pu, O.puL, O.d, O.dL, Ro1, Ro2, Ro3, Ro4, Rd1, Rd2, Rd3, Rd4, Rf1, Rf2, Rf3, Rf4, iteB1, iteB2, iteR1, iteR, iteBl, iteIn, D.fl, D.flL, asB1, asO1, at21, getAll, setAll, unS, frz1, frzS, backS, bT1, bT2, bT3, bT4, bT5, bO1, bO2, bO3, bO4, bO5, bO6, bO7, bO8, bO9, C.d, oAdd, oSub, oMul1, oMul2, oMulC, oMod, oFdiv, itemsD, ixL, ixT, ai0, ai1, ai2, putL, xn0, xn1, xn2, cEq, cLt, cLe, cGt, cGe, cNe, addNL, addNR, start0_eq, mapS, mapD, foldO, pmapE, pmap, Tg.ids, Tgs.ids, biAll, LIM, ok_non, ok_bl, ok_int, ok_lst, ok_tup, okn_non, okn_bl, okn_int, okn_lst, okn_tup, okn_ints, okn_ints', flL_ints, mapOI, flL_mapI, eqv_int, eqv_bl, eqv_LI, eqD_LI, eqD_nilI, filterT, eqD_nil0, eqD_int, eqD_bl, cEqD, cNeD, cIn, cNin, cIs, cIsn, inD_LI, inD_nilI, ints?_map, ints?_ints, atI_map, atI_nat, cutL_map, slD_map, compL_map, compL_enum, rangeD_I, compG_some, compG_all, dL_sh, dL_sh', map_sh, foldI, foldI1, addL, -List.map_cons, -List.map_append, -List.map_map, -List.map_take, -List.map_drop, -List.map_reverse, Rd2, biLen, biLenT, biListL, biSorted, biMax2, biMin2, biInt, isD1, isD2, G__law_swapped, B__law_swapped, h1']
end L46
end KP
/-! K46k: pairs that stand otherwise. -/
namespace KP
namespace L46
open PySem L2 Com
abbrev kO (order : List Int) : Int → Nat := fun y => order.idxOf y
theorem p_law_otherwise {t order : List Int} (sub : ∀ x ∈ t, x ∈ order) (hl : t.length ≤ 100) : pf F__law_otherwise [.lst (t.map .int), .lst (order.map .int)] = some (.sh (.int (otherw (kO order) t : Nat))) := by
  have loop := fo_enum (G := G__law_otherwise) (tg := .tp (.cons (.nm 3) (.cons (.nm 4) .nil))) (it := .en (.p (.v 0))) (b := Y__law_otherwise_1) (xs := t) (e := D.int)
    (ρ := [some (.sh (.lst (t.map .int))), some (.sh (.lst (order.map .int))), some (.sh (.int 0)), none, none, none])
    (fun pre ρ => ∃ (n : Nat) (j k l : Option O), n + otherw (kO order) (t.drop pre.length) = otherw (kO order) t ∧ ρ = [some (.sh (.lst (t.map .int))), some (.sh (.lst (order.map .int))), some (.sh (.int n)), j, k, l])
    (by simp [evSs, evS, evX, evXs, evXan, evXor, evXo, evXc, evXt, evp, evs, evAnd, evOr, evo, evc, evi, ShR, AlR, shS, alS, O.pu, O.puL, O.d, O.dL, Ro1, Ro2, Ro3, Ro4, Rd1, Rd2, Rd3, Rd4, Rf1, Rf2, Rf3, Rf4, iteB1, iteB2, iteR1, iteR, iteBl, iteIn, D.fl, D.flL, asB1, asO1, at21, getAll, setAll, unS, frz1, frzS, backS, bT1, bT2, bT3, bT4, bT5, bO1, bO2, bO3, bO4, bO5, bO6, bO7, bO8, bO9, C.d, oAdd, oSub, oMul1, oMul2, oMulC, oMod, oFdiv, itemsD, ixL, ixT, ai0, ai1, ai2, putL, xn0, xn1, xn2, cEq, cLt, cLe, cGt, cGe, cNe, addNL, addNR, start0_eq, mapS, mapD, foldO, pmapE, pmap, Tg.ids, Tgs.ids, biAll, LIM, ok_non, ok_bl, ok_int, ok_lst, ok_tup, okn_non, okn_bl, okn_int, okn_lst, okn_tup, okn_ints, okn_ints', flL_ints, mapOI, flL_mapI, eqv_int, eqv_bl, eqv_LI, eqD_LI, eqD_nilI, filterT, eqD_nil0, eqD_int, eqD_bl, cEqD, cNeD, cIn, cNin, cIs, cIsn, inD_LI, inD_nilI, ints?_map, ints?_ints, atI_map, atI_nat, cutL_map, slD_map, compL_map, compL_enum, rangeD_I, compG_some, compG_all, dL_sh, dL_sh', map_sh, foldI, foldI1, addL, -List.map_cons, -List.map_append, -List.map_map, -List.map_take, -List.map_drop, -List.map_reverse, Rd2, biLen, biLenT, biListL, biSorted, biMax2, biMin2, biInt, isD1, isD2] <;> rfl) ⟨0, none, none, none, by simp, rfl⟩ fun pre x post ρ e ⟨n, j, k, l, hn, e2⟩ => by
      subst e2
      have hx : x ∈ order := sub x (by rw [e]; simp)
      have hd : t.drop (pre.length + 1) = post := by rw [e, show pre ++ x :: post = (pre ++ [x]) ++ post by simp]; exact List.drop_left' (by simp)
      have hd0 : t.drop pre.length = x :: post := by rw [e]; exact List.drop_left' rfl
      have hpo : ∀ y ∈ post, y ∈ order := fun y hy => sub y (by rw [e]; simp [hy])
      have he : evSs G__law_otherwise Y__law_otherwise_1 [some (.sh (.lst (t.map .int))), some (.sh (.lst (order.map .int))), some (.sh (.int n)), some (.sh (.int pre.length)), some (.sh (.int x)), l] = some (.nx [some (.sh (.lst (t.map .int))), some (.sh (.lst (order.map .int))), some (.sh (.int ((n + (post.filter fun y => decide (order.idxOf y < order.idxOf x)).length : Nat)))), some (.sh (.int pre.length)), some (.sh (.int x)), l]) := by
        simp [evSs, evS, evX, evXs, evXan, evXor, evXo, evXc, evXt, evp, evs, evAnd, evOr, evo, evc, evi, ShR, AlR, shS, alS, O.pu, O.puL, O.d, O.dL, Ro1, Ro2, Ro3, Ro4, Rd1, Rd2, Rd3, Rd4, Rf1, Rf2, Rf3, Rf4, iteB1, iteB2, iteR1, iteR, iteBl, iteIn, D.fl, D.flL, asB1, asO1, at21, getAll, setAll, unS, frz1, frzS, backS, bT1, bT2, bT3, bT4, bT5, bO1, bO2, bO3, bO4, bO5, bO6, bO7, bO8, bO9, C.d, oAdd, oSub, oMul1, oMul2, oMulC, oMod, oFdiv, itemsD, ixL, ixT, ai0, ai1, ai2, putL, xn0, xn1, xn2, cEq, cLt, cLe, cGt, cGe, cNe, addNL, addNR, start0_eq, mapS, mapD, foldO, pmapE, pmap, Tg.ids, Tgs.ids, biAll, LIM, ok_non, ok_bl, ok_int, ok_lst, ok_tup, okn_non, okn_bl, okn_int, okn_lst, okn_tup, okn_ints, okn_ints', flL_ints, mapOI, flL_mapI, eqv_int, eqv_bl, eqv_LI, eqD_LI, eqD_nilI, filterT, eqD_nil0, eqD_int, eqD_bl, cEqD, cNeD, cIn, cNin, cIs, cIsn, inD_LI, inD_nilI, ints?_map, ints?_ints, atI_map, atI_nat, cutL_map, slD_map, compL_map, compL_enum, rangeD_I, compG_some, compG_all, dL_sh, dL_sh', map_sh, foldI, foldI1, addL, -List.map_cons, -List.map_append, -List.map_map, -List.map_take, -List.map_drop, -List.map_reverse, Rd2, biLen, biLenT, biListL, biSorted, biMax2, biMin2, biInt, isD1, isD2, G__law_otherwise, Y__law_otherwise_1, meD, meIdx hx, cutL_from (show (0 : Int) ≤ (pre.length : Int) + 1 by omega), hd]
        rw [compG_rule (xs := post) (fun y => decide (order.idxOf y < order.idxOf x)) D.int (fun y hy => by simp [meIdx (hpo y hy), Rd1, cLt, asB1]) (fun y hy _ => rfl)]
        simp [evSs, evS, evX, evXs, evXan, evXor, evXo, evXc, evXt, evp, evs, evAnd, evOr, evo, evc, evi, ShR, AlR, shS, alS, O.pu, O.puL, O.d, O.dL, Ro1, Ro2, Ro3, Ro4, Rd1, Rd2, Rd3, Rd4, Rf1, Rf2, Rf3, Rf4, iteB1, iteB2, iteR1, iteR, iteBl, iteIn, D.fl, D.flL, asB1, asO1, at21, getAll, setAll, unS, frz1, frzS, backS, bT1, bT2, bT3, bT4, bT5, bO1, bO2, bO3, bO4, bO5, bO6, bO7, bO8, bO9, C.d, oAdd, oSub, oMul1, oMul2, oMulC, oMod, oFdiv, itemsD, ixL, ixT, ai0, ai1, ai2, putL, xn0, xn1, xn2, cEq, cLt, cLe, cGt, cGe, cNe, addNL, addNR, start0_eq, mapS, mapD, foldO, pmapE, pmap, Tg.ids, Tgs.ids, biAll, LIM, ok_non, ok_bl, ok_int, ok_lst, ok_tup, okn_non, okn_bl, okn_int, okn_lst, okn_tup, okn_ints, okn_ints', flL_ints, mapOI, flL_mapI, eqv_int, eqv_bl, eqv_LI, eqD_LI, eqD_nilI, filterT, eqD_nil0, eqD_int, eqD_bl, cEqD, cNeD, cIn, cNin, cIs, cIsn, inD_LI, inD_nilI, ints?_map, ints?_ints, atI_map, atI_nat, cutL_map, slD_map, compL_map, compL_enum, rangeD_I, compG_some, compG_all, dL_sh, dL_sh', map_sh, foldI, foldI1, addL, -List.map_cons, -List.map_append, -List.map_map, -List.map_take, -List.map_drop, -List.map_reverse, Rd2, biLen, biLenT, biListL, biSorted, biMax2, biMin2, biInt, isD1, isD2, biLen]
      refine ⟨_, by simp [evSs, evS, evX, evXs, evXan, evXor, evXo, evXc, evXt, evp, evs, evAnd, evOr, evo, evc, evi, ShR, AlR, shS, alS, O.pu, O.puL, O.d, O.dL, Ro1, Ro2, Ro3, Ro4, Rd1, Rd2, Rd3, Rd4, Rf1, Rf2, Rf3, Rf4, iteB1, iteB2, iteR1, iteR, iteBl, iteIn, D.fl, D.flL, asB1, asO1, at21, getAll, setAll, unS, frz1, frzS, backS, bT1, bT2, bT3, bT4, bT5, bO1, bO2, bO3, bO4, bO5, bO6, bO7, bO8, bO9, C.d, oAdd, oSub, oMul1, oMul2, oMulC, oMod, oFdiv, itemsD, ixL, ixT, ai0, ai1, ai2, putL, xn0, xn1, xn2, cEq, cLt, cLe, cGt, cGe, cNe, addNL, addNR, start0_eq, mapS, mapD, foldO, pmapE, pmap, Tg.ids, Tgs.ids, biAll, LIM, ok_non, ok_bl, ok_int, ok_lst, ok_tup, okn_non, okn_bl, okn_int, okn_lst, okn_tup, okn_ints, okn_ints', flL_ints, mapOI, flL_mapI, eqv_int, eqv_bl, eqv_LI, eqD_LI, eqD_nilI, filterT, eqD_nil0, eqD_int, eqD_bl, cEqD, cNeD, cIn, cNin, cIs, cIsn, inD_LI, inD_nilI, ints?_map, ints?_ints, atI_map, atI_nat, cutL_map, slD_map, compL_map, compL_enum, rangeD_I, compG_some, compG_all, dL_sh, dL_sh', map_sh, foldI, foldI1, addL, -List.map_cons, -List.map_append, -List.map_map, -List.map_take, -List.map_drop, -List.map_reverse, Rd2, biLen, biLenT, biListL, biSorted, biMax2, biMin2, biInt, isD1, isD2] <;> rfl, _, .inl he, ?_⟩
      refine ⟨n + (post.filter fun y => decide (order.idxOf y < order.idxOf x)).length, _, _, _, ?_, rfl⟩
      rw [hd0] at hn
      simp only [List.length_append, List.length_cons, List.length_nil, hd]
      have hn2 : n + ((post.filter fun y => decide (order.idxOf y < order.idxOf x)).length + otherw (kO order) post) = otherw (kO order) t := hn
      omega
  obtain ⟨ρ', h1, n, j, k, l, hn, rfl⟩ := loop
  have h1' : evS G__law_otherwise W__law_otherwise_1 _ = _ := h1
  simp only [G__law_otherwise] at h1'
  have hn' : n = otherw (kO order) t := by simpa [otherw] using hn
  unfold pf F__law_otherwise runF
  simp [evSs, evS, evX, evXs, evXan, evXor, evXo, evXc, evXt, evp, evs, evAnd, evOr, evo, evc, evi, ShR, AlR, shS, alS, O.pu, O.puL, O.d, O.dL, Ro1, Ro2, Ro3, Ro4, Rd1, Rd2, Rd3, Rd4, Rf1, Rf2, Rf3, Rf4, iteB1, iteB2, iteR1, iteR, iteBl, iteIn, D.fl, D.flL, asB1, asO1, at21, getAll, setAll, unS, frz1, frzS, backS, bT1, bT2, bT3, bT4, bT5, bO1, bO2, bO3, bO4, bO5, bO6, bO7, bO8, bO9, C.d, oAdd, oSub, oMul1, oMul2, oMulC, oMod, oFdiv, itemsD, ixL, ixT, ai0, ai1, ai2, putL, xn0, xn1, xn2, cEq, cLt, cLe, cGt, cGe, cNe, addNL, addNR, start0_eq, mapS, mapD, foldO, pmapE, pmap, Tg.ids, Tgs.ids, biAll, LIM, ok_non, ok_bl, ok_int, ok_lst, ok_tup, okn_non, okn_bl, okn_int, okn_lst, okn_tup, okn_ints, okn_ints', flL_ints, mapOI, flL_mapI, eqv_int, eqv_bl, eqv_LI, eqD_LI, eqD_nilI, filterT, eqD_nil0, eqD_int, eqD_bl, cEqD, cNeD, cIn, cNin, cIs, cIsn, inD_LI, inD_nilI, ints?_map, ints?_ints, atI_map, atI_nat, cutL_map, slD_map, compL_map, compL_enum, rangeD_I, compG_some, compG_all, dL_sh, dL_sh', map_sh, foldI, foldI1, addL, -List.map_cons, -List.map_append, -List.map_map, -List.map_take, -List.map_drop, -List.map_reverse, Rd2, biLen, biLenT, biListL, biSorted, biMax2, biMin2, biInt, isD1, isD2, G__law_otherwise, B__law_otherwise, h1', hn']
end L46
end KP
/-! K46l: the program's pairs that stand otherwise; potentials. -/
namespace KP
namespace L46
open PySem L2 Com
theorem otherw_le (k : Int → Nat) : ∀ t : List Int, otherw k t ≤ t.length * t.length
  | [] => Nat.le_refl _
  | a :: t => by
    have h1 := otherw_le k t
    have h2 := List.length_filter_le (fun b => decide (k b < k a)) t
    simp only [otherw, List.length_cons]
    have : (t.length + 1) * (t.length + 1) = t.length * t.length + 2 * t.length + 1 := by rw [Nat.add_mul, Nat.mul_add]; omega
    omega
abbrev tpD (p : Int × Int) : D := .tup [.int p.1, .int p.2]
theorem r_out_of_order {row order : List Int} (h : OC row order) (ask : Nat) (ha : ask ≤ row.length) :
    ∃ L : List (Int × Int), F_out_of_order [] [.lst (row.map .int), .lst (order.map .int), .int ask] = some (.ol (L.map fun p => .sh (tpD p)), []) ∧ L.length = otherw (kO order) ((row.take ask).foldl mtf order) := by
  have hrl := h.l2
  have hol := h.ol
  have hsub : ∀ x ∈ row.take ask, x ∈ order := fun x hx => h.sub x (List.mem_of_mem_take hx)
  have hp := foldM_perm (row := row.take ask) h.nd hsub
  have hm := r_moved_of (row := row.take ask) h.nd hsub (by simp; omega) h.ol2
  generalize ht : (row.take ask).foldl mtf order = t at *
  have sub : ∀ x ∈ t, x ∈ order := fun x hx => hp.mem_iff.mp hx
  have htl := hp.length_eq
  have hb := otherw_le (kO order) t
  have hb2 : t.length * t.length ≤ 26 * 26 := Nat.mul_le_mul (by omega) (by omega)
  have loop := fo_enumG (G := G_out_of_order) (tg := .tp (.cons (.nm 5) (.cons (.nm 6) .nil))) (it := .en (.z [3] (.p (.v 3)))) (b := Y_out_of_order_1) (xs := t) (e := D.int)
    (ρ := [some (.sh (.lst (row.map .int))), some (.sh (.lst (order.map .int))), some (.sh (.int ask)), some (.ol (t.map fun x => .sh (.int x))), some (.ol []), none, none, none])
    (ρ0 := [some (.sh (.lst (row.map .int))), some (.sh (.lst (order.map .int))), some (.sh (.int ask)), some (.sh (.lst (t.map .int))), some (.ol []), none, none, none])
    (fun pre ρ => ∃ (L : List (Int × Int)) (j k l : Option O), L.length + otherw (kO order) (t.drop pre.length) = otherw (kO order) t ∧ ρ = [some (.sh (.lst (row.map .int))), some (.sh (.lst (order.map .int))), some (.sh (.int ask)), some (.sh (.lst (t.map .int))), some (.ol (L.map fun p => .sh (tpD p))), j, k, l])
    (by simp [evSs, evS, evX, evXs, evXan, evXor, evXo, evXc, evXt, evp, evs, evAnd, evOr, evo, evc, evi, ShR, AlR, shS, alS, O.pu, O.puL, O.d, O.dL, Ro1, Ro2, Ro3, Ro4, Rd1, Rd2, Rd3, Rd4, Rf1, Rf2, Rf3, Rf4, iteB1, iteB2, iteR1, iteR, iteBl, iteIn, D.fl, D.flL, asB1, asO1, at21, getAll, setAll, unS, frz1, frzS, backS, bT1, bT2, bT3, bT4, bT5, bO1, bO2, bO3, bO4, bO5, bO6, bO7, bO8, bO9, C.d, oAdd, oSub, oMul1, oMul2, oMulC, oMod, oFdiv, itemsD, ixL, ixT, ai0, ai1, ai2, putL, xn0, xn1, xn2, cEq, cLt, cLe, cGt, cGe, cNe, addNL, addNR, start0_eq, mapS, mapD, foldO, pmapE, pmap, Tg.ids, Tgs.ids, biAll, LIM, ok_non, ok_bl, ok_int, ok_lst, ok_tup, okn_non, okn_bl, okn_int, okn_lst, okn_tup, okn_ints, okn_ints', flL_ints, mapOI, flL_mapI, eqv_int, eqv_bl, eqv_LI, eqD_LI, eqD_nilI, filterT, eqD_nil0, eqD_int, eqD_bl, cEqD, cNeD, cIn, cNin, cIs, cIsn, inD_LI, inD_nilI, ints?_map, ints?_ints, atI_map, atI_nat, cutL_map, slD_map, compL_map, compL_enum, rangeD_I, compG_some, compG_all, dL_sh, dL_sh', map_sh, foldI, foldI1, addL, -List.map_cons, -List.map_append, -List.map_map, -List.map_take, -List.map_drop, -List.map_reverse, Rd2, biLen, biLenT, biListL, biSorted, biMax2, biMin2, biInt, isD1, isD2] <;> rfl) ⟨[], none, none, none, by simp, rfl⟩ fun pre x post ρ e ⟨L, j, k, l, hn, e2⟩ => by
      subst e2
      have hx : x ∈ order := sub x (by rw [e]; simp)
      have hd : t.drop (pre.length + 1) = post := by rw [e, show pre ++ x :: post = (pre ++ [x]) ++ post by simp]; exact List.drop_left' (by simp)
      have hd0 : t.drop pre.length = x :: post := by rw [e]; exact List.drop_left' rfl
      have hpo : ∀ y ∈ post, y ∈ order := fun y hy => sub y (by rw [e]; simp [hy])
      rw [hd0] at hn
      have hn2 : L.length + ((post.filter fun y => decide (order.idxOf y < order.idxOf x)).length + otherw (kO order) post) = otherw (kO order) t := hn
      have hA : o2D O2.add (D.lst (L.map tpD)) (D.lst ((post.filter fun y => decide (order.idxOf y < order.idxOf x)).map fun y => D.tup [D.int x, D.int y])) = some (.fl ((L ++ (post.filter fun y => decide (order.idxOf y < order.idxOf x)).map fun y => (x, y)).map tpD)) := by
        have := addL (e := tpD) (xs := L) (ys := (post.filter fun y => decide (order.idxOf y < order.idxOf x)).map fun y => (x, y)) (by show _ ≤ 100000; rw [List.length_map]; omega)
        rw [List.map_map] at this
        exact this
      have hF : ∀ M : List (Int × Int), D.flL (M.map tpD) = true := fun M => by rw [flL_eq]; simp [D.fl, D.flL, tpD]
      have he : evSs G_out_of_order Y_out_of_order_1 [some (.sh (.lst (row.map .int))), some (.sh (.lst (order.map .int))), some (.sh (.int ask)), some (.sh (.lst (t.map .int))), some (.ol (L.map fun p => .sh (tpD p))), some (.sh (.int pre.length)), some (.sh (.int x)), l] = some (.nx [some (.sh (.lst (row.map .int))), some (.sh (.lst (order.map .int))), some (.sh (.int ask)), some (.sh (.lst (t.map .int))), some (.ol ((L ++ (post.filter fun y => decide (order.idxOf y < order.idxOf x)).map fun y => (x, y)).map fun p => .sh (tpD p))), some (.sh (.int pre.length)), some (.sh (.int x)), l]) := by
        simp [evSs, evS, evX, evXs, evXan, evXor, evXo, evXc, evXt, evp, evs, evAnd, evOr, evo, evc, evi, ShR, AlR, shS, alS, O.pu, O.puL, O.d, O.dL, Ro1, Ro2, Ro3, Ro4, Rd1, Rd2, Rd3, Rd4, Rf1, Rf2, Rf3, Rf4, iteB1, iteB2, iteR1, iteR, iteBl, iteIn, D.fl, D.flL, asB1, asO1, at21, getAll, setAll, unS, frz1, frzS, backS, bT1, bT2, bT3, bT4, bT5, bO1, bO2, bO3, bO4, bO5, bO6, bO7, bO8, bO9, C.d, oAdd, oSub, oMul1, oMul2, oMulC, oMod, oFdiv, itemsD, ixL, ixT, ai0, ai1, ai2, putL, xn0, xn1, xn2, cEq, cLt, cLe, cGt, cGe, cNe, addNL, addNR, start0_eq, mapS, mapD, foldO, pmapE, pmap, Tg.ids, Tgs.ids, biAll, LIM, ok_non, ok_bl, ok_int, ok_lst, ok_tup, okn_non, okn_bl, okn_int, okn_lst, okn_tup, okn_ints, okn_ints', flL_ints, mapOI, flL_mapI, eqv_int, eqv_bl, eqv_LI, eqD_LI, eqD_nilI, filterT, eqD_nil0, eqD_int, eqD_bl, cEqD, cNeD, cIn, cNin, cIs, cIsn, inD_LI, inD_nilI, ints?_map, ints?_ints, atI_map, atI_nat, cutL_map, slD_map, compL_map, compL_enum, rangeD_I, compG_some, compG_all, dL_sh, dL_sh', map_sh, foldI, foldI1, addL, -List.map_cons, -List.map_append, -List.map_map, -List.map_take, -List.map_drop, -List.map_reverse, Rd2, biLen, biLenT, biListL, biSorted, biMax2, biMin2, biInt, isD1, isD2, G_out_of_order, Y_out_of_order_1, meD, meIdx hx, cutL_from (show (0 : Int) ≤ (pre.length : Int) + 1 by omega), hd]
        rw [compG_rule (xs := post) (fun y => decide (order.idxOf y < order.idxOf x)) (fun y => D.tup [D.int x, D.int y]) (fun y hy => by simp [meIdx (hpo y hy), Rd1, cLt, asB1]) (fun y hy _ => by simp [evSs, evS, evX, evXs, evXan, evXor, evXo, evXc, evXt, evp, evs, evAnd, evOr, evo, evc, evi, ShR, AlR, shS, alS, O.pu, O.puL, O.d, O.dL, Ro1, Ro2, Ro3, Ro4, Rd1, Rd2, Rd3, Rd4, Rf1, Rf2, Rf3, Rf4, iteB1, iteB2, iteR1, iteR, iteBl, iteIn, D.fl, D.flL, asB1, asO1, at21, getAll, setAll, unS, frz1, frzS, backS, bT1, bT2, bT3, bT4, bT5, bO1, bO2, bO3, bO4, bO5, bO6, bO7, bO8, bO9, C.d, oAdd, oSub, oMul1, oMul2, oMulC, oMod, oFdiv, itemsD, ixL, ixT, ai0, ai1, ai2, putL, xn0, xn1, xn2, cEq, cLt, cLe, cGt, cGe, cNe, addNL, addNR, start0_eq, mapS, mapD, foldO, pmapE, pmap, Tg.ids, Tgs.ids, biAll, LIM, ok_non, ok_bl, ok_int, ok_lst, ok_tup, okn_non, okn_bl, okn_int, okn_lst, okn_tup, okn_ints, okn_ints', flL_ints, mapOI, flL_mapI, eqv_int, eqv_bl, eqv_LI, eqD_LI, eqD_nilI, filterT, eqD_nil0, eqD_int, eqD_bl, cEqD, cNeD, cIn, cNin, cIs, cIsn, inD_LI, inD_nilI, ints?_map, ints?_ints, atI_map, atI_nat, cutL_map, slD_map, compL_map, compL_enum, rangeD_I, compG_some, compG_all, dL_sh, dL_sh', map_sh, foldI, foldI1, addL, -List.map_cons, -List.map_append, -List.map_map, -List.map_take, -List.map_drop, -List.map_reverse, Rd2, biLen, biLenT, biListL, biSorted, biMax2, biMin2, biInt, isD1, isD2])]
        simp only [Option.map_some, Option.bind_some, Rd2]
        rw [hA]
        simp [-List.map_append, Rf2, hF, Ro2, Function.comp_def]
      refine ⟨_, by simp [evSs, evS, evX, evXs, evXan, evXor, evXo, evXc, evXt, evp, evs, evAnd, evOr, evo, evc, evi, ShR, AlR, shS, alS, O.pu, O.puL, O.d, O.dL, Ro1, Ro2, Ro3, Ro4, Rd1, Rd2, Rd3, Rd4, Rf1, Rf2, Rf3, Rf4, iteB1, iteB2, iteR1, iteR, iteBl, iteIn, D.fl, D.flL, asB1, asO1, at21, getAll, setAll, unS, frz1, frzS, backS, bT1, bT2, bT3, bT4, bT5, bO1, bO2, bO3, bO4, bO5, bO6, bO7, bO8, bO9, C.d, oAdd, oSub, oMul1, oMul2, oMulC, oMod, oFdiv, itemsD, ixL, ixT, ai0, ai1, ai2, putL, xn0, xn1, xn2, cEq, cLt, cLe, cGt, cGe, cNe, addNL, addNR, start0_eq, mapS, mapD, foldO, pmapE, pmap, Tg.ids, Tgs.ids, biAll, LIM, ok_non, ok_bl, ok_int, ok_lst, ok_tup, okn_non, okn_bl, okn_int, okn_lst, okn_tup, okn_ints, okn_ints', flL_ints, mapOI, flL_mapI, eqv_int, eqv_bl, eqv_LI, eqD_LI, eqD_nilI, filterT, eqD_nil0, eqD_int, eqD_bl, cEqD, cNeD, cIn, cNin, cIs, cIsn, inD_LI, inD_nilI, ints?_map, ints?_ints, atI_map, atI_nat, cutL_map, slD_map, compL_map, compL_enum, rangeD_I, compG_some, compG_all, dL_sh, dL_sh', map_sh, foldI, foldI1, addL, -List.map_cons, -List.map_append, -List.map_map, -List.map_take, -List.map_drop, -List.map_reverse, Rd2, biLen, biLenT, biListL, biSorted, biMax2, biMin2, biInt, isD1, isD2] <;> rfl, _, .inl he, ?_⟩
      refine ⟨_, _, _, _, ?_, rfl⟩
      simp only [List.length_append, List.length_cons, List.length_nil, hd, List.length_map]
      omega
  obtain ⟨ρ', h1, L, j, k, l, hn, rfl⟩ := loop
  have h1' : evS G_out_of_order W_out_of_order_1 _ = _ := h1
  simp only [G_out_of_order] at h1'
  refine ⟨L, ?_, by simpa [otherw] using hn⟩
  unfold F_out_of_order runF
  simp [evSs, evS, evX, evXs, evXan, evXor, evXo, evXc, evXt, evp, evs, evAnd, evOr, evo, evc, evi, ShR, AlR, shS, alS, O.pu, O.puL, O.d, O.dL, Ro1, Ro2, Ro3, Ro4, Rd1, Rd2, Rd3, Rd4, Rf1, Rf2, Rf3, Rf4, iteB1, iteB2, iteR1, iteR, iteBl, iteIn, D.fl, D.flL, asB1, asO1, at21, getAll, setAll, unS, frz1, frzS, backS, bT1, bT2, bT3, bT4, bT5, bO1, bO2, bO3, bO4, bO5, bO6, bO7, bO8, bO9, C.d, oAdd, oSub, oMul1, oMul2, oMulC, oMod, oFdiv, itemsD, ixL, ixT, ai0, ai1, ai2, putL, xn0, xn1, xn2, cEq, cLt, cLe, cGt, cGe, cNe, addNL, addNR, start0_eq, mapS, mapD, foldO, pmapE, pmap, Tg.ids, Tgs.ids, biAll, LIM, ok_non, ok_bl, ok_int, ok_lst, ok_tup, okn_non, okn_bl, okn_int, okn_lst, okn_tup, okn_ints, okn_ints', flL_ints, mapOI, flL_mapI, eqv_int, eqv_bl, eqv_LI, eqD_LI, eqD_nilI, filterT, eqD_nil0, eqD_int, eqD_bl, cEqD, cNeD, cIn, cNin, cIs, cIsn, inD_LI, inD_nilI, ints?_map, ints?_ints, atI_map, atI_nat, cutL_map, slD_map, compL_map, compL_enum, rangeD_I, compG_some, compG_all, dL_sh, dL_sh', map_sh, foldI, foldI1, addL, -List.map_cons, -List.map_append, -List.map_map, -List.map_take, -List.map_drop, -List.map_reverse, Rd2, biLen, biLenT, biListL, biSorted, biMax2, biMin2, biInt, isD1, isD2, G_out_of_order, B_out_of_order, cutL_to (show (0 : Int) ≤ (ask : Int) by omega), hm, h1']
end L46
end KP
/-! K46n: potentials. -/
namespace KP
namespace L46
open PySem L2 Com
/-- pairs that stand otherwise, first and behind each ask -/
def potI (row order : List Int) : List Int := (List.range (row.length + 1)).map fun k => ((otherw (kO order) ((row.take k).foldl mtf order) : Nat) : Int)
theorem p_potentials {row order : List Int} (h : OC row order) : pf F_potentials [.lst (row.map .int), .lst (order.map .int)] = some (.sh (.lst ((potI row order).map .int))) := by
  have hrl := h.l2
  unfold pf F_potentials runF
  simp [evSs, evS, evX, evXs, evXan, evXor, evXo, evXc, evXt, evp, evs, evAnd, evOr, evo, evc, evi, ShR, AlR, shS, alS, O.pu, O.puL, O.d, O.dL, Ro1, Ro2, Ro3, Ro4, Rd1, Rd2, Rd3, Rd4, Rf1, Rf2, Rf3, Rf4, iteB1, iteB2, iteR1, iteR, iteBl, iteIn, D.fl, D.flL, asB1, asO1, at21, getAll, setAll, unS, frz1, frzS, backS, bT1, bT2, bT3, bT4, bT5, bO1, bO2, bO3, bO4, bO5, bO6, bO7, bO8, bO9, C.d, oAdd, oSub, oMul1, oMul2, oMulC, oMod, oFdiv, itemsD, ixL, ixT, ai0, ai1, ai2, putL, xn0, xn1, xn2, cEq, cLt, cLe, cGt, cGe, cNe, addNL, addNR, start0_eq, mapS, mapD, foldO, pmapE, pmap, Tg.ids, Tgs.ids, biAll, LIM, ok_non, ok_bl, ok_int, ok_lst, ok_tup, okn_non, okn_bl, okn_int, okn_lst, okn_tup, okn_ints, okn_ints', flL_ints, mapOI, flL_mapI, eqv_int, eqv_bl, eqv_LI, eqD_LI, eqD_nilI, filterT, eqD_nil0, eqD_int, eqD_bl, cEqD, cNeD, cIn, cNin, cIs, cIsn, inD_LI, inD_nilI, ints?_map, ints?_ints, atI_map, atI_nat, cutL_map, slD_map, compL_map, compL_enum, rangeD_I, compG_some, compG_all, dL_sh, dL_sh', map_sh, foldI, foldI1, addL, -List.map_cons, -List.map_append, -List.map_map, -List.map_take, -List.map_drop, -List.map_reverse, Rd2, biLen, biLenT, biListL, biSorted, biMax2, biMin2, biInt, isD1, isD2, G_potentials, B_potentials, h.row, p_check_list h, smallI, show -100000 ≤ (row.length : Int) + 1 by omega, show (row.length : Int) + 1 ≤ 100000 by omega]
  rw [compG_map (xs := iran 0 ((row.length : Int) + 1)) (fun i => D.int ((otherw (kO order) ((row.take i.toNat).foldl mtf order) : Nat) : Int)) (fun _ _ => rfl) (fun i hi => ?_)]
  · simp [Ro2, dL_sh, Function.comp_def, O.d, potI, iran]
  · have hm := mem_iran.mp hi
    obtain ⟨L, h1, h2⟩ := r_out_of_order h i.toNat (by omega)
    rw [show ((i.toNat : Nat) : Int) = i by omega] at h1
    simp [pf_of h1, Rd1, O.d, dL_sh, biLen, h2]
end L46
end KP
/-! K46o: what two things cost. -/
namespace KP
namespace L46
open PySem L2 Com
abbrev asksI (row : List Int) (a b : Int) : List Int := row.filter fun x => decide (x = a) || decide (x = b)
def pairI (row order : List Int) (a b : Int) : Int × Int := ((costs (asksI row a b) (asksI order a b)).sum - (asksI row a b).length, (fixI (asksI row a b) (asksI order a b)).sum - (asksI row a b).length)
theorem p_pair_of {row order : List Int} (h : OC row order) (a b : Int) : pf F_pair_of [.lst (row.map .int), .lst (order.map .int), .int a, .int b] = some (.sh (.tup [.int (pairI row order a b).1, .int (pairI row order a b).2])) := by
  have hrl := h.l2
  have hol := h.ol
  have l1 : (asksI row a b).length ≤ row.length := List.length_filter_le (fun x : Int => decide (x = a) || decide (x = b)) row
  have l2 : (asksI order a b).length ≤ order.length := List.length_filter_le (fun x : Int => decide (x = a) || decide (x = b)) order
  have nd : (asksI order a b).Nodup := h.nd.sublist List.filter_sublist
  have sub : ∀ x ∈ asksI row a b, x ∈ asksI order a b := fun x hx => List.mem_filter.mpr ⟨h.sub x (List.mem_filter.mp hx).1, (List.mem_filter.mp hx).2⟩
  have h1 := pf_of (r_moved_of nd sub (by omega) (by omega))
  have h2 := pf_of (r_fixed_of sub (by omega))
  unfold pf F_pair_of runF
  simp only [asksI] at h1 h2
  simp [evSs, evS, evX, evXs, evXan, evXor, evXo, evXc, evXt, evp, evs, evAnd, evOr, evo, evc, evi, ShR, AlR, shS, alS, O.pu, O.puL, O.d, O.dL, Ro1, Ro2, Ro3, Ro4, Rd1, Rd2, Rd3, Rd4, Rf1, Rf2, Rf3, Rf4, iteB1, iteB2, iteR1, iteR, iteBl, iteIn, D.fl, D.flL, asB1, asO1, at21, getAll, setAll, unS, frz1, frzS, backS, bT1, bT2, bT3, bT4, bT5, bO1, bO2, bO3, bO4, bO5, bO6, bO7, bO8, bO9, C.d, oAdd, oSub, oMul1, oMul2, oMulC, oMod, oFdiv, itemsD, ixL, ixT, ai0, ai1, ai2, putL, xn0, xn1, xn2, cEq, cLt, cLe, cGt, cGe, cNe, addNL, addNR, start0_eq, mapS, mapD, foldO, pmapE, pmap, Tg.ids, Tgs.ids, biAll, LIM, ok_non, ok_bl, ok_int, ok_lst, ok_tup, okn_non, okn_bl, okn_int, okn_lst, okn_tup, okn_ints, okn_ints', flL_ints, mapOI, flL_mapI, eqv_int, eqv_bl, eqv_LI, eqD_LI, eqD_nilI, filterT, eqD_nil0, eqD_int, eqD_bl, cEqD, cNeD, cIn, cNin, cIs, cIsn, inD_LI, inD_nilI, ints?_map, ints?_ints, atI_map, atI_nat, cutL_map, slD_map, compL_map, compL_enum, rangeD_I, compG_some, compG_all, dL_sh, dL_sh', map_sh, foldI, foldI1, addL, -List.map_cons, -List.map_append, -List.map_map, -List.map_take, -List.map_drop, -List.map_reverse, Rd2, biLen, biLenT, biListL, biSorted, biMax2, biMin2, biInt, isD1, isD2, G_pair_of, B_pair_of, inT2, h1, h2, dL_sh, biSum]
  exact ⟨rfl, rfl⟩
theorem p_pair_costs {row order : List Int} (h : OC row order) {a b : Int} (ha : a ∈ order) (hb : b ∈ order) (ne : a ≠ b) : pf F_pair_costs [.lst (row.map .int), .lst (order.map .int), .int a, .int b] = some (.sh (.tup [.int (pairI row order a b).1, .int (pairI row order a b).2])) := by
  have h1 := h.ot a ha
  have h2 := h.ot b hb
  have ne' : ¬ b = a := fun z => ne z.symm
  unfold pf F_pair_costs runF
  simp [evSs, evS, evX, evXs, evXan, evXor, evXo, evXc, evXt, evp, evs, evAnd, evOr, evo, evc, evi, ShR, AlR, shS, alS, O.pu, O.puL, O.d, O.dL, Ro1, Ro2, Ro3, Ro4, Rd1, Rd2, Rd3, Rd4, Rf1, Rf2, Rf3, Rf4, iteB1, iteB2, iteR1, iteR, iteBl, iteIn, D.fl, D.flL, asB1, asO1, at21, getAll, setAll, unS, frz1, frzS, backS, bT1, bT2, bT3, bT4, bT5, bO1, bO2, bO3, bO4, bO5, bO6, bO7, bO8, bO9, C.d, oAdd, oSub, oMul1, oMul2, oMulC, oMod, oFdiv, itemsD, ixL, ixT, ai0, ai1, ai2, putL, xn0, xn1, xn2, cEq, cLt, cLe, cGt, cGe, cNe, addNL, addNR, start0_eq, mapS, mapD, foldO, pmapE, pmap, Tg.ids, Tgs.ids, biAll, LIM, ok_non, ok_bl, ok_int, ok_lst, ok_tup, okn_non, okn_bl, okn_int, okn_lst, okn_tup, okn_ints, okn_ints', flL_ints, mapOI, flL_mapI, eqv_int, eqv_bl, eqv_LI, eqD_LI, eqD_nilI, filterT, eqD_nil0, eqD_int, eqD_bl, cEqD, cNeD, cIn, cNin, cIs, cIsn, inD_LI, inD_nilI, ints?_map, ints?_ints, atI_map, atI_nat, cutL_map, slD_map, compL_map, compL_enum, rangeD_I, compG_some, compG_all, dL_sh, dL_sh', map_sh, foldI, foldI1, addL, -List.map_cons, -List.map_append, -List.map_map, -List.map_take, -List.map_drop, -List.map_reverse, Rd2, biLen, biLenT, biListL, biSorted, biMax2, biMin2, biInt, isD1, isD2, G_pair_costs, B_pair_costs, h.row, p_check_list h, p_is_thing, ha, hb, h1, h2, ne', p_pair_of h a b]
end L46
end KP
/-! K46q: sums over all pairs. -/
namespace KP
namespace L46
open PySem L2 Com
/-- costs by one, ints -/
theorem costs_sum (row order : List Int) : (costs row order).sum = ((runM order row).sum : Nat) + (row.length : Int) := by
  unfold costs
  have : ∀ l : List Nat, (l.map fun n : Nat => (n : Int) + 1).sum = (l.sum : Nat) + (l.length : Int) := fun l => by
    induction l with
    | nil => rfl
    | cons x l ih => simp only [List.map_cons, List.sum_cons, ih, List.length_cons]; omega
  rw [this, runM_length]
theorem fix_sum (row order : List Int) : (fixI row order).sum = ((row.map fun x => order.idxOf x).sum : Nat) + (row.length : Int) := by
  unfold fixI
  induction row with
  | nil => rfl
  | cons x l ih => simp only [List.map_cons, List.sum_cons, ih, List.length_cons]; omega
theorem asks_isP (row : List Int) (a b : Int) : asksI row a b = row.filter (isP a b) := by
  unfold asksI isP
  apply List.filter_congr
  intro x _
  rw [Bool.decide_or]
theorem pairI_eq {row order : List Int} (h : OC row order) {a b : Int} (ha : a ∈ order) (hb : b ∈ order) (ne : a ≠ b) : pairI row order a b = (((pcost a b order row : Nat) : Int), ((fcost order a b row : Nat) : Int)) := by
  unfold pairI
  rw [costs_sum, fix_sum, asks_isP, asks_isP, run_pair ne h.nd ha hb h.sub, fix_pair h.nd ne ha hb h.sub]
  ext <;> simp
end L46
end KP
/-! K46r: sums_by_pairs. -/
namespace KP
namespace L46
open PySem L2 Com
theorem pcost_comm (a b : Int) : ∀ (row t : List Int), pcost a b t row = pcost b a t row
  | [], _ => rfl
  | x :: r, t => by
    show wx _ x a b + pcost a b (mtf t x) r = wx _ x b a + pcost b a (mtf t x) r
    rw [wx_comm, pcost_comm a b r]
theorem fcost_comm (o : List Int) (a b : Int) : ∀ (row : List Int), fcost o a b row = fcost o b a row
  | [] => rfl
  | x :: r => by
    show wx _ x a b + fcost o a b r = wx _ x b a + fcost o b a r
    rw [wx_comm, fcost_comm o a b r]
theorem inner {row order : List Int} (h : OC row order) {pre post : List Int} {a : Int} (e : order = pre ++ a :: post) (f g : Int) (j6 j7 : Option O) :
    ∃ k6 k7, evS G_sums_by_pairs W_sums_by_pairs_1 [some (.sh (.lst (row.map .int))), some (.sh (.lst (order.map .int))), some (.sh (.int f)), some (.sh (.int g)), some (.sh (.int pre.length)), some (.sh (.int a)), j6, j7] =
      some (.nx [some (.sh (.lst (row.map .int))), some (.sh (.lst (order.map .int))), some (.sh (.int (f + ((pre.map fun b => pcost a b order row).sum : Nat)))), some (.sh (.int (g + ((pre.map fun b => fcost order a b row).sum : Nat)))), some (.sh (.int pre.length)), some (.sh (.int a)), k6, k7]) := by
  have hol := h.ol
  have ht : order.take pre.length = pre := by rw [e]; simp
  have ha : a ∈ order := by rw [e]; simp
  have loop := fo_map (G := G_sums_by_pairs) (tg := .nm 6) (it := .sq (.p (.sl (.v 1) .no (.so (.v 4))))) (b := Y_sums_by_pairs_1) (xs := pre) (e := D.int)
    (ρ := [some (.sh (.lst (row.map .int))), some (.sh (.lst (order.map .int))), some (.sh (.int f)), some (.sh (.int g)), some (.sh (.int pre.length)), some (.sh (.int a)), j6, j7])
    (fun p ρ => ∃ (k6 k7 : Option O), ρ = [some (.sh (.lst (row.map .int))), some (.sh (.lst (order.map .int))), some (.sh (.int (f + ((p.map fun b => pcost a b order row).sum : Nat)))), some (.sh (.int (g + ((p.map fun b => fcost order a b row).sum : Nat)))), some (.sh (.int pre.length)), some (.sh (.int a)), k6, k7])
    (by simp [evSs, evS, evX, evXs, evXan, evXor, evXo, evXc, evXt, evp, evs, evAnd, evOr, evo, evc, evi, ShR, AlR, shS, alS, O.pu, O.puL, O.d, O.dL, Ro1, Ro2, Ro3, Ro4, Rd1, Rd2, Rd3, Rd4, Rf1, Rf2, Rf3, Rf4, iteB1, iteB2, iteR1, iteR, iteBl, iteIn, D.fl, D.flL, asB1, asO1, at21, getAll, setAll, unS, frz1, frzS, backS, bT1, bT2, bT3, bT4, bT5, bO1, bO2, bO3, bO4, bO5, bO6, bO7, bO8, bO9, C.d, oAdd, oSub, oMul1, oMul2, oMulC, oMod, oFdiv, itemsD, ixL, ixT, ai0, ai1, ai2, putL, xn0, xn1, xn2, cEq, cLt, cLe, cGt, cGe, cNe, addNL, addNR, start0_eq, mapS, mapD, foldO, pmapE, pmap, Tg.ids, Tgs.ids, biAll, LIM, ok_non, ok_bl, ok_int, ok_lst, ok_tup, okn_non, okn_bl, okn_int, okn_lst, okn_tup, okn_ints, okn_ints', flL_ints, mapOI, flL_mapI, eqv_int, eqv_bl, eqv_LI, eqD_LI, eqD_nilI, filterT, eqD_nil0, eqD_int, eqD_bl, cEqD, cNeD, cIn, cNin, cIs, cIsn, inD_LI, inD_nilI, ints?_map, ints?_ints, atI_map, atI_nat, cutL_map, slD_map, compL_map, compL_enum, rangeD_I, compG_some, compG_all, dL_sh, dL_sh', map_sh, foldI, foldI1, addL, -List.map_cons, -List.map_append, -List.map_map, -List.map_take, -List.map_drop, -List.map_reverse, Rd2, biLen, biLenT, biListL, biSorted, biMax2, biMin2, biInt, isD1, isD2, cutL_to (show (0 : Int) ≤ (pre.length : Int) by omega), ht] <;> rfl) ⟨j6, j7, by simp⟩ fun p x q ρ e1 ⟨k6, k7, e2⟩ => by
      subst e2
      have hx : x ∈ order := by rw [e, e1]; simp
      have ne : a ≠ x := fun z => by
        have := (List.nodup_append.mp (e ▸ h.nd)).2.2 x (by rw [e1]; simp) a (by simp)
        exact this z.symm
      have hp := p_pair_of h a x
      have hq := pairI_eq h ha hx ne
      rw [hq] at hp
      refine ⟨_, by simp [evSs, evS, evX, evXs, evXan, evXor, evXo, evXc, evXt, evp, evs, evAnd, evOr, evo, evc, evi, ShR, AlR, shS, alS, O.pu, O.puL, O.d, O.dL, Ro1, Ro2, Ro3, Ro4, Rd1, Rd2, Rd3, Rd4, Rf1, Rf2, Rf3, Rf4, iteB1, iteB2, iteR1, iteR, iteBl, iteIn, D.fl, D.flL, asB1, asO1, at21, getAll, setAll, unS, frz1, frzS, backS, bT1, bT2, bT3, bT4, bT5, bO1, bO2, bO3, bO4, bO5, bO6, bO7, bO8, bO9, C.d, oAdd, oSub, oMul1, oMul2, oMulC, oMod, oFdiv, itemsD, ixL, ixT, ai0, ai1, ai2, putL, xn0, xn1, xn2, cEq, cLt, cLe, cGt, cGe, cNe, addNL, addNR, start0_eq, mapS, mapD, foldO, pmapE, pmap, Tg.ids, Tgs.ids, biAll, LIM, ok_non, ok_bl, ok_int, ok_lst, ok_tup, okn_non, okn_bl, okn_int, okn_lst, okn_tup, okn_ints, okn_ints', flL_ints, mapOI, flL_mapI, eqv_int, eqv_bl, eqv_LI, eqD_LI, eqD_nilI, filterT, eqD_nil0, eqD_int, eqD_bl, cEqD, cNeD, cIn, cNin, cIs, cIsn, inD_LI, inD_nilI, ints?_map, ints?_ints, atI_map, atI_nat, cutL_map, slD_map, compL_map, compL_enum, rangeD_I, compG_some, compG_all, dL_sh, dL_sh', map_sh, foldI, foldI1, addL, -List.map_cons, -List.map_append, -List.map_map, -List.map_take, -List.map_drop, -List.map_reverse, Rd2, biLen, biLenT, biListL, biSorted, biMax2, biMin2, biInt, isD1, isD2] <;> rfl, _, .inl (by simp [evSs, evS, evX, evXs, evXan, evXor, evXo, evXc, evXt, evp, evs, evAnd, evOr, evo, evc, evi, ShR, AlR, shS, alS, O.pu, O.puL, O.d, O.dL, Ro1, Ro2, Ro3, Ro4, Rd1, Rd2, Rd3, Rd4, Rf1, Rf2, Rf3, Rf4, iteB1, iteB2, iteR1, iteR, iteBl, iteIn, D.fl, D.flL, asB1, asO1, at21, getAll, setAll, unS, frz1, frzS, backS, bT1, bT2, bT3, bT4, bT5, bO1, bO2, bO3, bO4, bO5, bO6, bO7, bO8, bO9, C.d, oAdd, oSub, oMul1, oMul2, oMulC, oMod, oFdiv, itemsD, ixL, ixT, ai0, ai1, ai2, putL, xn0, xn1, xn2, cEq, cLt, cLe, cGt, cGe, cNe, addNL, addNR, start0_eq, mapS, mapD, foldO, pmapE, pmap, Tg.ids, Tgs.ids, biAll, LIM, ok_non, ok_bl, ok_int, ok_lst, ok_tup, okn_non, okn_bl, okn_int, okn_lst, okn_tup, okn_ints, okn_ints', flL_ints, mapOI, flL_mapI, eqv_int, eqv_bl, eqv_LI, eqD_LI, eqD_nilI, filterT, eqD_nil0, eqD_int, eqD_bl, cEqD, cNeD, cIn, cNin, cIs, cIsn, inD_LI, inD_nilI, ints?_map, ints?_ints, atI_map, atI_nat, cutL_map, slD_map, compL_map, compL_enum, rangeD_I, compG_some, compG_all, dL_sh, dL_sh', map_sh, foldI, foldI1, addL, -List.map_cons, -List.map_append, -List.map_map, -List.map_take, -List.map_drop, -List.map_reverse, Rd2, biLen, biLenT, biListL, biSorted, biMax2, biMin2, biInt, isD1, isD2, G_sums_by_pairs, Y_sums_by_pairs_1, hp] <;> rfl), ?_⟩
      refine ⟨some (.sh (.int x)), some (.sh (.tup [.int (pcost a x order row : Nat), .int (fcost order a x row : Nat)])), ?_⟩
      simp [Int.add_assoc]
  obtain ⟨ρ', h1, k6, k7, rfl⟩ := loop
  exact ⟨k6, k7, h1⟩
end L46
end KP
/-! K46s: sums_by_pairs, whole. -/
namespace KP
namespace L46
open PySem L2 Com
theorem p_sums_by_pairs {row order : List Int} (h : OC row order) : pf F_sums_by_pairs [.lst (row.map .int), .lst (order.map .int)] = some (.sh (.tup [.int (costs row order).sum, .int (fixI row order).sum])) := by
  have loop := fo_enum (G := G_sums_by_pairs) (tg := .tp (.cons (.nm 4) (.cons (.nm 5) .nil))) (it := .en (.p (.v 1))) (b := Y_sums_by_pairs_2) (xs := order) (e := D.int)
    (ρ := [some (.sh (.lst (row.map .int))), some (.sh (.lst (order.map .int))), some (.sh (.int row.length)), some (.sh (.int row.length)), none, none, none, none])
    (fun p ρ => ∃ (k4 k5 k6 k7 : Option O), ρ = [some (.sh (.lst (row.map .int))), some (.sh (.lst (order.map .int))), some (.sh (.int ((row.length : Int) + (psum (fun a b => pcost a b order row) p : Nat)))), some (.sh (.int ((row.length : Int) + (psum (fun a b => fcost order a b row) p : Nat)))), k4, k5, k6, k7])
    (by simp [evSs, evS, evX, evXs, evXan, evXor, evXo, evXc, evXt, evp, evs, evAnd, evOr, evo, evc, evi, ShR, AlR, shS, alS, O.pu, O.puL, O.d, O.dL, Ro1, Ro2, Ro3, Ro4, Rd1, Rd2, Rd3, Rd4, Rf1, Rf2, Rf3, Rf4, iteB1, iteB2, iteR1, iteR, iteBl, iteIn, D.fl, D.flL, asB1, asO1, at21, getAll, setAll, unS, frz1, frzS, backS, bT1, bT2, bT3, bT4, bT5, bO1, bO2, bO3, bO4, bO5, bO6, bO7, bO8, bO9, C.d, oAdd, oSub, oMul1, oMul2, oMulC, oMod, oFdiv, itemsD, ixL, ixT, ai0, ai1, ai2, putL, xn0, xn1, xn2, cEq, cLt, cLe, cGt, cGe, cNe, addNL, addNR, start0_eq, mapS, mapD, foldO, pmapE, pmap, Tg.ids, Tgs.ids, biAll, LIM, ok_non, ok_bl, ok_int, ok_lst, ok_tup, okn_non, okn_bl, okn_int, okn_lst, okn_tup, okn_ints, okn_ints', flL_ints, mapOI, flL_mapI, eqv_int, eqv_bl, eqv_LI, eqD_LI, eqD_nilI, filterT, eqD_nil0, eqD_int, eqD_bl, cEqD, cNeD, cIn, cNin, cIs, cIsn, inD_LI, inD_nilI, ints?_map, ints?_ints, atI_map, atI_nat, cutL_map, slD_map, compL_map, compL_enum, rangeD_I, compG_some, compG_all, dL_sh, dL_sh', map_sh, foldI, foldI1, addL, -List.map_cons, -List.map_append, -List.map_map, -List.map_take, -List.map_drop, -List.map_reverse, Rd2, biLen, biLenT, biListL, biSorted, biMax2, biMin2, biInt, isD1, isD2] <;> rfl) ⟨none, none, none, none, by simp [psum]⟩ fun pre a post ρ e ⟨k4, k5, k6, k7, e2⟩ => by
      subst e2
      obtain ⟨m6, m7, hW⟩ := inner h e ((row.length : Int) + (psum (fun a b => pcost a b order row) pre : Nat)) ((row.length : Int) + (psum (fun a b => fcost order a b row) pre : Nat)) k6 k7
      have e1 : psum (fun a b => pcost a b order row) (pre ++ [a]) = psum (fun a b => pcost a b order row) pre + (pre.map fun b => pcost a b order row).sum := by
        rw [psum_snoc]; congr 2; exact List.map_congr_left fun b _ => pcost_comm b a row order
      have e2 : psum (fun a b => fcost order a b row) (pre ++ [a]) = psum (fun a b => fcost order a b row) pre + (pre.map fun b => fcost order a b row).sum := by
        rw [psum_snoc]; congr 2; exact List.map_congr_left fun b _ => fcost_comm order b a row
      refine ⟨_, by simp [evSs, evS, evX, evXs, evXan, evXor, evXo, evXc, evXt, evp, evs, evAnd, evOr, evo, evc, evi, ShR, AlR, shS, alS, O.pu, O.puL, O.d, O.dL, Ro1, Ro2, Ro3, Ro4, Rd1, Rd2, Rd3, Rd4, Rf1, Rf2, Rf3, Rf4, iteB1, iteB2, iteR1, iteR, iteBl, iteIn, D.fl, D.flL, asB1, asO1, at21, getAll, setAll, unS, frz1, frzS, backS, bT1, bT2, bT3, bT4, bT5, bO1, bO2, bO3, bO4, bO5, bO6, bO7, bO8, bO9, C.d, oAdd, oSub, oMul1, oMul2, oMulC, oMod, oFdiv, itemsD, ixL, ixT, ai0, ai1, ai2, putL, xn0, xn1, xn2, cEq, cLt, cLe, cGt, cGe, cNe, addNL, addNR, start0_eq, mapS, mapD, foldO, pmapE, pmap, Tg.ids, Tgs.ids, biAll, LIM, ok_non, ok_bl, ok_int, ok_lst, ok_tup, okn_non, okn_bl, okn_int, okn_lst, okn_tup, okn_ints, okn_ints', flL_ints, mapOI, flL_mapI, eqv_int, eqv_bl, eqv_LI, eqD_LI, eqD_nilI, filterT, eqD_nil0, eqD_int, eqD_bl, cEqD, cNeD, cIn, cNin, cIs, cIsn, inD_LI, inD_nilI, ints?_map, ints?_ints, atI_map, atI_nat, cutL_map, slD_map, compL_map, compL_enum, rangeD_I, compG_some, compG_all, dL_sh, dL_sh', map_sh, foldI, foldI1, addL, -List.map_cons, -List.map_append, -List.map_map, -List.map_take, -List.map_drop, -List.map_reverse, Rd2, biLen, biLenT, biListL, biSorted, biMax2, biMin2, biInt, isD1, isD2] <;> rfl, _, .inl (by unfold Y_sums_by_pairs_2; simp only [evSs, hW, Option.bind_some] <;> rfl), ?_⟩
      rw [e1, e2]
      exact ⟨some (.sh (.int pre.length)), some (.sh (.int a)), m6, m7, by simp [Int.add_assoc]⟩
  obtain ⟨ρ', h1, k4, k5, k6, k7, rfl⟩ := loop
  have h1' : evS G_sums_by_pairs W_sums_by_pairs_2 _ = _ := h1
  simp only [G_sums_by_pairs] at h1'
  rw [costs_sum, fix_sum, run_pairs h.nd (List.Perm.refl order) h.sub, fix_pairs h.nd h.sub]
  unfold pf F_sums_by_pairs runF
  simp [evSs, evS, evX, evXs, evXan, evXor, evXo, evXc, evXt, evp, evs, evAnd, evOr, evo, evc, evi, ShR, AlR, shS, alS, O.pu, O.puL, O.d, O.dL, Ro1, Ro2, Ro3, Ro4, Rd1, Rd2, Rd3, Rd4, Rf1, Rf2, Rf3, Rf4, iteB1, iteB2, iteR1, iteR, iteBl, iteIn, D.fl, D.flL, asB1, asO1, at21, getAll, setAll, unS, frz1, frzS, backS, bT1, bT2, bT3, bT4, bT5, bO1, bO2, bO3, bO4, bO5, bO6, bO7, bO8, bO9, C.d, oAdd, oSub, oMul1, oMul2, oMulC, oMod, oFdiv, itemsD, ixL, ixT, ai0, ai1, ai2, putL, xn0, xn1, xn2, cEq, cLt, cLe, cGt, cGe, cNe, addNL, addNR, start0_eq, mapS, mapD, foldO, pmapE, pmap, Tg.ids, Tgs.ids, biAll, LIM, ok_non, ok_bl, ok_int, ok_lst, ok_tup, okn_non, okn_bl, okn_int, okn_lst, okn_tup, okn_ints, okn_ints', flL_ints, mapOI, flL_mapI, eqv_int, eqv_bl, eqv_LI, eqD_LI, eqD_nilI, filterT, eqD_nil0, eqD_int, eqD_bl, cEqD, cNeD, cIn, cNin, cIs, cIsn, inD_LI, inD_nilI, ints?_map, ints?_ints, atI_map, atI_nat, cutL_map, slD_map, compL_map, compL_enum, rangeD_I, compG_some, compG_all, dL_sh, dL_sh', map_sh, foldI, foldI1, addL, -List.map_cons, -List.map_append, -List.map_map, -List.map_take, -List.map_drop, -List.map_reverse, Rd2, biLen, biLenT, biListL, biSorted, biMax2, biMin2, biInt, isD1, isD2, G_sums_by_pairs, B_sums_by_pairs, h.row, p_check_list h, h1']
  omega
end L46
end KP
/-! K46u: the law's look at a pair. -/
namespace KP
namespace L46
open PySem L2 Com
theorem cc_snoc (x : Int) : ∀ (pre : List Int) (f : Int), cc f (pre ++ [x]) = cc f pre + (if x = (pre.getLast?).getD f then 0 else 1)
  | [], f => by simp [cc]; rfl
  | [y], f => by simp [cc]; rfl
  | y :: z :: pre, f => by
    have ih := cc_snoc x (z :: pre) y
    have e1 : (y :: z :: pre).getLast? = (z :: pre).getLast? := by simp [List.getLast?_cons_cons]
    have e2 : ((z :: pre).getLast?).getD f = ((z :: pre).getLast?).getD y := by
      simp [List.getLast?_cons]
    show (if y = f then 0 else 1) + cc y ((z :: pre) ++ [x]) = (if y = f then 0 else 1) + cc y (z :: pre) + _
    rw [ih, e1, e2]
    omega
theorem r_law_pair {row order : List Int} {a b p0 p1 : Int} (hl : row.length ≤ 1000) (ho : order.length ≤ 1000) (hp : asksI order a b = [p0, p1]) :
    pf F__law_pair [.lst (row.map .int), .lst (order.map .int), .int a, .int b] = some (.sh (.tup [.int (cc p0 (asksI row a b) : Nat), .int ((asksI row a b).filter fun x => decide (x = p1)).length])) := by
  have l1 : (asksI row a b).length ≤ row.length := List.length_filter_le _ _
  have loop := fo_mapG (G := G__law_pair) (tg := .nm 6) (it := .sq (.z [4] (.p (.v 4)))) (b := Y__law_pair_1) (xs := asksI row a b) (e := D.int)
    (ρ := [some (.sh (.lst (row.map .int))), some (.sh (.lst (order.map .int))), some (.sh (.int a)), some (.sh (.int b)), some (.ol ((asksI row a b).map fun x => .sh (.int x))), some (.ol ([p0, p1].map fun x => .sh (.int x))), none, some (.sh (.int 0)), some (.sh (.int p0))])
    (ρ0 := [some (.sh (.lst (row.map .int))), some (.sh (.lst (order.map .int))), some (.sh (.int a)), some (.sh (.int b)), some (.sh (.lst ((asksI row a b).map .int))), some (.ol ([p0, p1].map fun x => .sh (.int x))), none, some (.sh (.int 0)), some (.sh (.int p0))])
    (fun pre ρ => ∃ (j : Option O), ρ = [some (.sh (.lst (row.map .int))), some (.sh (.lst (order.map .int))), some (.sh (.int a)), some (.sh (.int b)), some (.sh (.lst ((asksI row a b).map .int))), some (.ol ([p0, p1].map fun x => .sh (.int x))), j, some (.sh (.int (cc p0 pre : Nat))), some (.sh (.int ((pre.getLast?).getD p0)))])
    (by simp [evSs, evS, evX, evXs, evXan, evXor, evXo, evXc, evXt, evp, evs, evAnd, evOr, evo, evc, evi, ShR, AlR, shS, alS, O.pu, O.puL, O.d, O.dL, Ro1, Ro2, Ro3, Ro4, Rd1, Rd2, Rd3, Rd4, Rf1, Rf2, Rf3, Rf4, iteB1, iteB2, iteR1, iteR, iteBl, iteIn, D.fl, D.flL, asB1, asO1, at21, getAll, setAll, unS, frz1, frzS, backS, bT1, bT2, bT3, bT4, bT5, bO1, bO2, bO3, bO4, bO5, bO6, bO7, bO8, bO9, C.d, oAdd, oSub, oMul1, oMul2, oMulC, oMod, oFdiv, itemsD, ixL, ixT, ai0, ai1, ai2, putL, xn0, xn1, xn2, cEq, cLt, cLe, cGt, cGe, cNe, addNL, addNR, start0_eq, mapS, mapD, foldO, pmapE, pmap, Tg.ids, Tgs.ids, biAll, LIM, ok_non, ok_bl, ok_int, ok_lst, ok_tup, okn_non, okn_bl, okn_int, okn_lst, okn_tup, okn_ints, okn_ints', flL_ints, mapOI, flL_mapI, eqv_int, eqv_bl, eqv_LI, eqD_LI, eqD_nilI, filterT, eqD_nil0, eqD_int, eqD_bl, cEqD, cNeD, cIn, cNin, cIs, cIsn, inD_LI, inD_nilI, ints?_map, ints?_ints, atI_map, atI_nat, cutL_map, slD_map, compL_map, compL_enum, rangeD_I, compG_some, compG_all, dL_sh, dL_sh', map_sh, foldI, foldI1, addL, -List.map_cons, -List.map_append, -List.map_map, -List.map_take, -List.map_drop, -List.map_reverse, Rd2, biLen, biLenT, biListL, biSorted, biMax2, biMin2, biInt, isD1, isD2] <;> rfl) ⟨none, rfl⟩ fun pre x post ρ e ⟨j, e2⟩ => by
      subst e2
      rw [cc_snoc]
      by_cases q : x = (pre.getLast?).getD p0
      · refine ⟨_, by simp [evSs, evS, evX, evXs, evXan, evXor, evXo, evXc, evXt, evp, evs, evAnd, evOr, evo, evc, evi, ShR, AlR, shS, alS, O.pu, O.puL, O.d, O.dL, Ro1, Ro2, Ro3, Ro4, Rd1, Rd2, Rd3, Rd4, Rf1, Rf2, Rf3, Rf4, iteB1, iteB2, iteR1, iteR, iteBl, iteIn, D.fl, D.flL, asB1, asO1, at21, getAll, setAll, unS, frz1, frzS, backS, bT1, bT2, bT3, bT4, bT5, bO1, bO2, bO3, bO4, bO5, bO6, bO7, bO8, bO9, C.d, oAdd, oSub, oMul1, oMul2, oMulC, oMod, oFdiv, itemsD, ixL, ixT, ai0, ai1, ai2, putL, xn0, xn1, xn2, cEq, cLt, cLe, cGt, cGe, cNe, addNL, addNR, start0_eq, mapS, mapD, foldO, pmapE, pmap, Tg.ids, Tgs.ids, biAll, LIM, ok_non, ok_bl, ok_int, ok_lst, ok_tup, okn_non, okn_bl, okn_int, okn_lst, okn_tup, okn_ints, okn_ints', flL_ints, mapOI, flL_mapI, eqv_int, eqv_bl, eqv_LI, eqD_LI, eqD_nilI, filterT, eqD_nil0, eqD_int, eqD_bl, cEqD, cNeD, cIn, cNin, cIs, cIsn, inD_LI, inD_nilI, ints?_map, ints?_ints, atI_map, atI_nat, cutL_map, slD_map, compL_map, compL_enum, rangeD_I, compG_some, compG_all, dL_sh, dL_sh', map_sh, foldI, foldI1, addL, -List.map_cons, -List.map_append, -List.map_map, -List.map_take, -List.map_drop, -List.map_reverse, Rd2, biLen, biLenT, biListL, biSorted, biMax2, biMin2, biInt, isD1, isD2] <;> rfl, _, .inl (by simp [evSs, evS, evX, evXs, evXan, evXor, evXo, evXc, evXt, evp, evs, evAnd, evOr, evo, evc, evi, ShR, AlR, shS, alS, O.pu, O.puL, O.d, O.dL, Ro1, Ro2, Ro3, Ro4, Rd1, Rd2, Rd3, Rd4, Rf1, Rf2, Rf3, Rf4, iteB1, iteB2, iteR1, iteR, iteBl, iteIn, D.fl, D.flL, asB1, asO1, at21, getAll, setAll, unS, frz1, frzS, backS, bT1, bT2, bT3, bT4, bT5, bO1, bO2, bO3, bO4, bO5, bO6, bO7, bO8, bO9, C.d, oAdd, oSub, oMul1, oMul2, oMulC, oMod, oFdiv, itemsD, ixL, ixT, ai0, ai1, ai2, putL, xn0, xn1, xn2, cEq, cLt, cLe, cGt, cGe, cNe, addNL, addNR, start0_eq, mapS, mapD, foldO, pmapE, pmap, Tg.ids, Tgs.ids, biAll, LIM, ok_non, ok_bl, ok_int, ok_lst, ok_tup, okn_non, okn_bl, okn_int, okn_lst, okn_tup, okn_ints, okn_ints', flL_ints, mapOI, flL_mapI, eqv_int, eqv_bl, eqv_LI, eqD_LI, eqD_nilI, filterT, eqD_nil0, eqD_int, eqD_bl, cEqD, cNeD, cIn, cNin, cIs, cIsn, inD_LI, inD_nilI, ints?_map, ints?_ints, atI_map, atI_nat, cutL_map, slD_map, compL_map, compL_enum, rangeD_I, compG_some, compG_all, dL_sh, dL_sh', map_sh, foldI, foldI1, addL, -List.map_cons, -List.map_append, -List.map_map, -List.map_take, -List.map_drop, -List.map_reverse, Rd2, biLen, biLenT, biListL, biSorted, biMax2, biMin2, biInt, isD1, isD2, G__law_pair, Y__law_pair_1, ← q] <;> rfl), ?_⟩
        refine ⟨some (.sh (.int x)), ?_⟩
        simp [q]
        exact ⟨rfl, rfl⟩
      · refine ⟨_, by simp [evSs, evS, evX, evXs, evXan, evXor, evXo, evXc, evXt, evp, evs, evAnd, evOr, evo, evc, evi, ShR, AlR, shS, alS, O.pu, O.puL, O.d, O.dL, Ro1, Ro2, Ro3, Ro4, Rd1, Rd2, Rd3, Rd4, Rf1, Rf2, Rf3, Rf4, iteB1, iteB2, iteR1, iteR, iteBl, iteIn, D.fl, D.flL, asB1, asO1, at21, getAll, setAll, unS, frz1, frzS, backS, bT1, bT2, bT3, bT4, bT5, bO1, bO2, bO3, bO4, bO5, bO6, bO7, bO8, bO9, C.d, oAdd, oSub, oMul1, oMul2, oMulC, oMod, oFdiv, itemsD, ixL, ixT, ai0, ai1, ai2, putL, xn0, xn1, xn2, cEq, cLt, cLe, cGt, cGe, cNe, addNL, addNR, start0_eq, mapS, mapD, foldO, pmapE, pmap, Tg.ids, Tgs.ids, biAll, LIM, ok_non, ok_bl, ok_int, ok_lst, ok_tup, okn_non, okn_bl, okn_int, okn_lst, okn_tup, okn_ints, okn_ints', flL_ints, mapOI, flL_mapI, eqv_int, eqv_bl, eqv_LI, eqD_LI, eqD_nilI, filterT, eqD_nil0, eqD_int, eqD_bl, cEqD, cNeD, cIn, cNin, cIs, cIsn, inD_LI, inD_nilI, ints?_map, ints?_ints, atI_map, atI_nat, cutL_map, slD_map, compL_map, compL_enum, rangeD_I, compG_some, compG_all, dL_sh, dL_sh', map_sh, foldI, foldI1, addL, -List.map_cons, -List.map_append, -List.map_map, -List.map_take, -List.map_drop, -List.map_reverse, Rd2, biLen, biLenT, biListL, biSorted, biMax2, biMin2, biInt, isD1, isD2] <;> rfl, _, .inl (by simp [evSs, evS, evX, evXs, evXan, evXor, evXo, evXc, evXt, evp, evs, evAnd, evOr, evo, evc, evi, ShR, AlR, shS, alS, O.pu, O.puL, O.d, O.dL, Ro1, Ro2, Ro3, Ro4, Rd1, Rd2, Rd3, Rd4, Rf1, Rf2, Rf3, Rf4, iteB1, iteB2, iteR1, iteR, iteBl, iteIn, D.fl, D.flL, asB1, asO1, at21, getAll, setAll, unS, frz1, frzS, backS, bT1, bT2, bT3, bT4, bT5, bO1, bO2, bO3, bO4, bO5, bO6, bO7, bO8, bO9, C.d, oAdd, oSub, oMul1, oMul2, oMulC, oMod, oFdiv, itemsD, ixL, ixT, ai0, ai1, ai2, putL, xn0, xn1, xn2, cEq, cLt, cLe, cGt, cGe, cNe, addNL, addNR, start0_eq, mapS, mapD, foldO, pmapE, pmap, Tg.ids, Tgs.ids, biAll, LIM, ok_non, ok_bl, ok_int, ok_lst, ok_tup, okn_non, okn_bl, okn_int, okn_lst, okn_tup, okn_ints, okn_ints', flL_ints, mapOI, flL_mapI, eqv_int, eqv_bl, eqv_LI, eqD_LI, eqD_nilI, filterT, eqD_nil0, eqD_int, eqD_bl, cEqD, cNeD, cIn, cNin, cIs, cIsn, inD_LI, inD_nilI, ints?_map, ints?_ints, atI_map, atI_nat, cutL_map, slD_map, compL_map, compL_enum, rangeD_I, compG_some, compG_all, dL_sh, dL_sh', map_sh, foldI, foldI1, addL, -List.map_cons, -List.map_append, -List.map_map, -List.map_take, -List.map_drop, -List.map_reverse, Rd2, biLen, biLenT, biListL, biSorted, biMax2, biMin2, biInt, isD1, isD2, G__law_pair, Y__law_pair_1, q] <;> rfl), ?_⟩
        refine ⟨some (.sh (.int x)), ?_⟩
        simp [q]
        exact ⟨rfl, rfl⟩
  obtain ⟨ρ', h1, j, rfl⟩ := loop
  have h1' : evS G__law_pair W__law_pair_1 _ = _ := h1
  simp only [G__law_pair] at h1'
  have hp' : order.filter (fun x => decide (x = a) || decide (x = b)) = [p0, p1] := hp
  simp only [asksI] at h1'
  unfold pf F__law_pair runF
  simp [evSs, evS, evX, evXs, evXan, evXor, evXo, evXc, evXt, evp, evs, evAnd, evOr, evo, evc, evi, ShR, AlR, shS, alS, O.pu, O.puL, O.d, O.dL, Ro1, Ro2, Ro3, Ro4, Rd1, Rd2, Rd3, Rd4, Rf1, Rf2, Rf3, Rf4, iteB1, iteB2, iteR1, iteR, iteBl, iteIn, D.fl, D.flL, asB1, asO1, at21, getAll, setAll, unS, frz1, frzS, backS, bT1, bT2, bT3, bT4, bT5, bO1, bO2, bO3, bO4, bO5, bO6, bO7, bO8, bO9, C.d, oAdd, oSub, oMul1, oMul2, oMulC, oMod, oFdiv, itemsD, ixL, ixT, ai0, ai1, ai2, putL, xn0, xn1, xn2, cEq, cLt, cLe, cGt, cGe, cNe, addNL, addNR, start0_eq, mapS, mapD, foldO, pmapE, pmap, Tg.ids, Tgs.ids, biAll, LIM, ok_non, ok_bl, ok_int, ok_lst, ok_tup, okn_non, okn_bl, okn_int, okn_lst, okn_tup, okn_ints, okn_ints', flL_ints, mapOI, flL_mapI, eqv_int, eqv_bl, eqv_LI, eqD_LI, eqD_nilI, filterT, eqD_nil0, eqD_int, eqD_bl, cEqD, cNeD, cIn, cNin, cIs, cIsn, inD_LI, inD_nilI, ints?_map, ints?_ints, atI_map, atI_nat, cutL_map, slD_map, compL_map, compL_enum, rangeD_I, compG_some, compG_all, dL_sh, dL_sh', map_sh, foldI, foldI1, addL, -List.map_cons, -List.map_append, -List.map_map, -List.map_take, -List.map_drop, -List.map_reverse, Rd2, biLen, biLenT, biListL, biSorted, biMax2, biMin2, biInt, isD1, isD2, G__law_pair, B__law_pair, inT2, hp', h1']
end L46
end KP
/-! K46w: copies; all orders, mirrored. -/
namespace KP
namespace L46
open PySem L2 Com
theorem compL_id {f : D → Option D} : ∀ {ds : List D}, (∀ d ∈ ds, f d = some d) → compL (fun _ => some true) f ds = some ds
  | [], _ => rfl
  | d :: ds, h => by
    simp only [compL, Option.bind_some, if_true, h d (by simp), compL_id fun x hx => h x (List.mem_cons_of_mem d hx), Option.map_some]
theorem copied_seq {n : Nat} {ds : List D} (ih : ∀ d, exOk n d = true → pf (F__law_copied (n + 1)) [d] = some (.sh d)) (h : ∀ d ∈ ds, exOk n d = true) :
    compL (fun _ => some true) (fun x : D => Option.map R.d (pf (F__law_copied (n + 1)) [x])) ds = some ds := compL_id fun d hd => by simp [ih d (h d hd), R.d]
theorem r_copied : ∀ (n : Nat) (d : D), exOk n d = true → pf (F__law_copied (n + 1)) [d] = some (.sh d) := by
  intro n
  induction n with
  | zero =>
    intro d h
    cases d with
    | _ =>
      first
        | (simp [exOk] at h; done)
        | ((unfold pf F__law_copied runF); simp [evSs, evS, evX, evXs, evXan, evXor, evXo, evXc, evXt, evp, evs, evAnd, evOr, evo, evc, evi, ShR, AlR, shS, alS, O.pu, O.puL, O.d, O.dL, Ro1, Ro2, Ro3, Ro4, Rd1, Rd2, Rd3, Rd4, Rf1, Rf2, Rf3, Rf4, iteB1, iteB2, iteR1, iteR, iteBl, iteIn, D.fl, D.flL, asB1, asO1, at21, getAll, setAll, unS, frz1, frzS, backS, bT1, bT2, bT3, bT4, bT5, bO1, bO2, bO3, bO4, bO5, bO6, bO7, bO8, bO9, C.d, oAdd, oSub, oMul1, oMul2, oMulC, oMod, oFdiv, itemsD, ixL, ixT, ai0, ai1, ai2, putL, xn0, xn1, xn2, cEq, cLt, cLe, cGt, cGe, cNe, addNL, addNR, start0_eq, mapS, mapD, foldO, pmapE, pmap, Tg.ids, Tgs.ids, biAll, LIM, ok_non, ok_bl, ok_int, ok_lst, ok_tup, okn_non, okn_bl, okn_int, okn_lst, okn_tup, okn_ints, okn_ints', flL_ints, mapOI, flL_mapI, eqv_int, eqv_bl, eqv_LI, eqD_LI, eqD_nilI, filterT, eqD_nil0, eqD_int, eqD_bl, cEqD, cNeD, cIn, cNin, cIs, cIsn, inD_LI, inD_nilI, ints?_map, ints?_ints, atI_map, atI_nat, cutL_map, slD_map, compL_map, compL_enum, rangeD_I, compG_some, compG_all, dL_sh, dL_sh', map_sh, foldI, foldI1, addL, -List.map_cons, -List.map_append, -List.map_map, -List.map_take, -List.map_drop, -List.map_reverse, Rd2, biLen, biLenT, biListL, biSorted, biMax2, biMin2, biInt, isD1, isD2, B__law_copied, isiD, tyD, isD])
  | succ n ih =>
    intro d h
    cases d with
    | lst ds =>
      simp [exOk] at h
      have hs := copied_seq ih h.2
      (unfold pf F__law_copied runF)
      simp [evSs, evS, evX, evXs, evXan, evXor, evXo, evXc, evXt, evp, evs, evAnd, evOr, evo, evc, evi, ShR, AlR, shS, alS, O.pu, O.puL, O.d, O.dL, Ro1, Ro2, Ro3, Ro4, Rd1, Rd2, Rd3, Rd4, Rf1, Rf2, Rf3, Rf4, iteB1, iteB2, iteR1, iteR, iteBl, iteIn, D.fl, D.flL, asB1, asO1, at21, getAll, setAll, unS, frz1, frzS, backS, bT1, bT2, bT3, bT4, bT5, bO1, bO2, bO3, bO4, bO5, bO6, bO7, bO8, bO9, C.d, oAdd, oSub, oMul1, oMul2, oMulC, oMod, oFdiv, itemsD, ixL, ixT, ai0, ai1, ai2, putL, xn0, xn1, xn2, cEq, cLt, cLe, cGt, cGe, cNe, addNL, addNR, start0_eq, mapS, mapD, foldO, pmapE, pmap, Tg.ids, Tgs.ids, biAll, LIM, ok_non, ok_bl, ok_int, ok_lst, ok_tup, okn_non, okn_bl, okn_int, okn_lst, okn_tup, okn_ints, okn_ints', flL_ints, mapOI, flL_mapI, eqv_int, eqv_bl, eqv_LI, eqD_LI, eqD_nilI, filterT, eqD_nil0, eqD_int, eqD_bl, cEqD, cNeD, cIn, cNin, cIs, cIsn, inD_LI, inD_nilI, ints?_map, ints?_ints, atI_map, atI_nat, cutL_map, slD_map, compL_map, compL_enum, rangeD_I, compG_some, compG_all, dL_sh, dL_sh', map_sh, foldI, foldI1, addL, -List.map_cons, -List.map_append, -List.map_map, -List.map_take, -List.map_drop, -List.map_reverse, Rd2, biLen, biLenT, biListL, biSorted, biMax2, biMin2, biInt, isD1, isD2, B__law_copied, isiD, tyD, h.1, hs]
    | tup ds =>
      simp [exOk] at h
      have hs := copied_seq ih h.2
      (unfold pf F__law_copied runF)
      simp [evSs, evS, evX, evXs, evXan, evXor, evXo, evXc, evXt, evp, evs, evAnd, evOr, evo, evc, evi, ShR, AlR, shS, alS, O.pu, O.puL, O.d, O.dL, Ro1, Ro2, Ro3, Ro4, Rd1, Rd2, Rd3, Rd4, Rf1, Rf2, Rf3, Rf4, iteB1, iteB2, iteR1, iteR, iteBl, iteIn, D.fl, D.flL, asB1, asO1, at21, getAll, setAll, unS, frz1, frzS, backS, bT1, bT2, bT3, bT4, bT5, bO1, bO2, bO3, bO4, bO5, bO6, bO7, bO8, bO9, C.d, oAdd, oSub, oMul1, oMul2, oMulC, oMod, oFdiv, itemsD, ixL, ixT, ai0, ai1, ai2, putL, xn0, xn1, xn2, cEq, cLt, cLe, cGt, cGe, cNe, addNL, addNR, start0_eq, mapS, mapD, foldO, pmapE, pmap, Tg.ids, Tgs.ids, biAll, LIM, ok_non, ok_bl, ok_int, ok_lst, ok_tup, okn_non, okn_bl, okn_int, okn_lst, okn_tup, okn_ints, okn_ints', flL_ints, mapOI, flL_mapI, eqv_int, eqv_bl, eqv_LI, eqD_LI, eqD_nilI, filterT, eqD_nil0, eqD_int, eqD_bl, cEqD, cNeD, cIn, cNin, cIs, cIsn, inD_LI, inD_nilI, ints?_map, ints?_ints, atI_map, atI_nat, cutL_map, slD_map, compL_map, compL_enum, rangeD_I, compG_some, compG_all, dL_sh, dL_sh', map_sh, foldI, foldI1, addL, -List.map_cons, -List.map_append, -List.map_map, -List.map_take, -List.map_drop, -List.map_reverse, Rd2, biLen, biLenT, biListL, biSorted, biMax2, biMin2, biInt, isD1, isD2, B__law_copied, isiD, tyD, h.1, hs, biD]
    | _ =>
      first
        | (simp [exOk] at h; done)
        | ((unfold pf F__law_copied runF); simp [evSs, evS, evX, evXs, evXan, evXor, evXo, evXc, evXt, evp, evs, evAnd, evOr, evo, evc, evi, ShR, AlR, shS, alS, O.pu, O.puL, O.d, O.dL, Ro1, Ro2, Ro3, Ro4, Rd1, Rd2, Rd3, Rd4, Rf1, Rf2, Rf3, Rf4, iteB1, iteB2, iteR1, iteR, iteBl, iteIn, D.fl, D.flL, asB1, asO1, at21, getAll, setAll, unS, frz1, frzS, backS, bT1, bT2, bT3, bT4, bT5, bO1, bO2, bO3, bO4, bO5, bO6, bO7, bO8, bO9, C.d, oAdd, oSub, oMul1, oMul2, oMulC, oMod, oFdiv, itemsD, ixL, ixT, ai0, ai1, ai2, putL, xn0, xn1, xn2, cEq, cLt, cLe, cGt, cGe, cNe, addNL, addNR, start0_eq, mapS, mapD, foldO, pmapE, pmap, Tg.ids, Tgs.ids, biAll, LIM, ok_non, ok_bl, ok_int, ok_lst, ok_tup, okn_non, okn_bl, okn_int, okn_lst, okn_tup, okn_ints, okn_ints', flL_ints, mapOI, flL_mapI, eqv_int, eqv_bl, eqv_LI, eqD_LI, eqD_nilI, filterT, eqD_nil0, eqD_int, eqD_bl, cEqD, cNeD, cIn, cNin, cIs, cIsn, inD_LI, inD_nilI, ints?_map, ints?_ints, atI_map, atI_nat, cutL_map, slD_map, compL_map, compL_enum, rangeD_I, compG_some, compG_all, dL_sh, dL_sh', map_sh, foldI, foldI1, addL, -List.map_cons, -List.map_append, -List.map_map, -List.map_take, -List.map_drop, -List.map_reverse, Rd2, biLen, biLenT, biListL, biSorted, biMax2, biMin2, biInt, isD1, isD2, B__law_copied, isiD, tyD, isD])
def fac : Nat → Nat
  | 0 => 1
  | n + 1 => (n + 1) * fac n
theorem sum_map_const {α : Type} (c : Nat) : ∀ l : List α, (l.map fun _ => c).sum = l.length * c
  | [] => by simp
  | x :: l => by rw [List.map_cons, List.sum_cons, sum_map_const c l, List.length_cons, Nat.succ_mul, Nat.add_comm]
theorem ords_len : ∀ {n : Nat} {t : List Int}, t.length ≤ n → (ords n t).length = fac t.length
  | 0, t, h => by
    have : t = [] := List.eq_nil_of_length_eq_zero (by omega)
    subst this; rfl
  | n + 1, t, h => by
    unfold ords
    split
    · rename_i e; subst e; rfl
    · rename_i ne
      have hp : 0 < t.length := List.length_pos_iff.mpr ne
      rw [List.length_flatMap]
      have : (List.range t.length).map (fun i => ((ords n (t.take i ++ t.drop (i + 1))).map fun r => t.getD i 0 :: r).length) = (List.range t.length).map fun _ => fac (t.length - 1) := by
        refine List.map_congr_left fun i hi => ?_
        have hi := List.mem_range.mp hi
        rw [List.length_map, ords_len (by simp; omega)]
        congr 1
        simp; omega
      rw [this, sum_map_const, List.length_range]
      obtain ⟨k, hk⟩ : ∃ k, t.length = k + 1 := ⟨t.length - 1, by omega⟩
      rw [hk]; rfl
theorem fac_le : ∀ {n m : Nat}, n ≤ m → fac n ≤ fac m
  | n, 0, h => by have : n = 0 := by omega
                  subst this; exact Nat.le_refl _
  | n, m + 1, h => by
    by_cases e : n = m + 1
    · subst e; exact Nat.le_refl _
    · refine Nat.le_trans (fac_le (m := m) (by omega)) ?_
      show fac m ≤ (m + 1) * fac m
      exact Nat.le_mul_of_pos_left _ (by omega)
theorem ords_small {n : Nat} {t : List Int} (h : t.length ≤ n) (h5 : t.length ≤ 5) : (ords n t).length ≤ 120 := by
  rw [ords_len h]; exact fac_le (m := 5) h5
def ordD (ls : List (List Int)) : List D := ls.map fun r => .lst (r.map .int)
/-- the orders that begin with the first i places -/
def ordP (n : Nat) (t : List Int) (i : Nat) : List (List Int) := (List.range i).flatMap fun i => (ords n (t.take i ++ t.drop (i + 1))).map fun r => t.getD i 0 :: r
theorem ordP_succ (n : Nat) (t : List Int) (i : Nat) : ordP n t (i + 1) = ordP n t i ++ (ords n (t.take i ++ t.drop (i + 1))).map fun r => t.getD i 0 :: r := by
  unfold ordP; rw [List.range_succ, List.flatMap_append]; simp
theorem ordP_small {n : Nat} {t : List Int} (h : t.length ≤ n + 1) (h5 : t.length ≤ 5) : ∀ {i : Nat}, i ≤ t.length → (ordP n t i).length ≤ i * 120
  | 0, _ => by simp [ordP]
  | i + 1, hi => by
    have := ordP_small h h5 (i := i) (by omega)
    have h2 := ords_small (n := n) (t := t.take i ++ t.drop (i + 1)) (by simp; omega) (by simp; omega)
    rw [ordP_succ, List.length_append, List.length_map]
    omega
theorem comp_cons {x : Int} {f : D → Option D} (hf : ∀ r : List Int, r.length ≤ 1000 → f (.lst (r.map .int)) = some (.lst ((x :: r).map .int))) : ∀ {L : List (List Int)}, (∀ r ∈ L, r.length ≤ 1000) → compL (fun _ => some true) f (ordD L) = some (ordD (L.map (x :: ·)))
  | [], _ => rfl
  | r :: L, h => by
    have ih := comp_cons hf (L := L) fun r hr => h r (List.mem_cons_of_mem _ hr)
    unfold ordD at *
    simp only [List.map_cons, compL, Option.bind_some, if_true, ih, Option.map_some]
    rw [hf r (h r (by simp))]
    simp
theorem addO {A B : List (List Int)} (h : A.length + B.length ≤ LIM) : o2D .add (.lst (ordD A)) (.lst (ordD B)) = some (.fl (ordD (A ++ B))) := addL h
theorem dL_ordD {L : List (List Int)} : O.dL ((ordD L).map O.sh) = ordD L := dL_sh'
theorem p_law_orders : ∀ {n : Nat} {t : List Int}, t.length ≤ n → t.length ≤ 5 → pf (F__law_orders (n + 1)) [.lst (t.map .int)] = some (.sh (.lst (ordD (ords n t)))) := by
  intro n
  induction n with
  | zero =>
    intro t h h5
    have : t = [] := List.eq_nil_of_length_eq_zero (by omega)
    subst this
    (unfold pf F__law_orders runF)
    simp [evSs, evS, evX, evXs, evXan, evXor, evXo, evXc, evXt, evp, evs, evAnd, evOr, evo, evc, evi, ShR, AlR, shS, alS, O.pu, O.puL, O.d, O.dL, Ro1, Ro2, Ro3, Ro4, Rd1, Rd2, Rd3, Rd4, Rf1, Rf2, Rf3, Rf4, iteB1, iteB2, iteR1, iteR, iteBl, iteIn, D.fl, D.flL, asB1, asO1, at21, getAll, setAll, unS, frz1, frzS, backS, bT1, bT2, bT3, bT4, bT5, bO1, bO2, bO3, bO4, bO5, bO6, bO7, bO8, bO9, C.d, oAdd, oSub, oMul1, oMul2, oMulC, oMod, oFdiv, itemsD, ixL, ixT, ai0, ai1, ai2, putL, xn0, xn1, xn2, cEq, cLt, cLe, cGt, cGe, cNe, addNL, addNR, start0_eq, mapS, mapD, foldO, pmapE, pmap, Tg.ids, Tgs.ids, biAll, LIM, ok_non, ok_bl, ok_int, ok_lst, ok_tup, okn_non, okn_bl, okn_int, okn_lst, okn_tup, okn_ints, okn_ints', flL_ints, mapOI, flL_mapI, eqv_int, eqv_bl, eqv_LI, eqD_LI, eqD_nilI, filterT, eqD_nil0, eqD_int, eqD_bl, cEqD, cNeD, cIn, cNin, cIs, cIsn, inD_LI, inD_nilI, ints?_map, ints?_ints, atI_map, atI_nat, cutL_map, slD_map, compL_map, compL_enum, rangeD_I, compG_some, compG_all, dL_sh, dL_sh', map_sh, foldI, foldI1, addL, -List.map_cons, -List.map_append, -List.map_map, -List.map_take, -List.map_drop, -List.map_reverse, Rd2, biLen, biLenT, biListL, biSorted, biMax2, biMin2, biInt, isD1, isD2, B__law_orders, ords, ordD]
    rfl
  | succ n ih =>
    intro t h h5
    by_cases e : t = []
    · subst e
      (unfold pf F__law_orders runF)
      simp [evSs, evS, evX, evXs, evXan, evXor, evXo, evXc, evXt, evp, evs, evAnd, evOr, evo, evc, evi, ShR, AlR, shS, alS, O.pu, O.puL, O.d, O.dL, Ro1, Ro2, Ro3, Ro4, Rd1, Rd2, Rd3, Rd4, Rf1, Rf2, Rf3, Rf4, iteB1, iteB2, iteR1, iteR, iteBl, iteIn, D.fl, D.flL, asB1, asO1, at21, getAll, setAll, unS, frz1, frzS, backS, bT1, bT2, bT3, bT4, bT5, bO1, bO2, bO3, bO4, bO5, bO6, bO7, bO8, bO9, C.d, oAdd, oSub, oMul1, oMul2, oMulC, oMod, oFdiv, itemsD, ixL, ixT, ai0, ai1, ai2, putL, xn0, xn1, xn2, cEq, cLt, cLe, cGt, cGe, cNe, addNL, addNR, start0_eq, mapS, mapD, foldO, pmapE, pmap, Tg.ids, Tgs.ids, biAll, LIM, ok_non, ok_bl, ok_int, ok_lst, ok_tup, okn_non, okn_bl, okn_int, okn_lst, okn_tup, okn_ints, okn_ints', flL_ints, mapOI, flL_mapI, eqv_int, eqv_bl, eqv_LI, eqD_LI, eqD_nilI, filterT, eqD_nil0, eqD_int, eqD_bl, cEqD, cNeD, cIn, cNin, cIs, cIsn, inD_LI, inD_nilI, ints?_map, ints?_ints, atI_map, atI_nat, cutL_map, slD_map, compL_map, compL_enum, rangeD_I, compG_some, compG_all, dL_sh, dL_sh', map_sh, foldI, foldI1, addL, -List.map_cons, -List.map_append, -List.map_map, -List.map_take, -List.map_drop, -List.map_reverse, Rd2, biLen, biLenT, biListL, biSorted, biMax2, biMin2, biInt, isD1, isD2, B__law_orders, ords, ordD]
      rfl
    · have loop := fo_range (G := ⟨⟨[pf (F__law_orders (n + 1))], [], []⟩, []⟩) (tg := .nm 2) (it := .r1 (.p (.bi .len (.cons (.v 0) .nil)))) (b := Y__law_orders_1) (lo := 0) (hi := t.length)
        (ρ := [some (.sh (.lst (t.map .int))), some (.ol []), none, none])
        (fun i ρ => ∃ (o1 : O) (j k : Option O), (o1 = .ol ((ordD (ordP n t i.toNat)).map O.sh)) ∧ ρ = [some (.sh (.lst (t.map .int))), some o1, j, k])
        (by simp [evSs, evS, evX, evXs, evXan, evXor, evXo, evXc, evXt, evp, evs, evAnd, evOr, evo, evc, evi, ShR, AlR, shS, alS, O.pu, O.puL, O.d, O.dL, Ro1, Ro2, Ro3, Ro4, Rd1, Rd2, Rd3, Rd4, Rf1, Rf2, Rf3, Rf4, iteB1, iteB2, iteR1, iteR, iteBl, iteIn, D.fl, D.flL, asB1, asO1, at21, getAll, setAll, unS, frz1, frzS, backS, bT1, bT2, bT3, bT4, bT5, bO1, bO2, bO3, bO4, bO5, bO6, bO7, bO8, bO9, C.d, oAdd, oSub, oMul1, oMul2, oMulC, oMod, oFdiv, itemsD, ixL, ixT, ai0, ai1, ai2, putL, xn0, xn1, xn2, cEq, cLt, cLe, cGt, cGe, cNe, addNL, addNR, start0_eq, mapS, mapD, foldO, pmapE, pmap, Tg.ids, Tgs.ids, biAll, LIM, ok_non, ok_bl, ok_int, ok_lst, ok_tup, okn_non, okn_bl, okn_int, okn_lst, okn_tup, okn_ints, okn_ints', flL_ints, mapOI, flL_mapI, eqv_int, eqv_bl, eqv_LI, eqD_LI, eqD_nilI, filterT, eqD_nil0, eqD_int, eqD_bl, cEqD, cNeD, cIn, cNin, cIs, cIsn, inD_LI, inD_nilI, ints?_map, ints?_ints, atI_map, atI_nat, cutL_map, slD_map, compL_map, compL_enum, rangeD_I, compG_some, compG_all, dL_sh, dL_sh', map_sh, foldI, foldI1, addL, -List.map_cons, -List.map_append, -List.map_map, -List.map_take, -List.map_drop, -List.map_reverse, Rd2, biLen, biLenT, biListL, biSorted, biMax2, biMin2, biInt, isD1, isD2, smallI, show (t.length : Int) ≤ 100000 by omega, show -100000 ≤ (t.length : Int) by omega] <;> rfl) (by omega) ⟨_, none, none, rfl, rfl⟩ (fun i ρ h0 h1 ⟨o1, j, k, ho, e2⟩ => by
          subst e2 ho
          have hl : (t.take i.toNat ++ t.drop (i.toNat + 1)).length = t.length - 1 := by simp; omega
          have h2 := ih (t := t.take i.toNat ++ t.drop (i.toNat + 1)) (by omega) (by omega)
          have a1 : o2D .add (.lst ((t.take i.toNat).map D.int)) (.lst ((t.drop (i.toNat + 1)).map D.int)) = some (.fl ((t.take i.toNat ++ t.drop (i.toNat + 1)).map D.int)) := addL (by rw [← List.length_append, hl]; show _ ≤ 100000; omega)
          have hx : L2.atI t i = some (t.getD i.toNat 0) := by
            rw [atI_pos h0 h1, List.getD_eq_getElem?_getD, List.getElem?_eq_getElem (by omega)]; rfl
          have hm : ∀ r ∈ ords n (t.take i.toNat ++ t.drop (i.toNat + 1)), r.length ≤ 1000 := fun r hr => by
            have := (ords_perm (by omega) hr).length_eq; omega
          have s1 := ordP_small (n := n) h h5 (i := i.toNat) (by omega)
          have s2 := ords_small (n := n) (t := t.take i.toNat ++ t.drop (i.toNat + 1)) (by omega) (by omega)
          have hP := ordP_succ n t i.toNat
          generalize ordP n t i.toNat = P at *
          generalize ords n (t.take i.toNat ++ t.drop (i.toNat + 1)) = L at *
          have hc := fun f hf => comp_cons (x := t.getD i.toNat 0) (f := f) hf (L := L) hm
          have a2 := addO (A := P) (B := L.map (t.getD i.toNat 0 :: ·)) (by rw [List.length_map]; show _ ≤ 100000; omega)
          generalize t.getD i.toNat 0 = x at *
          refine .nx rfl (by
            simp [evSs, evS, evX, evXs, evXan, evXor, evXo, evXc, evXt, evp, evs, evAnd, evOr, evo, evc, evi, ShR, AlR, shS, alS, O.pu, O.puL, O.d, O.dL, Ro1, Ro2, Ro3, Ro4, Rd1, Rd2, Rd3, Rd4, Rf1, Rf2, Rf3, Rf4, iteB1, iteB2, iteR1, iteR, iteBl, iteIn, D.fl, D.flL, asB1, asO1, at21, getAll, setAll, unS, frz1, frzS, backS, bT1, bT2, bT3, bT4, bT5, bO1, bO2, bO3, bO4, bO5, bO6, bO7, bO8, bO9, C.d, oAdd, oSub, oMul1, oMul2, oMulC, oMod, oFdiv, itemsD, ixL, ixT, ai0, ai1, ai2, putL, xn0, xn1, xn2, cEq, cLt, cLe, cGt, cGe, cNe, addNL, addNR, start0_eq, mapS, mapD, foldO, pmapE, pmap, Tg.ids, Tgs.ids, biAll, LIM, ok_non, ok_bl, ok_int, ok_lst, ok_tup, okn_non, okn_bl, okn_int, okn_lst, okn_tup, okn_ints, okn_ints', flL_ints, mapOI, flL_mapI, eqv_int, eqv_bl, eqv_LI, eqD_LI, eqD_nilI, filterT, eqD_nil0, eqD_int, eqD_bl, cEqD, cNeD, cIn, cNin, cIs, cIsn, inD_LI, inD_nilI, ints?_map, ints?_ints, atI_map, atI_nat, cutL_map, slD_map, compL_map, compL_enum, rangeD_I, compG_some, compG_all, dL_sh, dL_sh', map_sh, foldI, foldI1, addL, -List.map_cons, -List.map_append, -List.map_map, -List.map_take, -List.map_drop, -List.map_reverse, Rd2, biLen, biLenT, biListL, biSorted, biMax2, biMin2, biInt, isD1, isD2, Y__law_orders_1, cutL_to h0, cutL_from (show 0 ≤ i + 1 by omega), show (i + 1).toNat = i.toNat + 1 by omega, h2, a1, hx]
            rw [hc _ fun r hr => by simp [evSs, evS, evX, evXs, evXan, evXor, evXo, evXc, evXt, evp, evs, evAnd, evOr, evo, evc, evi, ShR, AlR, shS, alS, O.pu, O.puL, O.d, O.dL, Ro1, Ro2, Ro3, Ro4, Rd1, Rd2, Rd3, Rd4, Rf1, Rf2, Rf3, Rf4, iteB1, iteB2, iteR1, iteR, iteBl, iteIn, D.fl, D.flL, asB1, asO1, at21, getAll, setAll, unS, frz1, frzS, backS, bT1, bT2, bT3, bT4, bT5, bO1, bO2, bO3, bO4, bO5, bO6, bO7, bO8, bO9, C.d, oAdd, oSub, oMul1, oMul2, oMulC, oMod, oFdiv, itemsD, ixL, ixT, ai0, ai1, ai2, putL, xn0, xn1, xn2, cEq, cLt, cLe, cGt, cGe, cNe, addNL, addNR, start0_eq, mapS, mapD, foldO, pmapE, pmap, Tg.ids, Tgs.ids, biAll, LIM, ok_non, ok_bl, ok_int, ok_lst, ok_tup, okn_non, okn_bl, okn_int, okn_lst, okn_tup, okn_ints, okn_ints', flL_ints, mapOI, flL_mapI, eqv_int, eqv_bl, eqv_LI, eqD_LI, eqD_nilI, filterT, eqD_nil0, eqD_int, eqD_bl, cEqD, cNeD, cIn, cNin, cIs, cIsn, inD_LI, inD_nilI, ints?_map, ints?_ints, atI_map, atI_nat, cutL_map, slD_map, compL_map, compL_enum, rangeD_I, compG_some, compG_all, dL_sh, dL_sh', map_sh, foldI, foldI1, addL, -List.map_cons, -List.map_append, -List.map_map, -List.map_take, -List.map_drop, -List.map_reverse, Rd2, biLen, biLenT, biListL, biSorted, biMax2, biMin2, biInt, isD1, isD2, show 1 + r.length ≤ 100000 by omega]]
            simp [evSs, evS, evX, evXs, evXan, evXor, evXo, evXc, evXt, evp, evs, evAnd, evOr, evo, evc, evi, ShR, AlR, shS, alS, O.pu, O.puL, O.d, O.dL, Ro1, Ro2, Ro3, Ro4, Rd1, Rd2, Rd3, Rd4, Rf1, Rf2, Rf3, Rf4, iteB1, iteB2, iteR1, iteR, iteBl, iteIn, D.fl, D.flL, asB1, asO1, at21, getAll, setAll, unS, frz1, frzS, backS, bT1, bT2, bT3, bT4, bT5, bO1, bO2, bO3, bO4, bO5, bO6, bO7, bO8, bO9, C.d, oAdd, oSub, oMul1, oMul2, oMulC, oMod, oFdiv, itemsD, ixL, ixT, ai0, ai1, ai2, putL, xn0, xn1, xn2, cEq, cLt, cLe, cGt, cGe, cNe, addNL, addNR, start0_eq, mapS, mapD, foldO, pmapE, pmap, Tg.ids, Tgs.ids, biAll, LIM, ok_non, ok_bl, ok_int, ok_lst, ok_tup, okn_non, okn_bl, okn_int, okn_lst, okn_tup, okn_ints, okn_ints', flL_ints, mapOI, flL_mapI, eqv_int, eqv_bl, eqv_LI, eqD_LI, eqD_nilI, filterT, eqD_nil0, eqD_int, eqD_bl, cEqD, cNeD, cIn, cNin, cIs, cIsn, inD_LI, inD_nilI, ints?_map, ints?_ints, atI_map, atI_nat, cutL_map, slD_map, compL_map, compL_enum, rangeD_I, compG_some, compG_all, dL_sh, dL_sh', map_sh, foldI, foldI1, addL, -List.map_cons, -List.map_append, -List.map_map, -List.map_take, -List.map_drop, -List.map_reverse, Rd2, biLen, biLenT, biListL, biSorted, biMax2, biMin2, biInt, isD1, isD2, a2] <;> rfl) ?_
          rw [show (i + 1).toNat = i.toNat + 1 by omega, hP]
          exact ⟨_, _, _, rfl, rfl⟩)
      obtain ⟨ρ', h1, o1, j, k, rfl, rfl⟩ := loop
      have h1' : evS ⟨⟨[pf (F__law_orders (n + 1))], [], []⟩, []⟩ W__law_orders_1 _ = _ := h1
      have e0 : ords (n + 1) t = ordP n t t.length := by unfold ordP; rw [ords, if_neg e]
      rw [e0]
      rw [show (t.length : Int).toNat = t.length by omega] at h1'
      (unfold pf F__law_orders runF)
      simp [evSs, evS, evX, evXs, evXan, evXor, evXo, evXc, evXt, evp, evs, evAnd, evOr, evo, evc, evi, ShR, AlR, shS, alS, O.pu, O.puL, O.d, O.dL, Ro1, Ro2, Ro3, Ro4, Rd1, Rd2, Rd3, Rd4, Rf1, Rf2, Rf3, Rf4, iteB1, iteB2, iteR1, iteR, iteBl, iteIn, D.fl, D.flL, asB1, asO1, at21, getAll, setAll, unS, frz1, frzS, backS, bT1, bT2, bT3, bT4, bT5, bO1, bO2, bO3, bO4, bO5, bO6, bO7, bO8, bO9, C.d, oAdd, oSub, oMul1, oMul2, oMulC, oMod, oFdiv, itemsD, ixL, ixT, ai0, ai1, ai2, putL, xn0, xn1, xn2, cEq, cLt, cLe, cGt, cGe, cNe, addNL, addNR, start0_eq, mapS, mapD, foldO, pmapE, pmap, Tg.ids, Tgs.ids, biAll, LIM, ok_non, ok_bl, ok_int, ok_lst, ok_tup, okn_non, okn_bl, okn_int, okn_lst, okn_tup, okn_ints, okn_ints', flL_ints, mapOI, flL_mapI, eqv_int, eqv_bl, eqv_LI, eqD_LI, eqD_nilI, filterT, eqD_nil0, eqD_int, eqD_bl, cEqD, cNeD, cIn, cNin, cIs, cIsn, inD_LI, inD_nilI, ints?_map, ints?_ints, atI_map, atI_nat, cutL_map, slD_map, compL_map, compL_enum, rangeD_I, compG_some, compG_all, dL_sh, dL_sh', map_sh, foldI, foldI1, addL, -List.map_cons, -List.map_append, -List.map_map, -List.map_take, -List.map_drop, -List.map_reverse, Rd2, biLen, biLenT, biListL, biSorted, biMax2, biMin2, biInt, isD1, isD2, B__law_orders, e, h1', dL_ordD]
end L46
end KP
/-! K46x: plain facts that the law asks. -/
namespace KP
namespace L46
open PySem L2 Com
theorem filter_nil {α : Type} {p : α → Bool} {l : List α} (h : ∀ x ∈ l, p x = false) : l.filter p = [] := List.filter_eq_nil_iff.mpr fun x hx => by simp [h x hx]
theorem otherw_suf {order : List Int} (nd : order.Nodup) : ∀ (S A : List Int), order = A ++ S → otherw (kO order) S = 0
  | [], _, _ => rfl
  | x :: S, A, e => by
    have ih := otherw_suf nd S (A ++ [x]) (by rw [e]; simp)
    show ((S.filter fun b => decide (kO order b < kO order x)).length + otherw (kO order) S) = 0
    rw [ih, filter_nil]; rfl
    intro y hy
    have hx : x ∉ A := fun h => by
      rw [e] at nd
      exact absurd rfl ((List.nodup_append.mp nd).2.2 x h x (by simp))
    have h1 : kO order x = A.length := by
      show order.idxOf x = _
      rw [e, List.idxOf_append, if_neg hx]; simp
    have hy2 : y ∉ A := fun h => by
      rw [e] at nd
      exact absurd rfl ((List.nodup_append.mp nd).2.2 y h y (by simp [hy]))
    have h2 : kO order y ≥ A.length := by
      show order.idxOf y ≥ _
      rw [e, List.idxOf_append, if_neg hy2]; omega
    simp; omega
theorem otherw_self {order : List Int} (nd : order.Nodup) : otherw (kO order) order = 0 := otherw_suf nd order [] rfl
theorem sum_bound {o : List Int} (no : o.Nodup) : ∀ {row t : List Int}, t.Nodup → t.Perm o → (∀ x ∈ row, x ∈ o) →
    (runM t row).sum + row.length + otherw (kO o) (row.foldl mtf t) ≤ otherw (kO o) t + 2 * (row.map fun x => o.idxOf x).sum + row.length
  | [], t, _, _, _ => by simp [runM]
  | x :: r, t, nt, hp, h => by
    have hx : x ∈ t := hp.mem_iff.mpr (h x (by simp))
    have hm := mtf_perm nt hx
    have ih := sum_bound no (row := r) (t := mtf t x) (hm.nodup_iff.mpr nt) (hm.trans hp) fun y hy => h y (by simp [hy])
    have a : t.idxOf x + 1 + otherw (kO o) (mtf t x) ≤ otherw (kO o) t + 2 * o.idxOf x + 1 := ask_bound no nt (fun y hy => hp.mem_iff.mp hy) hx
    simp only [runM, List.sum_cons, List.length_cons, List.foldl_cons, List.map_cons] at *
    omega
theorem runL_get : ∀ (row t : List Int) (k : Nat), k ≤ row.length → (runL t row)[k]? = some ((row.take k).foldl mtf t)
  | [], t, 0, _ => rfl
  | [], t, k + 1, h => by simp at h
  | x :: r, t, 0, _ => rfl
  | x :: r, t, k + 1, h => by simpa [runL] using runL_get r (mtf t x) k (by simpa using h)
theorem runL_map (row t : List Int) (f : List Int → Int) : (runL t row).map f = (List.range (row.length + 1)).map fun k => f ((row.take k).foldl mtf t) := by
  apply List.ext_getElem?
  intro k
  by_cases h : k < row.length + 1
  · rw [List.getElem?_map, runL_get row t k (by omega), List.getElem?_map, List.getElem?_range h]; rfl
  · rw [List.getElem?_eq_none (by rw [List.length_map, runL_length]; omega), List.getElem?_eq_none (by simp; omega)]
theorem runM_get : ∀ (row t : List Int) (k : Nat) (h : k < row.length), (runM t row)[k]? = some (((row.take k).foldl mtf t).idxOf row[k])
  | [], t, k, h => by simp at h
  | x :: r, t, 0, _ => rfl
  | x :: r, t, k + 1, h => by simpa [runM] using runM_get r (mtf t x) k (by simpa using h)
theorem potI_runL (row order : List Int) : (runL order row).map (fun t => ((otherw (kO order) t : Nat) : Int)) = potI row order := runL_map row order _
theorem potI_get {row order : List Int} {k : Nat} (h : k ≤ row.length) : (potI row order)[k]? = some ((otherw (kO order) ((row.take k).foldl mtf order) : Nat) : Int) := by
  unfold potI; rw [List.getElem?_map, List.getElem?_range (by omega)]; rfl
/-- no ask costs more than told -/
theorem ask_ok {row order : List Int} (h : OC row order) {k : Nat} (hk : k < row.length) {c r1 r0 f : Int} (hc : (costs row order)[k]? = some c) (h1 : (potI row order)[k + 1]? = some r1) (h0 : (potI row order)[k]? = some r0) (hf : (fixI row order)[k]? = some f) : c + r1 - r0 ≤ 2 * f - 1 := by
  rw [potI_get (by omega)] at h1 h0
  rw [costs, List.getElem?_map, runM_get row order k hk] at hc
  rw [fixI, List.getElem?_map, List.getElem?_eq_getElem hk] at hf
  cases h1; cases h0; cases hc; cases hf
  have hp := foldM_perm (row := row.take k) h.nd fun y hy => h.sub y (List.mem_of_mem_take hy)
  have hx : row[k] ∈ (row.take k).foldl mtf order := hp.mem_iff.mpr (h.sub _ (List.getElem_mem _))
  have a : ((row.take k).foldl mtf order).idxOf row[k] + 1 + otherw (kO order) (mtf ((row.take k).foldl mtf order) row[k]) ≤ otherw (kO order) ((row.take k).foldl mtf order) + 2 * order.idxOf row[k] + 1 := ask_bound h.nd (hp.nodup_iff.mpr h.nd) (fun y hy => hp.mem_iff.mp hy) hx
  rw [List.take_succ, List.foldl_append, List.getElem?_eq_getElem hk]
  simp only [Option.toList_some, List.foldl_cons, List.foldl_nil]
  omega
theorem sums_ok {row order : List Int} (h : OC row order) : (costs row order).sum ≤ 2 * (fixI row order).sum - row.length := by
  have a := sum_bound h.nd h.nd (List.Perm.refl order) h.sub
  rw [otherw_self h.nd] at a
  rw [costs_sum, fix_sum]
  omega
theorem bestI_perm (row : List Int) : (bestI row).Perm (isort (dedupI row)) := List.mergeSort_perm ..
theorem mem_best {row : List Int} {x : Int} : x ∈ bestI row ↔ x ∈ row := by rw [(bestI_perm row).mem_iff, (isort_perm _).mem_iff, mem_dedupI]
theorem nd_things (row : List Int) : (isort (dedupI row)).Nodup := (isort_perm _).nodup_iff.mpr (nodup_dedupI row)
theorem nd_best (row : List Int) : (bestI row).Nodup := (bestI_perm row).nodup_iff.mpr (nd_things row)
theorem best_asc (row : List Int) : (bestI row).Pairwise fun a b => row.count b ≤ row.count a := by
  have h := List.pairwise_mergeSort (le := pairLe (cntKey row)) (fun a b c h1 h2 => by simp [pairLe] at *; omega) (fun a b => by simp [pairLe]; omega) (isort (dedupI row))
  exact h.imp fun {a b} h => by simp [pairLe, cntKey] at h; omega
theorem fix_sum_map (row l : List Int) : (row.map fun x => ((l.idxOf x : Nat) : Int) + 1).sum = (fixI row l).sum := rfl
theorem least_ok {row : List Int} (n : Nat) (h : (isort (dedupI row)).length ≤ n) : minI ((ords n (isort (dedupI row))).map fun l => (fixI row l).sum) = (fixI row (bestI row)).sum := by
  have hb := ords_all (n := n) h (bestI_perm row)
  have hne : (ords n (isort (dedupI row))).map (fun l => (fixI row l).sum) ≠ [] := fun e => by
    rw [List.map_eq_nil_iff] at e; rw [e] at hb; exact absurd hb (by simp)
  obtain ⟨m1, m2⟩ := minI_spec hne
  obtain ⟨l, hl, e⟩ := List.mem_map.mp m1
  have a1 := m2 _ (List.mem_map.mpr ⟨_, hb, rfl⟩)
  have a2 := best_least (row := row) (nd_best row) ((ords_perm h hl).trans (bestI_perm row).symm) (fun x hx => mem_best.mpr hx) (best_asc row)
  rw [← e] at *
  rw [fix_sum] at *
  rw [fix_sum] at *
  omega
end L46
end KP
/-! K46y: the law's loops. -/
namespace KP
namespace L46
open PySem L2 Com
theorem pairI_comm {row order : List Int} (h : OC row order) {a b : Int} (ha : a ∈ order) (hb : b ∈ order) (ne : a ≠ b) : pairI row order b a = pairI row order a b := by
  rw [pairI_eq h ha hb ne, pairI_eq h hb ha fun z => ne z.symm, pcost_comm b a, fcost_comm order b a]
theorem two_of {a b : Int} {L : List Int} (ne : a ≠ b) (h : ([a, b] : List Int).Perm L) : ∃ p0 p1, L = [p0, p1] ∧ p0 ≠ p1 ∧ ∀ x, (x = a ∨ x = b) → x = p0 ∨ x = p1 := by
  have hl := h.length_eq
  match L, hl with
  | [p0, p1], _ =>
    have nd : ([p0, p1] : List Int).Nodup := h.nodup_iff.mp (by simp [ne])
    refine ⟨p0, p1, rfl, by simpa using nd, fun x hx => ?_⟩
    have := h.mem_iff (a := x)
    simp at this
    omega
theorem law_pair_ok {row order : List Int} (h : OC row order) {a b : Int} (ha : a ∈ order) (hb : b ∈ order) (ne : a ≠ b) :
    pf F__law_pair [.lst (row.map .int), .lst (order.map .int), .int a, .int b] = some (.sh (.tup [.int (pairI row order a b).1, .int (pairI row order a b).2])) := by
  obtain ⟨p0, p1, e, ne2, hs⟩ := two_of ne (pair_perm h.nd ha hb ne)
  have r1 := run_pair ne h.nd ha hb h.sub (row := row)
  have r2 := fix_pair h.nd ne ha hb h.sub (row := row)
  rw [e] at r1 r2
  have hm : ∀ x ∈ row.filter (isP a b), x = p0 ∨ x = p1 := fun x hx => hs x (by simpa [isP] using (List.mem_filter.mp hx).2)
  rw [run2 ne2 hm] at r1
  rw [fix2 ne2 hm] at r2
  have hq := r_law_pair (row := row) (order := order) (a := a) (b := b) (p0 := p0) (p1 := p1) (by have := h.l2; omega) (by have := h.ol; omega) (by rw [asks_isP]; exact e)
  rw [hq, pairI_eq h ha hb ne, asks_isP, r1, r2]
theorem lw2 {n : Nat} {o : O} {row order : List Int} (h : OC row order) (h2 : 1 < order.length) (hg : Gen (n + 78) o) (s3 s4 s5 s6 s7 s8 s9 s10 s11 s12 s13 s14 s15 s16 j17 j18 j19 j20 s21 s22 s23 : Option O) :
    ∃ ρ', evS G__law_case_right W__law_case_right_2 [some o, some (.sh (.lst (row.map .int))), some (.sh (.lst (order.map .int))), s3, s4, s5, s6, s7, s8, s9, s10, s11, s12, s13, s14, s15, s16, j17, j18, j19, j20, s21, s22, s23] = some (.nx ρ') ∧
      ∃ (o' : O) (k17 k18 k19 k20 : Option O), ρ' = [some o', some (.sh (.lst (row.map .int))), some (.sh (.lst (order.map .int))), s3, s4, s5, s6, s7, s8, s9, s10, s11, s12, s13, s14, s15, s16, k17, k18, k19, k20, s21, s22, s23] ∧ Gen n o' := by
  have hol := h.ol
  have loop := fo_range (G := G__law_case_right) (tg := .nm 17) (it := .r1 (.p (.k (.int 3)))) (b := Y__law_case_right_2) (lo := 0) (hi := 3)
    (ρ := [some o, some (.sh (.lst (row.map .int))), some (.sh (.lst (order.map .int))), s3, s4, s5, s6, s7, s8, s9, s10, s11, s12, s13, s14, s15, s16, j17, j18, j19, j20, s21, s22, s23])
    (fun i ρ => ∃ (o' : O) (k17 k18 k19 k20 : Option O), ρ = [some o', some (.sh (.lst (row.map .int))), some (.sh (.lst (order.map .int))), s3, s4, s5, s6, s7, s8, s9, s10, s11, s12, s13, s14, s15, s16, k17, k18, k19, k20, s21, s22, s23] ∧ Gen (n + 26 * (3 - i).toNat) o')
    (by simp [evSs, evS, evX, evXs, evXan, evXor, evXo, evXc, evXt, evp, evs, evAnd, evOr, evo, evc, evi, ShR, AlR, shS, alS, O.pu, O.puL, O.d, O.dL, Ro1, Ro2, Ro3, Ro4, Rd1, Rd2, Rd3, Rd4, Rf1, Rf2, Rf3, Rf4, iteB1, iteB2, iteR1, iteR, iteBl, iteIn, D.fl, D.flL, asB1, asO1, at21, getAll, setAll, unS, frz1, frzS, backS, bT1, bT2, bT3, bT4, bT5, bO1, bO2, bO3, bO4, bO5, bO6, bO7, bO8, bO9, C.d, oAdd, oSub, oMul1, oMul2, oMulC, oMod, oFdiv, itemsD, ixL, ixT, ai0, ai1, ai2, putL, xn0, xn1, xn2, cEq, cLt, cLe, cGt, cGe, cNe, addNL, addNR, start0_eq, mapS, mapD, foldO, pmapE, pmap, Tg.ids, Tgs.ids, biAll, LIM, ok_non, ok_bl, ok_int, ok_lst, ok_tup, okn_non, okn_bl, okn_int, okn_lst, okn_tup, okn_ints, okn_ints', flL_ints, mapOI, flL_mapI, eqv_int, eqv_bl, eqv_LI, eqD_LI, eqD_nilI, filterT, eqD_nil0, eqD_int, eqD_bl, cEqD, cNeD, cIn, cNin, cIs, cIsn, inD_LI, inD_nilI, ints?_map, ints?_ints, atI_map, atI_nat, cutL_map, slD_map, compL_map, compL_enum, rangeD_I, compG_some, compG_all, dL_sh, dL_sh', map_sh, foldI, foldI1, addL, -List.map_cons, -List.map_append, -List.map_map, -List.map_take, -List.map_drop, -List.map_reverse, Rd2, biLen, biLenT, biListL, biSorted, biMax2, biMin2, biInt, isD1, isD2, smallI] <;> rfl) (by omega) ⟨o, _, _, _, _, rfl, hg.weak (by omega)⟩ (fun i ρ h0 h1 ⟨o', k17, k18, k19, k20, e, hg'⟩ => by
      subst e
      obtain ⟨ys, o2, hd, hp, g2⟩ := r_order (m := n + 26 * (3 - (i + 1)).toNat) (o := o') (xs := order) (hg'.weak (by omega)) (by omega)
      have hl := hp.length_eq
      obtain ⟨a, b, t, rfl⟩ : ∃ a b t, ys = a :: b :: t := by
        match ys, hl with
        | [], hl => simp at hl; omega
        | [_], hl => simp at hl; omega
        | a :: b :: t, _ => exact ⟨a, b, t, rfl⟩
      have hab : ([a, b].map fun y => O.sh (.int y)) = [.sh (.int a), .sh (.int b)] := rfl
      have nd := hp.nodup_iff.mpr h.nd
      have ha : a ∈ order := hp.mem_iff.mp (by simp)
      have hb : b ∈ order := hp.mem_iff.mp (by simp)
      have ne : a ≠ b := fun z => by subst z; simp at nd
      have q1 := law_pair_ok h ha hb ne
      have q2 := p_pair_costs h ha hb ne
      have q3 := p_pair_costs h hb ha fun z => ne z.symm
      rw [pairI_comm h ha hb ne] at q3
      generalize pairI row order a b = pr at *
      have ex := r_exact 7 (.lst [.tup [.int pr.1, .int pr.2], .tup [.int pr.1, .int pr.2]]) (by simp [exOk, LIM])
      refine .nx rfl (by simp [evSs, evS, evX, evXs, evXan, evXor, evXo, evXc, evXt, evp, evs, evAnd, evOr, evo, evc, evi, ShR, AlR, shS, alS, O.pu, O.puL, O.d, O.dL, Ro1, Ro2, Ro3, Ro4, Rd1, Rd2, Rd3, Rd4, Rf1, Rf2, Rf3, Rf4, iteB1, iteB2, iteR1, iteR, iteBl, iteIn, D.fl, D.flL, asB1, asO1, at21, getAll, setAll, unS, frz1, frzS, backS, bT1, bT2, bT3, bT4, bT5, bO1, bO2, bO3, bO4, bO5, bO6, bO7, bO8, bO9, C.d, oAdd, oSub, oMul1, oMul2, oMulC, oMod, oFdiv, itemsD, ixL, ixT, ai0, ai1, ai2, putL, xn0, xn1, xn2, cEq, cLt, cLe, cGt, cGe, cNe, addNL, addNR, start0_eq, mapS, mapD, foldO, pmapE, pmap, Tg.ids, Tgs.ids, biAll, LIM, ok_non, ok_bl, ok_int, ok_lst, ok_tup, okn_non, okn_bl, okn_int, okn_lst, okn_tup, okn_ints, okn_ints', flL_ints, mapOI, flL_mapI, eqv_int, eqv_bl, eqv_LI, eqD_LI, eqD_nilI, filterT, eqD_nil0, eqD_int, eqD_bl, cEqD, cNeD, cIn, cNin, cIs, cIsn, inD_LI, inD_nilI, ints?_map, ints?_ints, atI_map, atI_nat, cutL_map, slD_map, compL_map, compL_enum, rangeD_I, compG_some, compG_all, dL_sh, dL_sh', map_sh, foldI, foldI1, addL, -List.map_cons, -List.map_append, -List.map_map, -List.map_take, -List.map_drop, -List.map_reverse, Rd2, biLen, biLenT, biListL, biSorted, biMax2, biMin2, biInt, isD1, isD2, G__law_case_right, Y__law_case_right_2, hd, q1, q2, q3, ex, hab, cutL_to (show (0 : Int) ≤ 2 by omega)] <;> rfl) ?_
      exact ⟨o2, _, _, _, _, rfl, g2⟩)
  obtain ⟨ρ', h1, o', k17, k18, k19, k20, rfl, g'⟩ := loop
  exact ⟨_, h1, o', _, _, _, _, rfl, by simpa using g'⟩
theorem lw1 {o : O} {row order : List Int} (h : OC row order) (s3 s6 s7 s8 s9 s10 s11 s13 j14 j15 s16 s17 s18 s19 s20 s21 s22 s23 : Option O) :
    ∃ ρ', evS G__law_case_right W__law_case_right_1 [some o, some (.sh (.lst (row.map .int))), some (.sh (.lst (order.map .int))), s3, some (.ol ((fixI row order).map fun x => .sh (.int x))), some (.ol ((costs row order).map fun x => .sh (.int x))), s6, s7, s8, s9, s10, s11, some (.ol ((potI row order).map fun x => .sh (.int x))), s13, j14, j15, s16, s17, s18, s19, s20, s21, s22, s23] = some (.nx ρ') ∧
      ∃ (k14 k15 : Option O), ρ' = [some o, some (.sh (.lst (row.map .int))), some (.sh (.lst (order.map .int))), s3, some (.ol ((fixI row order).map fun x => .sh (.int x))), some (.sh (.lst ((costs row order).map .int))), s6, s7, s8, s9, s10, s11, some (.ol ((potI row order).map fun x => .sh (.int x))), s13, k14, k15, s16, s17, s18, s19, s20, s21, s22, s23] := by
  have lc := costs_length row order
  have loop := fo_enumG (G := G__law_case_right) (tg := .tp (.cons (.nm 14) (.cons (.nm 15) .nil))) (it := .en (.z [5] (.p (.v 5)))) (b := Y__law_case_right_1) (xs := costs row order) (e := D.int)
    (ρ := [some o, some (.sh (.lst (row.map .int))), some (.sh (.lst (order.map .int))), s3, some (.ol ((fixI row order).map fun x => .sh (.int x))), some (.ol ((costs row order).map fun x => .sh (.int x))), s6, s7, s8, s9, s10, s11, some (.ol ((potI row order).map fun x => .sh (.int x))), s13, j14, j15, s16, s17, s18, s19, s20, s21, s22, s23])
    (ρ0 := [some o, some (.sh (.lst (row.map .int))), some (.sh (.lst (order.map .int))), s3, some (.ol ((fixI row order).map fun x => .sh (.int x))), some (.sh (.lst ((costs row order).map .int))), s6, s7, s8, s9, s10, s11, some (.ol ((potI row order).map fun x => .sh (.int x))), s13, j14, j15, s16, s17, s18, s19, s20, s21, s22, s23])
    (fun pre ρ => ∃ (k14 k15 : Option O), ρ = [some o, some (.sh (.lst (row.map .int))), some (.sh (.lst (order.map .int))), s3, some (.ol ((fixI row order).map fun x => .sh (.int x))), some (.sh (.lst ((costs row order).map .int))), s6, s7, s8, s9, s10, s11, some (.ol ((potI row order).map fun x => .sh (.int x))), s13, k14, k15, s16, s17, s18, s19, s20, s21, s22, s23])
    (by simp [evSs, evS, evX, evXs, evXan, evXor, evXo, evXc, evXt, evp, evs, evAnd, evOr, evo, evc, evi, ShR, AlR, shS, alS, O.pu, O.puL, O.d, O.dL, Ro1, Ro2, Ro3, Ro4, Rd1, Rd2, Rd3, Rd4, Rf1, Rf2, Rf3, Rf4, iteB1, iteB2, iteR1, iteR, iteBl, iteIn, D.fl, D.flL, asB1, asO1, at21, getAll, setAll, unS, frz1, frzS, backS, bT1, bT2, bT3, bT4, bT5, bO1, bO2, bO3, bO4, bO5, bO6, bO7, bO8, bO9, C.d, oAdd, oSub, oMul1, oMul2, oMulC, oMod, oFdiv, itemsD, ixL, ixT, ai0, ai1, ai2, putL, xn0, xn1, xn2, cEq, cLt, cLe, cGt, cGe, cNe, addNL, addNR, start0_eq, mapS, mapD, foldO, pmapE, pmap, Tg.ids, Tgs.ids, biAll, LIM, ok_non, ok_bl, ok_int, ok_lst, ok_tup, okn_non, okn_bl, okn_int, okn_lst, okn_tup, okn_ints, okn_ints', flL_ints, mapOI, flL_mapI, eqv_int, eqv_bl, eqv_LI, eqD_LI, eqD_nilI, filterT, eqD_nil0, eqD_int, eqD_bl, cEqD, cNeD, cIn, cNin, cIs, cIsn, inD_LI, inD_nilI, ints?_map, ints?_ints, atI_map, atI_nat, cutL_map, slD_map, compL_map, compL_enum, rangeD_I, compG_some, compG_all, dL_sh, dL_sh', map_sh, foldI, foldI1, addL, -List.map_cons, -List.map_append, -List.map_map, -List.map_take, -List.map_drop, -List.map_reverse, Rd2, biLen, biLenT, biListL, biSorted, biMax2, biMin2, biInt, isD1, isD2] <;> rfl) ⟨_, _, rfl⟩ fun pre x post ρ e ⟨k14, k15, e2⟩ => by
      subst e2
      have hk : pre.length < row.length := by rw [← lc, e]; simp
      have hx : (costs row order)[pre.length]? = some x := by rw [e]; simp
      have g1 := potI_get (row := row) (order := order) (k := pre.length + 1) (by omega)
      have g0 := potI_get (row := row) (order := order) (k := pre.length) (by omega)
      have gf : (fixI row order)[pre.length]? = some ((order.idxOf row[pre.length] : Int) + 1) := by unfold fixI; rw [List.getElem?_map, List.getElem?_eq_getElem hk]; rfl
      have a := ask_ok h hk hx g1 g0 gf
      have a1 := (atI_nat (xs := potI row order) (i := pre.length + 1)).trans g1
      rw [show ((pre.length + 1 : Nat) : Int) = (pre.length : Int) + 1 by omega] at a1
      have a0 := (atI_nat (xs := potI row order) (i := pre.length)).trans g0
      have af := (atI_nat (xs := fixI row order) (i := pre.length)).trans gf
      generalize ((otherw (kO order) ((row.take (pre.length + 1)).foldl mtf order) : Nat) : Int) = r1 at *
      generalize ((otherw (kO order) ((row.take pre.length).foldl mtf order) : Nat) : Int) = r0 at *
      generalize (order.idxOf row[pre.length] : Int) + 1 = f at *
      have tt : smallI 2 = true := rfl
      refine ⟨_, by simp [evSs, evS, evX, evXs, evXan, evXor, evXo, evXc, evXt, evp, evs, evAnd, evOr, evo, evc, evi, ShR, AlR, shS, alS, O.pu, O.puL, O.d, O.dL, Ro1, Ro2, Ro3, Ro4, Rd1, Rd2, Rd3, Rd4, Rf1, Rf2, Rf3, Rf4, iteB1, iteB2, iteR1, iteR, iteBl, iteIn, D.fl, D.flL, asB1, asO1, at21, getAll, setAll, unS, frz1, frzS, backS, bT1, bT2, bT3, bT4, bT5, bO1, bO2, bO3, bO4, bO5, bO6, bO7, bO8, bO9, C.d, oAdd, oSub, oMul1, oMul2, oMulC, oMod, oFdiv, itemsD, ixL, ixT, ai0, ai1, ai2, putL, xn0, xn1, xn2, cEq, cLt, cLe, cGt, cGe, cNe, addNL, addNR, start0_eq, mapS, mapD, foldO, pmapE, pmap, Tg.ids, Tgs.ids, biAll, LIM, ok_non, ok_bl, ok_int, ok_lst, ok_tup, okn_non, okn_bl, okn_int, okn_lst, okn_tup, okn_ints, okn_ints', flL_ints, mapOI, flL_mapI, eqv_int, eqv_bl, eqv_LI, eqD_LI, eqD_nilI, filterT, eqD_nil0, eqD_int, eqD_bl, cEqD, cNeD, cIn, cNin, cIs, cIsn, inD_LI, inD_nilI, ints?_map, ints?_ints, atI_map, atI_nat, cutL_map, slD_map, compL_map, compL_enum, rangeD_I, compG_some, compG_all, dL_sh, dL_sh', map_sh, foldI, foldI1, addL, -List.map_cons, -List.map_append, -List.map_map, -List.map_take, -List.map_drop, -List.map_reverse, Rd2, biLen, biLenT, biListL, biSorted, biMax2, biMin2, biInt, isD1, isD2] <;> rfl, _, .inl (by simp [evSs, evS, evX, evXs, evXan, evXor, evXo, evXc, evXt, evp, evs, evAnd, evOr, evo, evc, evi, ShR, AlR, shS, alS, O.pu, O.puL, O.d, O.dL, Ro1, Ro2, Ro3, Ro4, Rd1, Rd2, Rd3, Rd4, Rf1, Rf2, Rf3, Rf4, iteB1, iteB2, iteR1, iteR, iteBl, iteIn, D.fl, D.flL, asB1, asO1, at21, getAll, setAll, unS, frz1, frzS, backS, bT1, bT2, bT3, bT4, bT5, bO1, bO2, bO3, bO4, bO5, bO6, bO7, bO8, bO9, C.d, oAdd, oSub, oMul1, oMul2, oMulC, oMod, oFdiv, itemsD, ixL, ixT, ai0, ai1, ai2, putL, xn0, xn1, xn2, cEq, cLt, cLe, cGt, cGe, cNe, addNL, addNR, start0_eq, mapS, mapD, foldO, pmapE, pmap, Tg.ids, Tgs.ids, biAll, LIM, ok_non, ok_bl, ok_int, ok_lst, ok_tup, okn_non, okn_bl, okn_int, okn_lst, okn_tup, okn_ints, okn_ints', flL_ints, mapOI, flL_mapI, eqv_int, eqv_bl, eqv_LI, eqD_LI, eqD_nilI, filterT, eqD_nil0, eqD_int, eqD_bl, cEqD, cNeD, cIn, cNin, cIs, cIsn, inD_LI, inD_nilI, ints?_map, ints?_ints, atI_map, atI_nat, cutL_map, slD_map, compL_map, compL_enum, rangeD_I, compG_some, compG_all, dL_sh, dL_sh', map_sh, foldI, foldI1, addL, -List.map_cons, -List.map_append, -List.map_map, -List.map_take, -List.map_drop, -List.map_reverse, Rd2, biLen, biLenT, biListL, biSorted, biMax2, biMin2, biInt, isD1, isD2, G__law_case_right, Y__law_case_right_1, a1, g0, gf, show ¬ 2 * f - 1 < x + r1 - r0 by omega] <;> rfl), ?_⟩
      exact ⟨_, _, rfl⟩
  obtain ⟨ρ', h1, k14, k15, rfl⟩ := loop
  exact ⟨_, h1, _, _, rfl⟩
end L46
end KP
/-! K46yb: a case is right. -/
namespace KP
namespace L46
open PySem L2 Com
theorem lists_fold {L : List (List Int)} : O.dL (L.map fun t => O.sh (.lst (t.map .int))) = ordD L := dL_sh (e := fun t : List Int => D.lst (t.map .int))
theorem map_lists {L : List (List Int)} : (L.map fun t : List Int => D.lst (t.map .int)) = ordD L := rfl
theorem comp_lists {L : List (List Int)} {f : D → Option D} (g : List Int → D) (hf : ∀ t ∈ L, f (.lst (t.map .int)) = some (g t)) : compL (fun _ => some true) f (ordD L) = some (L.map g) := by
  unfold ordD; rw [compL_map]; exact compG_map g (fun _ _ => rfl) hf
theorem runL_last (row t : List Int) : (runL t row).getLast? = some (row.foldl mtf t) := by
  rw [List.getLast?_eq_getElem?, runL_length, Nat.add_sub_cancel, runL_get row t row.length (Nat.le_refl _), List.take_length]
theorem runL_mem {row order : List Int} (h : OC row order) {t : List Int} (ht : t ∈ runL order row) : t.Perm order := by
  obtain ⟨k, hk⟩ := List.getElem?_of_mem ht
  have hl : k < (runL order row).length := by
    rcases Nat.lt_or_ge k (runL order row).length with q | q
    · exact q
    · rw [List.getElem?_eq_none q] at hk; cases hk
  rw [runL_length] at hl
  rw [runL_get row order k (by omega)] at hk
  cases hk
  exact foldM_perm h.nd fun y hy => h.sub y (List.mem_of_mem_take hy)
theorem atI_lastO {L : List (List Int)} {t : List Int} (h : L.getLast? = some t) : L2.atI (ordD L) (-1) = some (.lst (t.map .int)) := by
  unfold ordD; rw [atI_map, atI_last, h]; rfl
theorem aa_ok {a b c d : List Int} (ha : a.length < 1000) (hb : b.length < 1000) (hc : c.length < 1000) (hd : d.length < 1000) :
    List.all [O.ol (a.map fun x => .sh (.int x)), .ol (b.map fun x => .sh (.int x)), .ol (c.map fun x => .sh (.int x)), .ol (d.map fun x => .sh (.int x))] olB = true := by
  simp [olB, LIM]; omega
theorem add44 {a b c d e f g h : D} : o2D .add (.lst [a, b, c, d]) (.lst [e, f, g, h]) = some (.fl [a, b, c, d, e, f, g, h]) := oAddL (by simp [LIM])
theorem add81 {a b c d e f g h i : D} : o2D .add (.lst [a, b, c, d, e, f, g, h]) (.lst [i]) = some (.fl [a, b, c, d, e, f, g, h, i]) := oAddL (by simp [LIM])
theorem case_right {n : Nat} {o : O} {row order : List Int} (h : OC row order) (hg : Gen (n + 80) o) :
    ∃ o', F__law_case_right [o] [.lst (row.map .int), .lst (order.map .int)] = some (.sh (.bl true), [o']) ∧ Gen n o' := by
  have hrl := h.l2
  have hol := h.ol
  have lc := costs_length row order
  have lw := runW_length row order
  have lf : (fixI row order).length = row.length := by simp [fixI]
  have lL := runL_length row order
  have hfin := foldM_perm (row := row) h.nd h.sub
  have hfl := hfin.length_eq
  have f1 := r_fixed_costs h
  have f2 := r_front_costs h
  have f3 := r_front_list h
  have f4 := r_swapped_costs h
  have k1 := pf_of f1
  have k2 := pf_of f2
  have k3 := pf_of f3
  have k4 := pf_of f4
  have f5 := r_law_front h
  have k5 := pf_of (r_law_swapped h)
  have b1 := pf_of (r_front_bound h)
  simp only [O.d, dL_sh] at k1 k2 k3 k4 k5 b1
  have cp := r_copied 3 (.lst [.lst (row.map .int), .lst (order.map .int)]) (by simp [exOk, LIM]; omega)
  have hfx : ∀ l : List Int, (∀ x ∈ row, x ∈ l) → compG (fun _ => some true) (fun x => (meIndex (.lst (l.map .int)) [.int x]).bind (Option.map R.d ∘ fun r => o2D .add r.d (.int 1))) row = some ((fixI row l).map .int) := fun l hl => by
    rw [compG_map (fun x => D.int ((l.idxOf x : Nat) + 1)) (fun _ _ => rfl) fun x hx => by simp [meIdx (hl x hx), Rd1, oAdd]]
    simp [fixI]
  have hlast := atI_lastO (runL_last row order)
  have e1 := r_exact 7 (.lst [.lst ((fixI row order).map .int), .lst ((costs row order).map .int), .lst ((row.foldl mtf order).map .int), .lst ((runW order row).map .int), .lst ((fixI row order).map .int), .lst ((costs row order).map .int), .lst ((row.foldl mtf order).map .int), .lst ((runW order row).map .int), .lst [.lst (row.map .int), .lst (order.map .int)]]) (by simp [exOk, ex_int, LIM]; omega)
  have haa := aa_ok (a := fixI row order) (b := costs row order) (c := row.foldl mtf order) (d := runW order row) (by omega) (by omega) (by omega) (by omega)
  have hpot : (runL order row).map (fun t => D.int ((otherw (kO order) t : Nat) : Int)) = (potI row order).map D.int := by
    rw [← potI_runL, List.map_map]; rfl
  have lpot : (potI row order).length = row.length + 1 := by simp [potI]
  have e2 := r_exact 7 (.lst [.lst ((potI row order).map .int), .int (2 * (fixI row order).sum - row.length), .lst ((potI row order).map .int), .int (2 * (fixI row order).sum - row.length)]) (by simp [exOk, ex_int, LIM]; omega)
  have hs := sums_ok h
  have e3 := r_exact 7 (.lst [.tup [.int (costs row order).sum, .int (fixI row order).sum], .tup [.int (costs row order).sum, .int (fixI row order).sum]]) (by simp [exOk, LIM])
  have hth : (isort (dedupI row)).length < 64 := by
    rw [(isort_perm _).length_eq]; have := dedupI_length row; omega
  have sk_fold : (isort (dedupI row)).mergeSort (pairLe (cntKey row)) = bestI row := rfl
  have lbest : (bestI row).length < 64 := by rw [(bestI_perm row).length_eq]; exact hth
  have e4 := r_exact 7 (.lst ((bestI row).map .int)) (ex_LI (by omega))
  have main : Ends G__law_case_right B__law_case_right (start0 [o] [.lst (row.map .int), .lst (order.map .int)] 24) (.sh (.bl true)) (fun ρ' => ∃ o', ρ'[0]? = some (some o') ∧ Gen n o') := by
    refine .nx (by simp [evSs, evS, evX, evXs, evXan, evXor, evXo, evXc, evXt, evp, evs, evAnd, evOr, evo, evc, evi, ShR, AlR, shS, alS, O.pu, O.puL, O.d, O.dL, Ro1, Ro2, Ro3, Ro4, Rd1, Rd2, Rd3, Rd4, Rf1, Rf2, Rf3, Rf4, iteB1, iteB2, iteR1, iteR, iteBl, iteIn, D.fl, D.flL, asB1, asO1, at21, getAll, setAll, unS, frz1, frzS, backS, bT1, bT2, bT3, bT4, bT5, bO1, bO2, bO3, bO4, bO5, bO6, bO7, bO8, bO9, C.d, oAdd, oSub, oMul1, oMul2, oMulC, oMod, oFdiv, itemsD, ixL, ixT, ai0, ai1, ai2, putL, xn0, xn1, xn2, cEq, cLt, cLe, cGt, cGe, cNe, addNL, addNR, start0_eq, mapS, mapD, foldO, pmapE, pmap, Tg.ids, Tgs.ids, biAll, LIM, ok_non, ok_bl, ok_int, ok_lst, ok_tup, okn_non, okn_bl, okn_int, okn_lst, okn_tup, okn_ints, okn_ints', flL_ints, mapOI, flL_mapI, eqv_int, eqv_bl, eqv_LI, eqD_LI, eqD_nilI, filterT, eqD_nil0, eqD_int, eqD_bl, cEqD, cNeD, cIn, cNin, cIs, cIsn, inD_LI, inD_nilI, ints?_map, ints?_ints, atI_map, atI_nat, cutL_map, slD_map, compL_map, compL_enum, rangeD_I, compG_some, compG_all, dL_sh, dL_sh', map_sh, foldI, foldI1, addL, -List.map_cons, -List.map_append, -List.map_map, -List.map_take, -List.map_drop, -List.map_reverse, Rd2, biLen, biLenT, biListL, biSorted, biMax2, biMin2, biInt, isD1, isD2, G__law_case_right, cp, f5, k5, meD, hfx order h.sub] <;> rfl) ?_
    refine .nx (by simp [evSs, evS, evX, evXs, evXan, evXor, evXo, evXc, evXt, evp, evs, evAnd, evOr, evo, evc, evi, ShR, AlR, shS, alS, O.pu, O.puL, O.d, O.dL, Ro1, Ro2, Ro3, Ro4, Rd1, Rd2, Rd3, Rd4, Rf1, Rf2, Rf3, Rf4, iteB1, iteB2, iteR1, iteR, iteBl, iteIn, D.fl, D.flL, asB1, asO1, at21, getAll, setAll, unS, frz1, frzS, backS, bT1, bT2, bT3, bT4, bT5, bO1, bO2, bO3, bO4, bO5, bO6, bO7, bO8, bO9, C.d, oAdd, oSub, oMul1, oMul2, oMulC, oMod, oFdiv, itemsD, ixL, ixT, ai0, ai1, ai2, putL, xn0, xn1, xn2, cEq, cLt, cLe, cGt, cGe, cNe, addNL, addNR, start0_eq, mapS, mapD, foldO, pmapE, pmap, Tg.ids, Tgs.ids, biAll, LIM, ok_non, ok_bl, ok_int, ok_lst, ok_tup, okn_non, okn_bl, okn_int, okn_lst, okn_tup, okn_ints, okn_ints', flL_ints, mapOI, flL_mapI, eqv_int, eqv_bl, eqv_LI, eqD_LI, eqD_nilI, filterT, eqD_nil0, eqD_int, eqD_bl, cEqD, cNeD, cIn, cNin, cIs, cIsn, inD_LI, inD_nilI, ints?_map, ints?_ints, atI_map, atI_nat, cutL_map, slD_map, compL_map, compL_enum, rangeD_I, compG_some, compG_all, dL_sh, dL_sh', map_sh, foldI, foldI1, addL, -List.map_cons, -List.map_append, -List.map_map, -List.map_take, -List.map_drop, -List.map_reverse, Rd2, biLen, biLenT, biListL, biSorted, biMax2, biMin2, biInt, isD1, isD2, G__law_case_right, f1, f2, f3, f4] <;> rfl) ?_
    refine .nx (by simp [evSs, evS, evX, evXs, evXan, evXor, evXo, evXc, evXt, evp, evs, evAnd, evOr, evo, evc, evi, ShR, AlR, shS, alS, O.pu, O.puL, O.d, O.dL, Ro1, Ro2, Ro3, Ro4, Rd1, Rd2, Rd3, Rd4, Rf1, Rf2, Rf3, Rf4, iteB1, iteB2, iteR1, iteR, iteBl, iteIn, D.fl, D.flL, asB1, asO1, at21, getAll, setAll, unS, frz1, frzS, backS, bT1, bT2, bT3, bT4, bT5, bO1, bO2, bO3, bO4, bO5, bO6, bO7, bO8, bO9, C.d, oAdd, oSub, oMul1, oMul2, oMulC, oMod, oFdiv, itemsD, ixL, ixT, ai0, ai1, ai2, putL, xn0, xn1, xn2, cEq, cLt, cLe, cGt, cGe, cNe, addNL, addNR, start0_eq, mapS, mapD, foldO, pmapE, pmap, Tg.ids, Tgs.ids, biAll, LIM, ok_non, ok_bl, ok_int, ok_lst, ok_tup, okn_non, okn_bl, okn_int, okn_lst, okn_tup, okn_ints, okn_ints', flL_ints, mapOI, flL_mapI, eqv_int, eqv_bl, eqv_LI, eqD_LI, eqD_nilI, filterT, eqD_nil0, eqD_int, eqD_bl, cEqD, cNeD, cIn, cNin, cIs, cIsn, inD_LI, inD_nilI, ints?_map, ints?_ints, atI_map, atI_nat, cutL_map, slD_map, compL_map, compL_enum, rangeD_I, compG_some, compG_all, dL_sh, dL_sh', map_sh, foldI, foldI1, addL, -List.map_cons, -List.map_append, -List.map_map, -List.map_take, -List.map_drop, -List.map_reverse, Rd2, biLen, biLenT, biListL, biSorted, biMax2, biMin2, biInt, isD1, isD2, G__law_case_right, k1, k2, k3, k4] <;> rfl) ?_
    refine .nx (by simp [evSs, evS, evX, evXs, evXan, evXor, evXo, evXc, evXt, evp, evs, evAnd, evOr, evo, evc, evi, ShR, AlR, shS, alS, O.pu, O.puL, O.d, O.dL, Ro1, Ro2, Ro3, Ro4, Rd1, Rd2, Rd3, Rd4, Rf1, Rf2, Rf3, Rf4, iteB1, iteB2, iteR1, iteR, iteBl, iteIn, D.fl, D.flL, asB1, asO1, at21, getAll, setAll, unS, frz1, frzS, backS, bT1, bT2, bT3, bT4, bT5, bO1, bO2, bO3, bO4, bO5, bO6, bO7, bO8, bO9, C.d, oAdd, oSub, oMul1, oMul2, oMulC, oMod, oFdiv, itemsD, ixL, ixT, ai0, ai1, ai2, putL, xn0, xn1, xn2, cEq, cLt, cLe, cGt, cGe, cNe, addNL, addNR, start0_eq, mapS, mapD, foldO, pmapE, pmap, Tg.ids, Tgs.ids, biAll, LIM, ok_non, ok_bl, ok_int, ok_lst, ok_tup, okn_non, okn_bl, okn_int, okn_lst, okn_tup, okn_ints, okn_ints', flL_ints, mapOI, flL_mapI, eqv_int, eqv_bl, eqv_LI, eqD_LI, eqD_nilI, filterT, eqD_nil0, eqD_int, eqD_bl, cEqD, cNeD, cIn, cNin, cIs, cIsn, inD_LI, inD_nilI, ints?_map, ints?_ints, atI_map, atI_nat, cutL_map, slD_map, compL_map, compL_enum, rangeD_I, compG_some, compG_all, dL_sh, dL_sh', map_sh, foldI, foldI1, addL, -List.map_cons, -List.map_append, -List.map_map, -List.map_take, -List.map_drop, -List.map_reverse, Rd2, biLen, biLenT, biListL, biSorted, biMax2, biMin2, biInt, isD1, isD2, G__law_case_right, hlast, map_lists, lists_fold, add44, add81, e1] <;> rfl) ?_
    refine .nx (by simp [evS, haa] <;> rfl) ?_
    refine .nx (by
      simp [evSs, evS, evX, evXs, evXan, evXor, evXo, evXc, evXt, evp, evs, evAnd, evOr, evo, evc, evi, ShR, AlR, shS, alS, O.pu, O.puL, O.d, O.dL, Ro1, Ro2, Ro3, Ro4, Rd1, Rd2, Rd3, Rd4, Rf1, Rf2, Rf3, Rf4, iteB1, iteB2, iteR1, iteR, iteBl, iteIn, D.fl, D.flL, asB1, asO1, at21, getAll, setAll, unS, frz1, frzS, backS, bT1, bT2, bT3, bT4, bT5, bO1, bO2, bO3, bO4, bO5, bO6, bO7, bO8, bO9, C.d, oAdd, oSub, oMul1, oMul2, oMulC, oMod, oFdiv, itemsD, ixL, ixT, ai0, ai1, ai2, putL, xn0, xn1, xn2, cEq, cLt, cLe, cGt, cGe, cNe, addNL, addNR, start0_eq, mapS, mapD, foldO, pmapE, pmap, Tg.ids, Tgs.ids, biAll, LIM, ok_non, ok_bl, ok_int, ok_lst, ok_tup, okn_non, okn_bl, okn_int, okn_lst, okn_tup, okn_ints, okn_ints', flL_ints, mapOI, flL_mapI, eqv_int, eqv_bl, eqv_LI, eqD_LI, eqD_nilI, filterT, eqD_nil0, eqD_int, eqD_bl, cEqD, cNeD, cIn, cNin, cIs, cIsn, inD_LI, inD_nilI, ints?_map, ints?_ints, atI_map, atI_nat, cutL_map, slD_map, compL_map, compL_enum, rangeD_I, compG_some, compG_all, dL_sh, dL_sh', map_sh, foldI, foldI1, addL, -List.map_cons, -List.map_append, -List.map_map, -List.map_take, -List.map_drop, -List.map_reverse, Rd2, biLen, biLenT, biListL, biSorted, biMax2, biMin2, biInt, isD1, isD2, G__law_case_right, lists_fold, map_lists]
      rw [comp_lists (fun t => D.int ((otherw (kO order) t : Nat) : Int)) fun t ht => by simp [p_law_otherwise (fun x hx => (runL_mem h ht).mem_iff.mp hx) (show t.length ≤ 100 by rw [(runL_mem h ht).length_eq]; omega), Rd1]]
      simp [evSs, evS, evX, evXs, evXan, evXor, evXo, evXc, evXt, evp, evs, evAnd, evOr, evo, evc, evi, ShR, AlR, shS, alS, O.pu, O.puL, O.d, O.dL, Ro1, Ro2, Ro3, Ro4, Rd1, Rd2, Rd3, Rd4, Rf1, Rf2, Rf3, Rf4, iteB1, iteB2, iteR1, iteR, iteBl, iteIn, D.fl, D.flL, asB1, asO1, at21, getAll, setAll, unS, frz1, frzS, backS, bT1, bT2, bT3, bT4, bT5, bO1, bO2, bO3, bO4, bO5, bO6, bO7, bO8, bO9, C.d, oAdd, oSub, oMul1, oMul2, oMulC, oMod, oFdiv, itemsD, ixL, ixT, ai0, ai1, ai2, putL, xn0, xn1, xn2, cEq, cLt, cLe, cGt, cGe, cNe, addNL, addNR, start0_eq, mapS, mapD, foldO, pmapE, pmap, Tg.ids, Tgs.ids, biAll, LIM, ok_non, ok_bl, ok_int, ok_lst, ok_tup, okn_non, okn_bl, okn_int, okn_lst, okn_tup, okn_ints, okn_ints', flL_ints, mapOI, flL_mapI, eqv_int, eqv_bl, eqv_LI, eqD_LI, eqD_nilI, filterT, eqD_nil0, eqD_int, eqD_bl, cEqD, cNeD, cIn, cNin, cIs, cIsn, inD_LI, inD_nilI, ints?_map, ints?_ints, atI_map, atI_nat, cutL_map, slD_map, compL_map, compL_enum, rangeD_I, compG_some, compG_all, dL_sh, dL_sh', map_sh, foldI, foldI1, addL, -List.map_cons, -List.map_append, -List.map_map, -List.map_take, -List.map_drop, -List.map_reverse, Rd2, biLen, biLenT, biListL, biSorted, biMax2, biMin2, biInt, isD1, isD2, hpot, flL_ints] <;> rfl) ?_
    refine .nx (by simp [evSs, evS, evX, evXs, evXan, evXor, evXo, evXc, evXt, evp, evs, evAnd, evOr, evo, evc, evi, ShR, AlR, shS, alS, O.pu, O.puL, O.d, O.dL, Ro1, Ro2, Ro3, Ro4, Rd1, Rd2, Rd3, Rd4, Rf1, Rf2, Rf3, Rf4, iteB1, iteB2, iteR1, iteR, iteBl, iteIn, D.fl, D.flL, asB1, asO1, at21, getAll, setAll, unS, frz1, frzS, backS, bT1, bT2, bT3, bT4, bT5, bO1, bO2, bO3, bO4, bO5, bO6, bO7, bO8, bO9, C.d, oAdd, oSub, oMul1, oMul2, oMulC, oMod, oFdiv, itemsD, ixL, ixT, ai0, ai1, ai2, putL, xn0, xn1, xn2, cEq, cLt, cLe, cGt, cGe, cNe, addNL, addNR, start0_eq, mapS, mapD, foldO, pmapE, pmap, Tg.ids, Tgs.ids, biAll, LIM, ok_non, ok_bl, ok_int, ok_lst, ok_tup, okn_non, okn_bl, okn_int, okn_lst, okn_tup, okn_ints, okn_ints', flL_ints, mapOI, flL_mapI, eqv_int, eqv_bl, eqv_LI, eqD_LI, eqD_nilI, filterT, eqD_nil0, eqD_int, eqD_bl, cEqD, cNeD, cIn, cNin, cIs, cIsn, inD_LI, inD_nilI, ints?_map, ints?_ints, atI_map, atI_nat, cutL_map, slD_map, compL_map, compL_enum, rangeD_I, compG_some, compG_all, dL_sh, dL_sh', map_sh, foldI, foldI1, addL, -List.map_cons, -List.map_append, -List.map_map, -List.map_take, -List.map_drop, -List.map_reverse, Rd2, biLen, biLenT, biListL, biSorted, biMax2, biMin2, biInt, isD1, isD2, G__law_case_right, biSum] <;> rfl) ?_
    refine .nx (by simp [evSs, evS, evX, evXs, evXan, evXor, evXo, evXc, evXt, evp, evs, evAnd, evOr, evo, evc, evi, ShR, AlR, shS, alS, O.pu, O.puL, O.d, O.dL, Ro1, Ro2, Ro3, Ro4, Rd1, Rd2, Rd3, Rd4, Rf1, Rf2, Rf3, Rf4, iteB1, iteB2, iteR1, iteR, iteBl, iteIn, D.fl, D.flL, asB1, asO1, at21, getAll, setAll, unS, frz1, frzS, backS, bT1, bT2, bT3, bT4, bT5, bO1, bO2, bO3, bO4, bO5, bO6, bO7, bO8, bO9, C.d, oAdd, oSub, oMul1, oMul2, oMulC, oMod, oFdiv, itemsD, ixL, ixT, ai0, ai1, ai2, putL, xn0, xn1, xn2, cEq, cLt, cLe, cGt, cGe, cNe, addNL, addNR, start0_eq, mapS, mapD, foldO, pmapE, pmap, Tg.ids, Tgs.ids, biAll, LIM, ok_non, ok_bl, ok_int, ok_lst, ok_tup, okn_non, okn_bl, okn_int, okn_lst, okn_tup, okn_ints, okn_ints', flL_ints, mapOI, flL_mapI, eqv_int, eqv_bl, eqv_LI, eqD_LI, eqD_nilI, filterT, eqD_nil0, eqD_int, eqD_bl, cEqD, cNeD, cIn, cNin, cIs, cIsn, inD_LI, inD_nilI, ints?_map, ints?_ints, atI_map, atI_nat, cutL_map, slD_map, compL_map, compL_enum, rangeD_I, compG_some, compG_all, dL_sh, dL_sh', map_sh, foldI, foldI1, addL, -List.map_cons, -List.map_append, -List.map_map, -List.map_take, -List.map_drop, -List.map_reverse, Rd2, biLen, biLenT, biListL, biSorted, biMax2, biMin2, biInt, isD1, isD2, G__law_case_right, p_potentials h, b1, e2, biSum, show ¬ 2 * (fixI row order).sum - row.length < (costs row order).sum by omega] <;> rfl) ?_
    obtain ⟨ρ1, hW, k14, k15, rfl⟩ := lw1 (o := o) h _ _ _ _ _ _ _ _ _ _ _ _ _ _ _ _ _ _
    refine .nx hW ?_
    refine .nx (by simp [evSs, evS, evX, evXs, evXan, evXor, evXo, evXc, evXt, evp, evs, evAnd, evOr, evo, evc, evi, ShR, AlR, shS, alS, O.pu, O.puL, O.d, O.dL, Ro1, Ro2, Ro3, Ro4, Rd1, Rd2, Rd3, Rd4, Rf1, Rf2, Rf3, Rf4, iteB1, iteB2, iteR1, iteR, iteBl, iteIn, D.fl, D.flL, asB1, asO1, at21, getAll, setAll, unS, frz1, frzS, backS, bT1, bT2, bT3, bT4, bT5, bO1, bO2, bO3, bO4, bO5, bO6, bO7, bO8, bO9, C.d, oAdd, oSub, oMul1, oMul2, oMulC, oMod, oFdiv, itemsD, ixL, ixT, ai0, ai1, ai2, putL, xn0, xn1, xn2, cEq, cLt, cLe, cGt, cGe, cNe, addNL, addNR, start0_eq, mapS, mapD, foldO, pmapE, pmap, Tg.ids, Tgs.ids, biAll, LIM, ok_non, ok_bl, ok_int, ok_lst, ok_tup, okn_non, okn_bl, okn_int, okn_lst, okn_tup, okn_ints, okn_ints', flL_ints, mapOI, flL_mapI, eqv_int, eqv_bl, eqv_LI, eqD_LI, eqD_nilI, filterT, eqD_nil0, eqD_int, eqD_bl, cEqD, cNeD, cIn, cNin, cIs, cIsn, inD_LI, inD_nilI, ints?_map, ints?_ints, atI_map, atI_nat, cutL_map, slD_map, compL_map, compL_enum, rangeD_I, compG_some, compG_all, dL_sh, dL_sh', map_sh, foldI, foldI1, addL, -List.map_cons, -List.map_append, -List.map_map, -List.map_take, -List.map_drop, -List.map_reverse, Rd2, biLen, biLenT, biListL, biSorted, biMax2, biMin2, biInt, isD1, isD2, G__law_case_right, biSum] <;> rfl) ?_
    refine .nx (by simp [evSs, evS, evX, evXs, evXan, evXor, evXo, evXc, evXt, evp, evs, evAnd, evOr, evo, evc, evi, ShR, AlR, shS, alS, O.pu, O.puL, O.d, O.dL, Ro1, Ro2, Ro3, Ro4, Rd1, Rd2, Rd3, Rd4, Rf1, Rf2, Rf3, Rf4, iteB1, iteB2, iteR1, iteR, iteBl, iteIn, D.fl, D.flL, asB1, asO1, at21, getAll, setAll, unS, frz1, frzS, backS, bT1, bT2, bT3, bT4, bT5, bO1, bO2, bO3, bO4, bO5, bO6, bO7, bO8, bO9, C.d, oAdd, oSub, oMul1, oMul2, oMulC, oMod, oFdiv, itemsD, ixL, ixT, ai0, ai1, ai2, putL, xn0, xn1, xn2, cEq, cLt, cLe, cGt, cGe, cNe, addNL, addNR, start0_eq, mapS, mapD, foldO, pmapE, pmap, Tg.ids, Tgs.ids, biAll, LIM, ok_non, ok_bl, ok_int, ok_lst, ok_tup, okn_non, okn_bl, okn_int, okn_lst, okn_tup, okn_ints, okn_ints', flL_ints, mapOI, flL_mapI, eqv_int, eqv_bl, eqv_LI, eqD_LI, eqD_nilI, filterT, eqD_nil0, eqD_int, eqD_bl, cEqD, cNeD, cIn, cNin, cIs, cIsn, inD_LI, inD_nilI, ints?_map, ints?_ints, atI_map, atI_nat, cutL_map, slD_map, compL_map, compL_enum, rangeD_I, compG_some, compG_all, dL_sh, dL_sh', map_sh, foldI, foldI1, addL, -List.map_cons, -List.map_append, -List.map_map, -List.map_take, -List.map_drop, -List.map_reverse, Rd2, biLen, biLenT, biListL, biSorted, biMax2, biMin2, biInt, isD1, isD2, G__law_case_right, p_sums_by_pairs h, e3] <;> rfl) ?_
    have hq : ∀ (s3 s4 s5 s6 s7 s8 s9 s10 s11 s12 s13 s14 s15 s16 s21 s22 s23 : Option O), ∃ (o' : O) (k17 k18 k19 k20 : Option O), Gen n o' ∧ evS G__law_case_right (.ite (.p (.c2 .gt (.bi .len (.cons (.v 2) .nil)) (.k (.int 1)))) (.cons W__law_case_right_2 .nil) .nil) [some o, some (.sh (.lst (row.map .int))), some (.sh (.lst (order.map .int))), s3, s4, s5, s6, s7, s8, s9, s10, s11, s12, s13, s14, s15, s16, none, none, none, none, s21, s22, s23] = some (.nx [some o', some (.sh (.lst (row.map .int))), some (.sh (.lst (order.map .int))), s3, s4, s5, s6, s7, s8, s9, s10, s11, s12, s13, s14, s15, s16, k17, k18, k19, k20, s21, s22, s23]) := by
      intro s3 s4 s5 s6 s7 s8 s9 s10 s11 s12 s13 s14 s15 s16 s21 s22 s23
      by_cases c2 : 1 < order.length
      · obtain ⟨ρ2, hW2, o', k17, k18, k19, k20, rfl, g'⟩ := lw2 (n := n) (o := o) h c2 (hg.weak (by omega)) s3 s4 s5 s6 s7 s8 s9 s10 s11 s12 s13 s14 s15 s16 none none none none s21 s22 s23
        have c2' : (1 : Int) < (order.length : Int) := by omega
        exact ⟨o', k17, k18, k19, k20, g', by
          simp [evS, evX, at2, evp, evs, ShR, AlR, shS, alS, O.pu, biLen, C.d, cGt, c2', iteB1, asBO, Ro1, Rd1, asO1]
          simp [evSs, hW2]⟩
      · have c2' : ¬ (1 : Int) < (order.length : Int) := by omega
        refine ⟨o, none, none, none, none, hg.weak (by omega), ?_⟩
        simp [evS, evX, at2, evp, evs, ShR, AlR, shS, alS, O.pu, biLen, C.d, cGt, c2', iteB1, asBO, Ro1, Rd1, asO1, evSs]
    obtain ⟨o', k17, k18, k19, k20, g', hQ⟩ := hq _ _ _ _ _ _ _ _ _ _ _ _ _ _ _ _ _
    refine .nx hQ ?_
    refine .nx (by simp [evSs, evS, evX, evXs, evXan, evXor, evXo, evXc, evXt, evp, evs, evAnd, evOr, evo, evc, evi, ShR, AlR, shS, alS, O.pu, O.puL, O.d, O.dL, Ro1, Ro2, Ro3, Ro4, Rd1, Rd2, Rd3, Rd4, Rf1, Rf2, Rf3, Rf4, iteB1, iteB2, iteR1, iteR, iteBl, iteIn, D.fl, D.flL, asB1, asO1, at21, getAll, setAll, unS, frz1, frzS, backS, bT1, bT2, bT3, bT4, bT5, bO1, bO2, bO3, bO4, bO5, bO6, bO7, bO8, bO9, C.d, oAdd, oSub, oMul1, oMul2, oMulC, oMod, oFdiv, itemsD, ixL, ixT, ai0, ai1, ai2, putL, xn0, xn1, xn2, cEq, cLt, cLe, cGt, cGe, cNe, addNL, addNR, start0_eq, mapS, mapD, foldO, pmapE, pmap, Tg.ids, Tgs.ids, biAll, LIM, ok_non, ok_bl, ok_int, ok_lst, ok_tup, okn_non, okn_bl, okn_int, okn_lst, okn_tup, okn_ints, okn_ints', flL_ints, mapOI, flL_mapI, eqv_int, eqv_bl, eqv_LI, eqD_LI, eqD_nilI, filterT, eqD_nil0, eqD_int, eqD_bl, cEqD, cNeD, cIn, cNin, cIs, cIsn, inD_LI, inD_nilI, ints?_map, ints?_ints, atI_map, atI_nat, cutL_map, slD_map, compL_map, compL_enum, rangeD_I, compG_some, compG_all, dL_sh, dL_sh', map_sh, foldI, foldI1, addL, -List.map_cons, -List.map_append, -List.map_map, -List.map_take, -List.map_drop, -List.map_reverse, Rd2, biLen, biLenT, biListL, biSorted, biMax2, biMin2, biInt, isD1, isD2, G__law_case_right, p_best_fixed h] <;> rfl) ?_
    refine .nx (by simp [evSs, evS, evX, evXs, evXan, evXor, evXo, evXc, evXt, evp, evs, evAnd, evOr, evo, evc, evi, ShR, AlR, shS, alS, O.pu, O.puL, O.d, O.dL, Ro1, Ro2, Ro3, Ro4, Rd1, Rd2, Rd3, Rd4, Rf1, Rf2, Rf3, Rf4, iteB1, iteB2, iteR1, iteR, iteBl, iteIn, D.fl, D.flL, asB1, asO1, at21, getAll, setAll, unS, frz1, frzS, backS, bT1, bT2, bT3, bT4, bT5, bO1, bO2, bO3, bO4, bO5, bO6, bO7, bO8, bO9, C.d, oAdd, oSub, oMul1, oMul2, oMulC, oMod, oFdiv, itemsD, ixL, ixT, ai0, ai1, ai2, putL, xn0, xn1, xn2, cEq, cLt, cLe, cGt, cGe, cNe, addNL, addNR, start0_eq, mapS, mapD, foldO, pmapE, pmap, Tg.ids, Tgs.ids, biAll, LIM, ok_non, ok_bl, ok_int, ok_lst, ok_tup, okn_non, okn_bl, okn_int, okn_lst, okn_tup, okn_ints, okn_ints', flL_ints, mapOI, flL_mapI, eqv_int, eqv_bl, eqv_LI, eqD_LI, eqD_nilI, filterT, eqD_nil0, eqD_int, eqD_bl, cEqD, cNeD, cIn, cNin, cIs, cIsn, inD_LI, inD_nilI, ints?_map, ints?_ints, atI_map, atI_nat, cutL_map, slD_map, compL_map, compL_enum, rangeD_I, compG_some, compG_all, dL_sh, dL_sh', map_sh, foldI, foldI1, addL, -List.map_cons, -List.map_append, -List.map_map, -List.map_take, -List.map_drop, -List.map_reverse, Rd2, biLen, biLenT, biListL, biSorted, biMax2, biMin2, biInt, isD1, isD2, G__law_case_right, show row.length < 64 by omega] <;> rfl) ?_
    refine .nx (by simp [evSs, evS, evX, evXs, evXan, evXor, evXo, evXc, evXt, evp, evs, evAnd, evOr, evo, evc, evi, ShR, AlR, shS, alS, O.pu, O.puL, O.d, O.dL, Ro1, Ro2, Ro3, Ro4, Rd1, Rd2, Rd3, Rd4, Rf1, Rf2, Rf3, Rf4, iteB1, iteB2, iteR1, iteR, iteBl, iteIn, D.fl, D.flL, asB1, asO1, at21, getAll, setAll, unS, frz1, frzS, backS, bT1, bT2, bT3, bT4, bT5, bO1, bO2, bO3, bO4, bO5, bO6, bO7, bO8, bO9, C.d, oAdd, oSub, oMul1, oMul2, oMulC, oMod, oFdiv, itemsD, ixL, ixT, ai0, ai1, ai2, putL, xn0, xn1, xn2, cEq, cLt, cLe, cGt, cGe, cNe, addNL, addNR, start0_eq, mapS, mapD, foldO, pmapE, pmap, Tg.ids, Tgs.ids, biAll, LIM, ok_non, ok_bl, ok_int, ok_lst, ok_tup, okn_non, okn_bl, okn_int, okn_lst, okn_tup, okn_ints, okn_ints', flL_ints, mapOI, flL_mapI, eqv_int, eqv_bl, eqv_LI, eqD_LI, eqD_nilI, filterT, eqD_nil0, eqD_int, eqD_bl, cEqD, cNeD, cIn, cNin, cIs, cIsn, inD_LI, inD_nilI, ints?_map, ints?_ints, atI_map, atI_nat, cutL_map, slD_map, compL_map, compL_enum, rangeD_I, compG_some, compG_all, dL_sh, dL_sh', map_sh, foldI, foldI1, addL, -List.map_cons, -List.map_append, -List.map_map, -List.map_take, -List.map_drop, -List.map_reverse, Rd2, biLen, biLenT, biListL, biSorted, biMax2, biMin2, biInt, isD1, isD2, G__law_case_right, hth, sk_fold, p_best_fixed h, e4] <;> rfl) ?_
    by_cases c6 : (isort (dedupI row)).length < 6
    · have c6' : ((isort (dedupI row)).length : Int) < 6 := by omega
      have hmin : biD .min [.lst ((ords 6 (isort (dedupI row))).map fun l => .int (fixI row l).sum)] = some (.sh (.int (fixI row (bestI row)).sum)) := by
        have hb := ords_all (n := 6) (show (isort (dedupI row)).length ≤ 6 by omega) (bestI_perm row)
        have hne : (ords 6 (isort (dedupI row))).map (fun l => (fixI row l).sum) ≠ [] := fun e => by
          rw [List.map_eq_nil_iff] at e; rw [e] at hb; exact absurd hb (by simp)
        simp only [biD, ints?_map, Option.bind_some, if_neg hne, least_ok (row := row) 6 (by omega)]
      have po := p_law_orders (n := 6) (t := isort (dedupI row)) (by omega) (by omega)
      refine .nx (by
        simp [evSs, evS, evX, evXs, evXan, evXor, evXo, evXc, evXt, evp, evs, evAnd, evOr, evo, evc, evi, ShR, AlR, shS, alS, O.pu, O.puL, O.d, O.dL, Ro1, Ro2, Ro3, Ro4, Rd1, Rd2, Rd3, Rd4, Rf1, Rf2, Rf3, Rf4, iteB1, iteB2, iteR1, iteR, iteBl, iteIn, D.fl, D.flL, asB1, asO1, at21, getAll, setAll, unS, frz1, frzS, backS, bT1, bT2, bT3, bT4, bT5, bO1, bO2, bO3, bO4, bO5, bO6, bO7, bO8, bO9, C.d, oAdd, oSub, oMul1, oMul2, oMulC, oMod, oFdiv, itemsD, ixL, ixT, ai0, ai1, ai2, putL, xn0, xn1, xn2, cEq, cLt, cLe, cGt, cGe, cNe, addNL, addNR, start0_eq, mapS, mapD, foldO, pmapE, pmap, Tg.ids, Tgs.ids, biAll, LIM, ok_non, ok_bl, ok_int, ok_lst, ok_tup, okn_non, okn_bl, okn_int, okn_lst, okn_tup, okn_ints, okn_ints', flL_ints, mapOI, flL_mapI, eqv_int, eqv_bl, eqv_LI, eqD_LI, eqD_nilI, filterT, eqD_nil0, eqD_int, eqD_bl, cEqD, cNeD, cIn, cNin, cIs, cIsn, inD_LI, inD_nilI, ints?_map, ints?_ints, atI_map, atI_nat, cutL_map, slD_map, compL_map, compL_enum, rangeD_I, compG_some, compG_all, dL_sh, dL_sh', map_sh, foldI, foldI1, addL, -List.map_cons, -List.map_append, -List.map_map, -List.map_take, -List.map_drop, -List.map_reverse, Rd2, biLen, biLenT, biListL, biSorted, biMax2, biMin2, biInt, isD1, isD2, G__law_case_right, c6', po, meD]
        rw [comp_lists (fun l => D.int (fixI row l).sum) fun l hl => by
          simp [hfx l fun x hx => by rw [(ords_perm (show (isort (dedupI row)).length ≤ 6 by omega) hl).mem_iff, (isort_perm _).mem_iff, mem_dedupI]; exact hx, Rd2, biSum, Rd1]]
        simp [evSs, evS, evX, evXs, evXan, evXor, evXo, evXc, evXt, evp, evs, evAnd, evOr, evo, evc, evi, ShR, AlR, shS, alS, O.pu, O.puL, O.d, O.dL, Ro1, Ro2, Ro3, Ro4, Rd1, Rd2, Rd3, Rd4, Rf1, Rf2, Rf3, Rf4, iteB1, iteB2, iteR1, iteR, iteBl, iteIn, D.fl, D.flL, asB1, asO1, at21, getAll, setAll, unS, frz1, frzS, backS, bT1, bT2, bT3, bT4, bT5, bO1, bO2, bO3, bO4, bO5, bO6, bO7, bO8, bO9, C.d, oAdd, oSub, oMul1, oMul2, oMulC, oMod, oFdiv, itemsD, ixL, ixT, ai0, ai1, ai2, putL, xn0, xn1, xn2, cEq, cLt, cLe, cGt, cGe, cNe, addNL, addNR, start0_eq, mapS, mapD, foldO, pmapE, pmap, Tg.ids, Tgs.ids, biAll, LIM, ok_non, ok_bl, ok_int, ok_lst, ok_tup, okn_non, okn_bl, okn_int, okn_lst, okn_tup, okn_ints, okn_ints', flL_ints, mapOI, flL_mapI, eqv_int, eqv_bl, eqv_LI, eqD_LI, eqD_nilI, filterT, eqD_nil0, eqD_int, eqD_bl, cEqD, cNeD, cIn, cNin, cIs, cIsn, inD_LI, inD_nilI, ints?_map, ints?_ints, atI_map, atI_nat, cutL_map, slD_map, compL_map, compL_enum, rangeD_I, compG_some, compG_all, dL_sh, dL_sh', map_sh, foldI, foldI1, addL, -List.map_cons, -List.map_append, -List.map_map, -List.map_take, -List.map_drop, -List.map_reverse, Rd2, biLen, biLenT, biListL, biSorted, biMax2, biMin2, biInt, isD1, isD2, hmin, meD, hfx (bestI row) (fun x hx => mem_best.mpr hx), biSum] <;> rfl) ?_
      exact .rt (by simp [evSs, evS, evX, evXs, evXan, evXor, evXo, evXc, evXt, evp, evs, evAnd, evOr, evo, evc, evi, ShR, AlR, shS, alS, O.pu, O.puL, O.d, O.dL, Ro1, Ro2, Ro3, Ro4, Rd1, Rd2, Rd3, Rd4, Rf1, Rf2, Rf3, Rf4, iteB1, iteB2, iteR1, iteR, iteBl, iteIn, D.fl, D.flL, asB1, asO1, at21, getAll, setAll, unS, frz1, frzS, backS, bT1, bT2, bT3, bT4, bT5, bO1, bO2, bO3, bO4, bO5, bO6, bO7, bO8, bO9, C.d, oAdd, oSub, oMul1, oMul2, oMulC, oMod, oFdiv, itemsD, ixL, ixT, ai0, ai1, ai2, putL, xn0, xn1, xn2, cEq, cLt, cLe, cGt, cGe, cNe, addNL, addNR, start0_eq, mapS, mapD, foldO, pmapE, pmap, Tg.ids, Tgs.ids, biAll, LIM, ok_non, ok_bl, ok_int, ok_lst, ok_tup, okn_non, okn_bl, okn_int, okn_lst, okn_tup, okn_ints, okn_ints', flL_ints, mapOI, flL_mapI, eqv_int, eqv_bl, eqv_LI, eqD_LI, eqD_nilI, filterT, eqD_nil0, eqD_int, eqD_bl, cEqD, cNeD, cIn, cNin, cIs, cIsn, inD_LI, inD_nilI, ints?_map, ints?_ints, atI_map, atI_nat, cutL_map, slD_map, compL_map, compL_enum, rangeD_I, compG_some, compG_all, dL_sh, dL_sh', map_sh, foldI, foldI1, addL, -List.map_cons, -List.map_append, -List.map_map, -List.map_take, -List.map_drop, -List.map_reverse, Rd2, biLen, biLenT, biListL, biSorted, biMax2, biMin2, biInt, isD1, isD2] <;> rfl) ⟨o', by simp, g'⟩
    · have c6' : ¬ ((isort (dedupI row)).length : Int) < 6 := by omega
      refine .nx (by simp [evSs, evS, evX, evXs, evXan, evXor, evXo, evXc, evXt, evp, evs, evAnd, evOr, evo, evc, evi, ShR, AlR, shS, alS, O.pu, O.puL, O.d, O.dL, Ro1, Ro2, Ro3, Ro4, Rd1, Rd2, Rd3, Rd4, Rf1, Rf2, Rf3, Rf4, iteB1, iteB2, iteR1, iteR, iteBl, iteIn, D.fl, D.flL, asB1, asO1, at21, getAll, setAll, unS, frz1, frzS, backS, bT1, bT2, bT3, bT4, bT5, bO1, bO2, bO3, bO4, bO5, bO6, bO7, bO8, bO9, C.d, oAdd, oSub, oMul1, oMul2, oMulC, oMod, oFdiv, itemsD, ixL, ixT, ai0, ai1, ai2, putL, xn0, xn1, xn2, cEq, cLt, cLe, cGt, cGe, cNe, addNL, addNR, start0_eq, mapS, mapD, foldO, pmapE, pmap, Tg.ids, Tgs.ids, biAll, LIM, ok_non, ok_bl, ok_int, ok_lst, ok_tup, okn_non, okn_bl, okn_int, okn_lst, okn_tup, okn_ints, okn_ints', flL_ints, mapOI, flL_mapI, eqv_int, eqv_bl, eqv_LI, eqD_LI, eqD_nilI, filterT, eqD_nil0, eqD_int, eqD_bl, cEqD, cNeD, cIn, cNin, cIs, cIsn, inD_LI, inD_nilI, ints?_map, ints?_ints, atI_map, atI_nat, cutL_map, slD_map, compL_map, compL_enum, rangeD_I, compG_some, compG_all, dL_sh, dL_sh', map_sh, foldI, foldI1, addL, -List.map_cons, -List.map_append, -List.map_map, -List.map_take, -List.map_drop, -List.map_reverse, Rd2, biLen, biLenT, biListL, biSorted, biMax2, biMin2, biInt, isD1, isD2, G__law_case_right, c6'] <;> rfl) ?_
      exact .rt (by simp [evSs, evS, evX, evXs, evXan, evXor, evXo, evXc, evXt, evp, evs, evAnd, evOr, evo, evc, evi, ShR, AlR, shS, alS, O.pu, O.puL, O.d, O.dL, Ro1, Ro2, Ro3, Ro4, Rd1, Rd2, Rd3, Rd4, Rf1, Rf2, Rf3, Rf4, iteB1, iteB2, iteR1, iteR, iteBl, iteIn, D.fl, D.flL, asB1, asO1, at21, getAll, setAll, unS, frz1, frzS, backS, bT1, bT2, bT3, bT4, bT5, bO1, bO2, bO3, bO4, bO5, bO6, bO7, bO8, bO9, C.d, oAdd, oSub, oMul1, oMul2, oMulC, oMod, oFdiv, itemsD, ixL, ixT, ai0, ai1, ai2, putL, xn0, xn1, xn2, cEq, cLt, cLe, cGt, cGe, cNe, addNL, addNR, start0_eq, mapS, mapD, foldO, pmapE, pmap, Tg.ids, Tgs.ids, biAll, LIM, ok_non, ok_bl, ok_int, ok_lst, ok_tup, okn_non, okn_bl, okn_int, okn_lst, okn_tup, okn_ints, okn_ints', flL_ints, mapOI, flL_mapI, eqv_int, eqv_bl, eqv_LI, eqD_LI, eqD_nilI, filterT, eqD_nil0, eqD_int, eqD_bl, cEqD, cNeD, cIn, cNin, cIs, cIsn, inD_LI, inD_nilI, ints?_map, ints?_ints, atI_map, atI_nat, cutL_map, slD_map, compL_map, compL_enum, rangeD_I, compG_some, compG_all, dL_sh, dL_sh', map_sh, foldI, foldI1, addL, -List.map_cons, -List.map_append, -List.map_map, -List.map_take, -List.map_drop, -List.map_reverse, Rd2, biLen, biLenT, biListL, biSorted, biMax2, biMin2, biInt, isD1, isD2] <;> rfl) ⟨o', by simp, g'⟩
  obtain ⟨ρ', hρ, o', h0, g'⟩ := main
  exact ⟨o', run_rt rfl rfl rfl hρ (by simp [List.range, List.range.loop, getAll, h0]), g'⟩
end L46
end KP
/-! K46m: the law is true at every script. -/
namespace KP
namespace L46
open PySem L2 Com
theorem few26 {l : List Int} (nd : l.Nodup) (h : ∀ x ∈ l, 0 ≤ x ∧ x < 26) : l.length ≤ 26 := by
  have h2 : (l.map Int.toNat).Nodup := by
    rw [List.nodup_iff_pairwise_ne, List.pairwise_map]
    refine (List.nodup_iff_pairwise_ne.mp nd).imp_of_mem fun {a b} ha hb ne e => ne ?_
    have := h a ha; have := h b hb; omega
  have := few_ahead (n := 26) h2 fun x hx => by
    obtain ⟨y, hy, rfl⟩ := List.mem_map.mp hx
    have := h y hy; omega
  simpa using this
theorem oc_of {most things : Int} {row ord order : List Int} {k : Nat} (hr : RowOk most things row) (hm : most ≤ 60) (ho : ord.Perm (iran 0 26)) (hp : order.Perm (isort (dedupI row) ++ ((ord.filter fun x => !decide (x ∈ row)).take k))) : OC row order := by
  have ndo : ord.Nodup := ho.nodup_iff.mpr (iran_nodup 0 26)
  have hf : ∀ x ∈ (ord.filter fun x => !decide (x ∈ row)).take k, x ∉ row ∧ 0 ≤ x ∧ x < 26 := fun x hx => by
    have h1 := List.mem_filter.mp (List.mem_of_mem_take hx)
    have h2 := mem_iran.mp (ho.mem_iff.mp h1.1)
    exact ⟨by simpa using h1.2, h2⟩
  have hth : ∀ x, x ∈ isort (dedupI row) ↔ x ∈ row := fun x => by rw [(isort_perm _).mem_iff, mem_dedupI]
  have nd : order.Nodup := hp.nodup_iff.mpr (by
    rw [List.nodup_append]
    refine ⟨nd_things row, (ndo.sublist List.filter_sublist).sublist (List.take_sublist _ _), fun a ha b hb e => ?_⟩
    subst e
    exact (hf _ hb).1 ((hth _).mp ha))
  have hot : ∀ x ∈ order, 0 ≤ x ∧ x < 26 := fun x hx => by
    rcases List.mem_append.mp (hp.mem_iff.mp hx) with h | h
    · exact hr.rng x ((hth x).mp h)
    · exact (hf x h).2
  exact ⟨hr.pos, by have := hr.len; omega, hr.rng, nd, hot, fun x hx => hp.mem_iff.mpr (List.mem_append.mpr (.inl ((hth x).mpr hx))), few26 nd hot⟩
theorem law_step {n : Nat} {i : Int} {o : O} (h0 : 0 ≤ i) (h3 : i < 3) (hg : Gen (n + 1000) o) (s0 s3 s4 s6 s7 : Option O) :
    ∃ (o' : O) (k3 k4 : Option O), evSs G_law Y_law_1 [s0, some o, some (.sh (.int i)), s3, s4, none, s6, s7] = some (.nx [s0, some o', some (.sh (.int i)), k3, k4, none, s6, s7]) ∧ Gen n o' := by
  obtain ⟨m, t, e1, e2, hm, ht⟩ : ∃ m t : Int, L2.atI ([10, 30, 60] : List Int) i = some m ∧ L2.atI ([4, 6, 8] : List Int) i = some t ∧ (0 < m ∧ m ≤ 60) ∧ (0 < t ∧ t ≤ 8) := by
    have : i = 0 ∨ i = 1 ∨ i = 2 := by omega
    rcases this with rfl | rfl | rfl
    · exact ⟨10, 4, rfl, rfl, by omega, by omega⟩
    · exact ⟨30, 6, rfl, rfl, by omega, by omega⟩
    · exact ⟨60, 8, rfl, rfl, by omega, by omega⟩
  have f1 : L2.atI [D.int 10, .int 30, .int 60] i = some (.int m) := by rw [show [D.int 10, .int 30, .int 60] = ([10, 30, 60] : List Int).map D.int from rfl, atI_map, e1]; rfl
  have f2 : L2.atI [D.int 4, .int 6, .int 8] i = some (.int t) := by rw [show [D.int 4, .int 6, .int 8] = ([4, 6, 8] : List Int).map D.int from rfl, atI_map, e2]; rfl
  obtain ⟨row, o1, d1, hr, g1⟩ := r_row (n := n + 800) (most := m) (things := t) hg (by omega) (by omega) (by omega) (by omega)
  have hlen := hr.len
  obtain ⟨ord, o2, d2, hp2, g2⟩ := r_order (m := n + 700) (o := o1) (xs := iran 0 26) (g1.weak (by rw [iran_length]; omega)) (by rw [iran_length]; omega)
  obtain ⟨x, o3, d3, x0, x1, g3⟩ := draw (n := n + 699) (k := 4) g2 (by omega) (by omega)
  have hll : (isort (dedupI row) ++ ((ord.filter fun x => !decide (x ∈ row)).take x.toNat)).length ≤ 90 := by
    rw [List.length_append, (isort_perm _).length_eq, List.length_take]
    have := dedupI_length row
    omega
  obtain ⟨order, o4, d4, hp4, g4⟩ := r_order (m := n + 500) (o := o3) (xs := isort (dedupI row) ++ ((ord.filter fun x => !decide (x ∈ row)).take x.toNat)) (g3.weak (by omega)) (by omega)
  have hC := oc_of hr (by omega) hp2 hp4
  obtain ⟨o5, d5, g5⟩ := case_right (n := n) (o := o4) hC (g4.weak (by omega))
  rw [List.length_append] at hll
  have hfl : (ord.filter fun x => !decide (x ∈ row)).length ≤ 100000 := by
    have := List.length_filter_le (fun x => !decide (x ∈ row)) ord
    have := hp2.length_eq
    rw [iran_length] at this
    omega
  have hl3 : (isort (dedupI row)).length + min x.toNat (ord.filter fun x => !decide (x ∈ row)).length ≤ 100000 := by
    rw [← List.length_take]; omega
  refine ⟨o5, some (.sh (.lst (row.map .int))), some (.ol (((ord.filter fun x => !decide (x ∈ row)).take x.toNat).map fun x => .sh (.int x))), ?_, g5⟩
  refine step_nx (by simp [evSs, evS, evX, evXs, evXan, evXor, evXo, evXc, evXt, evp, evs, evAnd, evOr, evo, evc, evi, ShR, AlR, shS, alS, O.pu, O.puL, O.d, O.dL, Ro1, Ro2, Ro3, Ro4, Rd1, Rd2, Rd3, Rd4, Rf1, Rf2, Rf3, Rf4, iteB1, iteB2, iteR1, iteR, iteBl, iteIn, D.fl, D.flL, asB1, asO1, at21, getAll, setAll, unS, frz1, frzS, backS, bT1, bT2, bT3, bT4, bT5, bO1, bO2, bO3, bO4, bO5, bO6, bO7, bO8, bO9, C.d, oAdd, oSub, oMul1, oMul2, oMulC, oMod, oFdiv, itemsD, ixL, ixT, ai0, ai1, ai2, putL, xn0, xn1, xn2, cEq, cLt, cLe, cGt, cGe, cNe, addNL, addNR, start0_eq, mapS, mapD, foldO, pmapE, pmap, Tg.ids, Tgs.ids, biAll, LIM, ok_non, ok_bl, ok_int, ok_lst, ok_tup, okn_non, okn_bl, okn_int, okn_lst, okn_tup, okn_ints, okn_ints', flL_ints, mapOI, flL_mapI, eqv_int, eqv_bl, eqv_LI, eqD_LI, eqD_nilI, filterT, eqD_nil0, eqD_int, eqD_bl, cEqD, cNeD, cIn, cNin, cIs, cIsn, inD_LI, inD_nilI, ints?_map, ints?_ints, atI_map, atI_nat, cutL_map, slD_map, compL_map, compL_enum, rangeD_I, compG_some, compG_all, dL_sh, dL_sh', map_sh, foldI, foldI1, addL, -List.map_cons, -List.map_append, -List.map_map, -List.map_take, -List.map_drop, -List.map_reverse, Rd2, biLen, biLenT, biListL, biSorted, biMax2, biMin2, biInt, isD1, isD2, G_law, f1, f2, d1] <;> rfl) ?_
  refine step_nx (by
    simp [evSs, evS, evX, evXs, evXan, evXor, evXo, evXc, evXt, evp, evs, evAnd, evOr, evo, evc, evi, ShR, AlR, shS, alS, O.pu, O.puL, O.d, O.dL, Ro1, Ro2, Ro3, Ro4, Rd1, Rd2, Rd3, Rd4, Rf1, Rf2, Rf3, Rf4, iteB1, iteB2, iteR1, iteR, iteBl, iteIn, D.fl, D.flL, asB1, asO1, at21, getAll, setAll, unS, frz1, frzS, backS, bT1, bT2, bT3, bT4, bT5, bO1, bO2, bO3, bO4, bO5, bO6, bO7, bO8, bO9, C.d, oAdd, oSub, oMul1, oMul2, oMulC, oMod, oFdiv, itemsD, ixL, ixT, ai0, ai1, ai2, putL, xn0, xn1, xn2, cEq, cLt, cLe, cGt, cGe, cNe, addNL, addNR, start0_eq, mapS, mapD, foldO, pmapE, pmap, Tg.ids, Tgs.ids, biAll, LIM, ok_non, ok_bl, ok_int, ok_lst, ok_tup, okn_non, okn_bl, okn_int, okn_lst, okn_tup, okn_ints, okn_ints', flL_ints, mapOI, flL_mapI, eqv_int, eqv_bl, eqv_LI, eqD_LI, eqD_nilI, filterT, eqD_nil0, eqD_int, eqD_bl, cEqD, cNeD, cIn, cNin, cIs, cIsn, inD_LI, inD_nilI, ints?_map, ints?_ints, atI_map, atI_nat, cutL_map, slD_map, compL_map, compL_enum, rangeD_I, compG_some, compG_all, dL_sh, dL_sh', map_sh, foldI, foldI1, addL, -List.map_cons, -List.map_append, -List.map_map, -List.map_take, -List.map_drop, -List.map_reverse, Rd2, biLen, biLenT, biListL, biSorted, biMax2, biMin2, biInt, isD1, isD2, G_law, smallI, d2]
    rw [compX_filter (xs := ord) (e := D.int) (fun x => !decide (x ∈ row)) (fun x => .sh (.int x))]
    · simp [evSs, evS, evX, evXs, evXan, evXor, evXo, evXc, evXt, evp, evs, evAnd, evOr, evo, evc, evi, ShR, AlR, shS, alS, O.pu, O.puL, O.d, O.dL, Ro1, Ro2, Ro3, Ro4, Rd1, Rd2, Rd3, Rd4, Rf1, Rf2, Rf3, Rf4, iteB1, iteB2, iteR1, iteR, iteBl, iteIn, D.fl, D.flL, asB1, asO1, at21, getAll, setAll, unS, frz1, frzS, backS, bT1, bT2, bT3, bT4, bT5, bO1, bO2, bO3, bO4, bO5, bO6, bO7, bO8, bO9, C.d, oAdd, oSub, oMul1, oMul2, oMulC, oMod, oFdiv, itemsD, ixL, ixT, ai0, ai1, ai2, putL, xn0, xn1, xn2, cEq, cLt, cLe, cGt, cGe, cNe, addNL, addNR, start0_eq, mapS, mapD, foldO, pmapE, pmap, Tg.ids, Tgs.ids, biAll, LIM, ok_non, ok_bl, ok_int, ok_lst, ok_tup, okn_non, okn_bl, okn_int, okn_lst, okn_tup, okn_ints, okn_ints', flL_ints, mapOI, flL_mapI, eqv_int, eqv_bl, eqv_LI, eqD_LI, eqD_nilI, filterT, eqD_nil0, eqD_int, eqD_bl, cEqD, cNeD, cIn, cNin, cIs, cIsn, inD_LI, inD_nilI, ints?_map, ints?_ints, atI_map, atI_nat, cutL_map, slD_map, compL_map, compL_enum, rangeD_I, compG_some, compG_all, dL_sh, dL_sh', map_sh, foldI, foldI1, addL, -List.map_cons, -List.map_append, -List.map_map, -List.map_take, -List.map_drop, -List.map_reverse, Rd2, biLen, biLenT, biListL, biSorted, biMax2, biMin2, biInt, isD1, isD2, d3, cutL_to x0, hfl]
      rfl
    · intro y hy
      exact ⟨_, by simp [evSs, evS, evX, evXs, evXan, evXor, evXo, evXc, evXt, evp, evs, evAnd, evOr, evo, evc, evi, ShR, AlR, shS, alS, O.pu, O.puL, O.d, O.dL, Ro1, Ro2, Ro3, Ro4, Rd1, Rd2, Rd3, Rd4, Rf1, Rf2, Rf3, Rf4, iteB1, iteB2, iteR1, iteR, iteBl, iteIn, D.fl, D.flL, asB1, asO1, at21, getAll, setAll, unS, frz1, frzS, backS, bT1, bT2, bT3, bT4, bT5, bO1, bO2, bO3, bO4, bO5, bO6, bO7, bO8, bO9, C.d, oAdd, oSub, oMul1, oMul2, oMulC, oMod, oFdiv, itemsD, ixL, ixT, ai0, ai1, ai2, putL, xn0, xn1, xn2, cEq, cLt, cLe, cGt, cGe, cNe, addNL, addNR, start0_eq, mapS, mapD, foldO, pmapE, pmap, Tg.ids, Tgs.ids, biAll, LIM, ok_non, ok_bl, ok_int, ok_lst, ok_tup, okn_non, okn_bl, okn_int, okn_lst, okn_tup, okn_ints, okn_ints', flL_ints, mapOI, flL_mapI, eqv_int, eqv_bl, eqv_LI, eqD_LI, eqD_nilI, filterT, eqD_nil0, eqD_int, eqD_bl, cEqD, cNeD, cIn, cNin, cIs, cIsn, inD_LI, inD_nilI, ints?_map, ints?_ints, atI_map, atI_nat, cutL_map, slD_map, compL_map, compL_enum, rangeD_I, compG_some, compG_all, dL_sh, dL_sh', map_sh, foldI, foldI1, addL, -List.map_cons, -List.map_append, -List.map_map, -List.map_take, -List.map_drop, -List.map_reverse, Rd2, biLen, biLenT, biListL, biSorted, biMax2, biMin2, biInt, isD1, isD2] <;> rfl, by simp [evSs, evS, evX, evXs, evXan, evXor, evXo, evXc, evXt, evp, evs, evAnd, evOr, evo, evc, evi, ShR, AlR, shS, alS, O.pu, O.puL, O.d, O.dL, Ro1, Ro2, Ro3, Ro4, Rd1, Rd2, Rd3, Rd4, Rf1, Rf2, Rf3, Rf4, iteB1, iteB2, iteR1, iteR, iteBl, iteIn, D.fl, D.flL, asB1, asO1, at21, getAll, setAll, unS, frz1, frzS, backS, bT1, bT2, bT3, bT4, bT5, bO1, bO2, bO3, bO4, bO5, bO6, bO7, bO8, bO9, C.d, oAdd, oSub, oMul1, oMul2, oMulC, oMod, oFdiv, itemsD, ixL, ixT, ai0, ai1, ai2, putL, xn0, xn1, xn2, cEq, cLt, cLe, cGt, cGe, cNe, addNL, addNR, start0_eq, mapS, mapD, foldO, pmapE, pmap, Tg.ids, Tgs.ids, biAll, LIM, ok_non, ok_bl, ok_int, ok_lst, ok_tup, okn_non, okn_bl, okn_int, okn_lst, okn_tup, okn_ints, okn_ints', flL_ints, mapOI, flL_mapI, eqv_int, eqv_bl, eqv_LI, eqD_LI, eqD_nilI, filterT, eqD_nil0, eqD_int, eqD_bl, cEqD, cNeD, cIn, cNin, cIs, cIsn, inD_LI, inD_nilI, ints?_map, ints?_ints, atI_map, atI_nat, cutL_map, slD_map, compL_map, compL_enum, rangeD_I, compG_some, compG_all, dL_sh, dL_sh', map_sh, foldI, foldI1, addL, -List.map_cons, -List.map_append, -List.map_map, -List.map_take, -List.map_drop, -List.map_reverse, Rd2, biLen, biLenT, biListL, biSorted, biMax2, biMin2, biInt, isD1, isD2], fun _ => ⟨_, by simp [evSs, evS, evX, evXs, evXan, evXor, evXo, evXc, evXt, evp, evs, evAnd, evOr, evo, evc, evi, ShR, AlR, shS, alS, O.pu, O.puL, O.d, O.dL, Ro1, Ro2, Ro3, Ro4, Rd1, Rd2, Rd3, Rd4, Rf1, Rf2, Rf3, Rf4, iteB1, iteB2, iteR1, iteR, iteBl, iteIn, D.fl, D.flL, asB1, asO1, at21, getAll, setAll, unS, frz1, frzS, backS, bT1, bT2, bT3, bT4, bT5, bO1, bO2, bO3, bO4, bO5, bO6, bO7, bO8, bO9, C.d, oAdd, oSub, oMul1, oMul2, oMulC, oMod, oFdiv, itemsD, ixL, ixT, ai0, ai1, ai2, putL, xn0, xn1, xn2, cEq, cLt, cLe, cGt, cGe, cNe, addNL, addNR, start0_eq, mapS, mapD, foldO, pmapE, pmap, Tg.ids, Tgs.ids, biAll, LIM, ok_non, ok_bl, ok_int, ok_lst, ok_tup, okn_non, okn_bl, okn_int, okn_lst, okn_tup, okn_ints, okn_ints', flL_ints, mapOI, flL_mapI, eqv_int, eqv_bl, eqv_LI, eqD_LI, eqD_nilI, filterT, eqD_nil0, eqD_int, eqD_bl, cEqD, cNeD, cIn, cNin, cIs, cIsn, inD_LI, inD_nilI, ints?_map, ints?_ints, atI_map, atI_nat, cutL_map, slD_map, compL_map, compL_enum, rangeD_I, compG_some, compG_all, dL_sh, dL_sh', map_sh, foldI, foldI1, addL, -List.map_cons, -List.map_append, -List.map_map, -List.map_take, -List.map_drop, -List.map_reverse, Rd2, biLen, biLenT, biListL, biSorted, biMax2, biMin2, biInt, isD1, isD2] <;> rfl, by simp [evSs, evS, evX, evXs, evXan, evXor, evXo, evXc, evXt, evp, evs, evAnd, evOr, evo, evc, evi, ShR, AlR, shS, alS, O.pu, O.puL, O.d, O.dL, Ro1, Ro2, Ro3, Ro4, Rd1, Rd2, Rd3, Rd4, Rf1, Rf2, Rf3, Rf4, iteB1, iteB2, iteR1, iteR, iteBl, iteIn, D.fl, D.flL, asB1, asO1, at21, getAll, setAll, unS, frz1, frzS, backS, bT1, bT2, bT3, bT4, bT5, bO1, bO2, bO3, bO4, bO5, bO6, bO7, bO8, bO9, C.d, oAdd, oSub, oMul1, oMul2, oMulC, oMod, oFdiv, itemsD, ixL, ixT, ai0, ai1, ai2, putL, xn0, xn1, xn2, cEq, cLt, cLe, cGt, cGe, cNe, addNL, addNR, start0_eq, mapS, mapD, foldO, pmapE, pmap, Tg.ids, Tgs.ids, biAll, LIM, ok_non, ok_bl, ok_int, ok_lst, ok_tup, okn_non, okn_bl, okn_int, okn_lst, okn_tup, okn_ints, okn_ints', flL_ints, mapOI, flL_mapI, eqv_int, eqv_bl, eqv_LI, eqD_LI, eqD_nilI, filterT, eqD_nil0, eqD_int, eqD_bl, cEqD, cNeD, cIn, cNin, cIs, cIsn, inD_LI, inD_nilI, ints?_map, ints?_ints, atI_map, atI_nat, cutL_map, slD_map, compL_map, compL_enum, rangeD_I, compG_some, compG_all, dL_sh, dL_sh', map_sh, foldI, foldI1, addL, -List.map_cons, -List.map_append, -List.map_map, -List.map_take, -List.map_drop, -List.map_reverse, Rd2, biLen, biLenT, biListL, biSorted, biMax2, biMin2, biInt, isD1, isD2]⟩⟩) ?_
  refine step_nx (by simp [evSs, evS, evX, evXs, evXan, evXor, evXo, evXc, evXt, evp, evs, evAnd, evOr, evo, evc, evi, ShR, AlR, shS, alS, O.pu, O.puL, O.d, O.dL, Ro1, Ro2, Ro3, Ro4, Rd1, Rd2, Rd3, Rd4, Rf1, Rf2, Rf3, Rf4, iteB1, iteB2, iteR1, iteR, iteBl, iteIn, D.fl, D.flL, asB1, asO1, at21, getAll, setAll, unS, frz1, frzS, backS, bT1, bT2, bT3, bT4, bT5, bO1, bO2, bO3, bO4, bO5, bO6, bO7, bO8, bO9, C.d, oAdd, oSub, oMul1, oMul2, oMulC, oMod, oFdiv, itemsD, ixL, ixT, ai0, ai1, ai2, putL, xn0, xn1, xn2, cEq, cLt, cLe, cGt, cGe, cNe, addNL, addNR, start0_eq, mapS, mapD, foldO, pmapE, pmap, Tg.ids, Tgs.ids, biAll, LIM, ok_non, ok_bl, ok_int, ok_lst, ok_tup, okn_non, okn_bl, okn_int, okn_lst, okn_tup, okn_ints, okn_ints', flL_ints, mapOI, flL_mapI, eqv_int, eqv_bl, eqv_LI, eqD_LI, eqD_nilI, filterT, eqD_nil0, eqD_int, eqD_bl, cEqD, cNeD, cIn, cNin, cIs, cIsn, inD_LI, inD_nilI, ints?_map, ints?_ints, atI_map, atI_nat, cutL_map, slD_map, compL_map, compL_enum, rangeD_I, compG_some, compG_all, dL_sh, dL_sh', map_sh, foldI, foldI1, addL, -List.map_cons, -List.map_append, -List.map_map, -List.map_take, -List.map_drop, -List.map_reverse, Rd2, biLen, biLenT, biListL, biSorted, biMax2, biMin2, biInt, isD1, isD2, G_law, show row.length < 64 by omega, d4, d5, hl3] <;> rfl) ?_
  rfl
theorem best_uniq {row ms : List Int} (h : ms.Perm (dedupI row)) (p : ms.Pairwise fun a b => pairLe (cntKey row) a b = true) : bestI row = ms := by
  have hb := List.pairwise_mergeSort (le := pairLe (cntKey row)) (fun a b c h1 h2 => by simp [pairLe] at *; omega) (fun a b => by simp [pairLe]; omega) (isort (dedupI row))
  exact List.Perm.eq_of_pairwise (fun a b _ _ h1 h2 => by
    have h3 : ∀ c d : Int, pairLe (cntKey row) c d = true → (-(row.count c : Int) < -(row.count d : Int)) ∨ (-(row.count c : Int) = -(row.count d : Int) ∧ c ≤ d) := fun c d h => by
      unfold pairLe at h
      rcases Bool.or_eq_true_iff.mp h with h | h
      · exact .inl (of_decide_eq_true h)
      · have h := Bool.and_eq_true_iff.mp h
        exact .inr ⟨of_decide_eq_true h.1, of_decide_eq_true h.2⟩
    have := h3 a b h1; have := h3 b a h2; omega) hb p ((bestI_perm row).trans ((isort_perm _).trans h.symm))
theorem law_true (ns : List Int) (hl : ns.length ≤ 63) : F_law [] [.scr ns] = some (.sh (.bl true), []) := by
  obtain ⟨o, d1, hg⟩ := r_generator ns
  have loop := fo_range (G := G_law) (tg := .nm 2) (it := .r1 (.p (.k (.int 3)))) (b := Y_law_1) (lo := 0) (hi := 3) (ρ := [some (.sh (.scr ns)), some o, none, none, none, none, none, none])
    (fun i ρ => ∃ (o : O) (j2 j3 j4 : Option O), ρ = [some (.sh (.scr ns)), some o, j2, j3, j4, none, none, none] ∧ Gen (10000 - 1000 * i.toNat) o)
    (by simp [evSs, evS, evX, evXs, evXan, evXor, evXo, evXc, evXt, evp, evs, evAnd, evOr, evo, evc, evi, ShR, AlR, shS, alS, O.pu, O.puL, O.d, O.dL, Ro1, Ro2, Ro3, Ro4, Rd1, Rd2, Rd3, Rd4, Rf1, Rf2, Rf3, Rf4, iteB1, iteB2, iteR1, iteR, iteBl, iteIn, D.fl, D.flL, asB1, asO1, at21, getAll, setAll, unS, frz1, frzS, backS, bT1, bT2, bT3, bT4, bT5, bO1, bO2, bO3, bO4, bO5, bO6, bO7, bO8, bO9, C.d, oAdd, oSub, oMul1, oMul2, oMulC, oMod, oFdiv, itemsD, ixL, ixT, ai0, ai1, ai2, putL, xn0, xn1, xn2, cEq, cLt, cLe, cGt, cGe, cNe, addNL, addNR, start0_eq, mapS, mapD, foldO, pmapE, pmap, Tg.ids, Tgs.ids, biAll, LIM, ok_non, ok_bl, ok_int, ok_lst, ok_tup, okn_non, okn_bl, okn_int, okn_lst, okn_tup, okn_ints, okn_ints', flL_ints, mapOI, flL_mapI, eqv_int, eqv_bl, eqv_LI, eqD_LI, eqD_nilI, filterT, eqD_nil0, eqD_int, eqD_bl, cEqD, cNeD, cIn, cNin, cIs, cIsn, inD_LI, inD_nilI, ints?_map, ints?_ints, atI_map, atI_nat, cutL_map, slD_map, compL_map, compL_enum, rangeD_I, compG_some, compG_all, dL_sh, dL_sh', map_sh, foldI, foldI1, addL, -List.map_cons, -List.map_append, -List.map_map, -List.map_take, -List.map_drop, -List.map_reverse, Rd2, biLen, biLenT, biListL, biSorted, biMax2, biMin2, biInt, isD1, isD2, smallI] <;> rfl) (by omega) ⟨o, none, none, none, rfl, hg.weak (by omega)⟩ fun i ρ i0 i3 ⟨o, j2, j3, j4, e, g⟩ => by
      subst e
      obtain ⟨o', k3, k4, h, g'⟩ := law_step (n := 10000 - 1000 * (i + 1).toNat) i0 i3 (g.weak (by omega)) (some (.sh (.scr ns))) j3 j4 none none
      exact ⟨_, rfl, _, .inl h, o', _, _, _, rfl, g'⟩
  obtain ⟨ρ', h1, o', j2, j3, j4, rfl, g'⟩ := loop
  have h1' : evS G_law W_law_1 _ = _ := h1
  have hC : OC [2, 2, 0, 1, 2] [0, 1, 2] := ⟨by decide, by decide, by decide, by decide, by decide, by decide, by decide⟩
  have q1 := r_fixed_costs hC
  have q2 := r_front_costs hC
  have q3 := r_swapped_costs hC
  have q4 := p_best_fixed hC
  have q5 := pf_of (r_front_bound hC)
  have q6 := p_potentials hC
  have q7 := p_pair_costs hC (a := 0) (b := 2) (by decide) (by decide) (by decide)
  have q8 := p_sums_by_pairs hC
  rw [show fixI [2, 2, 0, 1, 2] [0, 1, 2] = [3, 3, 1, 2, 3] by decide +kernel] at q1 q5 q8
  rw [show costs [2, 2, 0, 1, 2] [0, 1, 2] = [3, 1, 2, 3, 3] by decide +kernel] at q2 q8
  rw [show runW [0, 1, 2] [2, 2, 0, 1, 2] = [3, 2, 2, 3, 3] by decide +kernel] at q3
  rw [best_uniq (row := [2, 2, 0, 1, 2]) (ms := [2, 0, 1]) (by decide) (by decide)] at q4
  rw [show potI [2, 2, 0, 1, 2] [0, 1, 2] = [0, 2, 2, 1, 1, 3] by decide +kernel] at q6
  rw [show pairI [2, 2, 0, 1, 2] [0, 1, 2] 0 2 = (3, 3) by decide +kernel] at q7
  simp only [O.d, O.dL, List.map_cons, List.map_nil] at q1 q2 q3 q4 q5 q6 q7 q8
  have q5 : pf F_front_bound [.lst [.int 2, .int 2, .int 0, .int 1, .int 2], .lst [.int 0, .int 1, .int 2]] = some (.sh (.int 19)) := q5
  have q8 : pf F_sums_by_pairs [.lst [.int 2, .int 2, .int 0, .int 1, .int 2], .lst [.int 0, .int 1, .int 2]] = some (.sh (.tup [.int 12, .int 12])) := q8
  have e1 := r_exact 7 (.lst [.lst [.int 3, .int 3, .int 1, .int 2, .int 3], .lst [.int 3, .int 1, .int 2, .int 3, .int 3], .lst [.int 3, .int 2, .int 2, .int 3, .int 3], .lst [.int 2, .int 0, .int 1], .int 19, .lst [.int 0, .int 2, .int 2, .int 1, .int 1, .int 3], .tup [.int 3, .int 3], .tup [.int 12, .int 12]]) (by decide +kernel)
  have main : Ends G_law B_law (start0 [] [.scr ns] 8) (.sh (.bl true)) (fun _ => True) := by
    refine .nx (by simp [evSs, evS, evX, evXs, evXan, evXor, evXo, evXc, evXt, evp, evs, evAnd, evOr, evo, evc, evi, ShR, AlR, shS, alS, O.pu, O.puL, O.d, O.dL, Ro1, Ro2, Ro3, Ro4, Rd1, Rd2, Rd3, Rd4, Rf1, Rf2, Rf3, Rf4, iteB1, iteB2, iteR1, iteR, iteBl, iteIn, D.fl, D.flL, asB1, asO1, at21, getAll, setAll, unS, frz1, frzS, backS, bT1, bT2, bT3, bT4, bT5, bO1, bO2, bO3, bO4, bO5, bO6, bO7, bO8, bO9, C.d, oAdd, oSub, oMul1, oMul2, oMulC, oMod, oFdiv, itemsD, ixL, ixT, ai0, ai1, ai2, putL, xn0, xn1, xn2, cEq, cLt, cLe, cGt, cGe, cNe, addNL, addNR, start0_eq, mapS, mapD, foldO, pmapE, pmap, Tg.ids, Tgs.ids, biAll, LIM, ok_non, ok_bl, ok_int, ok_lst, ok_tup, okn_non, okn_bl, okn_int, okn_lst, okn_tup, okn_ints, okn_ints', flL_ints, mapOI, flL_mapI, eqv_int, eqv_bl, eqv_LI, eqD_LI, eqD_nilI, filterT, eqD_nil0, eqD_int, eqD_bl, cEqD, cNeD, cIn, cNin, cIs, cIsn, inD_LI, inD_nilI, ints?_map, ints?_ints, atI_map, atI_nat, cutL_map, slD_map, compL_map, compL_enum, rangeD_I, compG_some, compG_all, dL_sh, dL_sh', map_sh, foldI, foldI1, addL, -List.map_cons, -List.map_append, -List.map_map, -List.map_take, -List.map_drop, -List.map_reverse, Rd2, biLen, biLenT, biListL, biSorted, biMax2, biMin2, biInt, isD1, isD2, G_law, d1] <;> rfl) ?_
    refine .nx h1' ?_
    refine .nx (by simp [evSs, evS, evX, evXs, evXan, evXor, evXo, evXc, evXt, evp, evs, evAnd, evOr, evo, evc, evi, start0, ShR, AlR, shS, alS, O.pu, O.puL, O.d, O.dL, Ro1, Ro2, Ro3, Ro4, Rd1, Rd2, Rd3, Rd4, Rf1, Rf2, Rf3, Rf4, iteB1, iteB2, iteR1, iteR, iteBl, iteIn, D.fl, D.flL, asB1, asO1, at21, getAll, setAll, unS, frz1, frzS, backS, bT1, bT2, bT3, bT4, bT5, bO1, bO2, bO3, bO4, bO5, bO6, bO7, bO8, bO9, C.d, oAdd, oAddL, oSub, oMul1, oMul2, oMulC, oMod, oFdiv, itemsD, ixL, ixT, ai0, ai1, ai2, putL, xn0, xn1, xn2, cEq, cLt, cLe, cGt, cGe, cNe, LIM] <;> rfl) ?_
    refine .nx (by simp [evSs, evS, evX, evXs, evXan, evXor, evXo, evXc, evXt, evp, evs, evAnd, evOr, evo, evc, evi, start0, ShR, AlR, shS, alS, O.pu, O.puL, O.d, O.dL, Ro1, Ro2, Ro3, Ro4, Rd1, Rd2, Rd3, Rd4, Rf1, Rf2, Rf3, Rf4, iteB1, iteB2, iteR1, iteR, iteBl, iteIn, D.fl, D.flL, asB1, asO1, at21, getAll, setAll, unS, frz1, frzS, backS, bT1, bT2, bT3, bT4, bT5, bO1, bO2, bO3, bO4, bO5, bO6, bO7, bO8, bO9, C.d, oAdd, oAddL, oSub, oMul1, oMul2, oMulC, oMod, oFdiv, itemsD, ixL, ixT, ai0, ai1, ai2, putL, xn0, xn1, xn2, cEq, cLt, cLe, cGt, cGe, cNe, LIM, G_law, q1, q2, q3, q4, q5, q6, q7, q8] <;> rfl) ?_
    exact .rt (by simp [evSs, evS, evX, evXs, evXan, evXor, evXo, evXc, evXt, evp, evs, evAnd, evOr, evo, evc, evi, start0, ShR, AlR, shS, alS, O.pu, O.puL, O.d, O.dL, Ro1, Ro2, Ro3, Ro4, Rd1, Rd2, Rd3, Rd4, Rf1, Rf2, Rf3, Rf4, iteB1, iteB2, iteR1, iteR, iteBl, iteIn, D.fl, D.flL, asB1, asO1, at21, getAll, setAll, unS, frz1, frzS, backS, bT1, bT2, bT3, bT4, bT5, bO1, bO2, bO3, bO4, bO5, bO6, bO7, bO8, bO9, C.d, oAdd, oAddL, oSub, oMul1, oMul2, oMulC, oMod, oFdiv, itemsD, ixL, ixT, ai0, ai1, ai2, putL, xn0, xn1, xn2, cEq, cLt, cLe, cGt, cGe, cNe, LIM, G_law, e1] <;> rfl) trivial
  obtain ⟨ρ', hρ, _⟩ := main
  exact run_rt rfl rfl rfl hρ (by simp [List.range, List.range.loop, getAll])
end L46
end KP
open PySem PySem.W PyProof.Rows in
set_option maxRecDepth 100000 in
set_option maxHeartbeats 0 in
theorem PySem.Challenge.cw_keptathand_k46_whole_lists_and_fronts_holds : PySem.Challenge.rw_keptathand_k46_whole_lists_and_fronts.Holds := by
  w_on; o_law; k_head; (case hw => w_witness2)
  k_fill
  refine LamX.walk_ofTs (l := PySem.Challenge.rw_keptathand_k46_whole_lists_and_fronts) (n := 63) (k := 10) (x := "script") (CX := fun w => L2.CX PySem.Challenge.pw_keptathand_k46_whole_lists_and_fronts w) rfl (by decide) rfl ⟨rfl, by decide, by decide⟩ (fun w h Y => PySem.W.km_in_of Y) ?F (fun _ _ _ _ _ h => KP.cx_false h)
  case F =>
    intro w mg fa h Y KX G hmg0
    have hTab := PySem.W.km_tabs_of Y
    clear Y
    have hmg : mg "law" = some (.ref fa) := hmg0
    clear hmg0
    have z_all : mg "all" = none := by
      refine' PySem.W.mg_none_of KX G ?z
      (case z => k_is)
    have z_bool : mg "bool" = none := by
      refine' PySem.W.mg_none_of KX G ?z
      (case z => k_is)
    have z_enumerate : mg "enumerate" = none := by
      refine' PySem.W.mg_none_of KX G ?z
      (case z => k_is)
    have z_int : mg "int" = none := by
      refine' PySem.W.mg_none_of KX G ?z
      (case z => k_is)
    have z_isinstance : mg "isinstance" = none := by
      refine' PySem.W.mg_none_of KX G ?z
      (case z => k_is)
    have z_len : mg "len" = none := by
      refine' PySem.W.mg_none_of KX G ?z
      (case z => k_is)
    have z_list : mg "list" = none := by
      refine' PySem.W.mg_none_of KX G ?z
      (case z => k_is)
    have z_max : mg "max" = none := by
      refine' PySem.W.mg_none_of KX G ?z
      (case z => k_is)
    have z_min : mg "min" = none := by
      refine' PySem.W.mg_none_of KX G ?z
      (case z => k_is)
    have z_range : mg "range" = none := by
      refine' PySem.W.mg_none_of KX G ?z
      (case z => k_is)
    have z_set : mg "set" = none := by
      refine' PySem.W.mg_none_of KX G ?z
      (case z => k_is)
    have z_sorted : mg "sorted" = none := by
      refine' PySem.W.mg_none_of KX G ?z
      (case z => k_is)
    have z_str : mg "str" = none := by
      refine' PySem.W.mg_none_of KX G ?z
      (case z => k_is)
    have z_sum : mg "sum" = none := by
      refine' PySem.W.mg_none_of KX G ?z
      (case z => k_is)
    have z_tuple : mg "tuple" = none := by
      refine' PySem.W.mg_none_of KX G ?z
      (case z => k_is)
    have c_LONGEST := KP.cst_int (x := "LONGEST") (n := 60) KX G (by k_is)
    have c_MOST_THINGS := KP.cst_int (x := "MOST_THINGS") (n := 26) KX G (by k_is)
    have d_is_whole : KP.DefOk (KP.frOf KX) mg "is_whole" (KP.L46.topS 7) ["value"] := by
      unfold KP.frOf
      refine' KP.defOk_of KX G ?a ?l ?c ?k ?b
      (case a => k_is); (case l => k_is); (case c => k_is); (case k => k_is)
      (case b => exact fun _ _ _ _ _ _ us hl => match us, hl with | [_], _ => rfl)
    have d_is_count : KP.DefOk (KP.frOf KX) mg "is_count" (KP.L46.topS 8) ["value"] := by
      unfold KP.frOf
      refine' KP.defOk_of KX G ?a ?l ?c ?k ?b
      (case a => k_is); (case l => k_is); (case c => k_is); (case k => k_is)
      (case b => exact fun _ _ _ _ _ _ us hl => match us, hl with | [_], _ => rfl)
    have d_is_below : KP.DefOk (KP.frOf KX) mg "is_below" (KP.L46.topS 9) ["value", "bound"] := by
      unfold KP.frOf
      refine' KP.defOk_of KX G ?a ?l ?c ?k ?b
      (case a => k_is); (case l => k_is); (case c => k_is); (case k => k_is)
      (case b => exact fun _ _ _ _ _ _ us hl => match us, hl with | [_, _], _ => rfl)
    have d_is_thing : KP.DefOk (KP.frOf KX) mg "is_thing" (KP.L46.topS 10) ["value"] := by
      unfold KP.frOf
      refine' KP.defOk_of KX G ?a ?l ?c ?k ?b
      (case a => k_is); (case l => k_is); (case c => k_is); (case k => k_is)
      (case b => exact fun _ _ _ _ _ _ us hl => match us, hl with | [_], _ => rfl)
    have d_is_row : KP.DefOk (KP.frOf KX) mg "is_row" (KP.L46.topS 11) ["value"] := by
      unfold KP.frOf
      refine' KP.defOk_of KX G ?a ?l ?c ?k ?b
      (case a => k_is); (case l => k_is); (case c => k_is); (case k => k_is)
      (case b => exact fun _ _ _ _ _ _ us hl => match us, hl with | [_], _ => rfl)
    have d_check_row : KP.DefOk (KP.frOf KX) mg "check_row" (KP.L46.topS 12) ["row"] := by
      unfold KP.frOf
      refine' KP.defOk_of KX G ?a ?l ?c ?k ?b
      (case a => k_is); (case l => k_is); (case c => k_is); (case k => k_is)
      (case b => exact fun _ _ _ _ _ _ us hl => match us, hl with | [_], _ => rfl)
    have d_is_list_for : KP.DefOk (KP.frOf KX) mg "is_list_for" (KP.L46.topS 15) ["row", "value"] := by
      unfold KP.frOf
      refine' KP.defOk_of KX G ?a ?l ?c ?k ?b
      (case a => k_is); (case l => k_is); (case c => k_is); (case k => k_is)
      (case b => exact fun _ _ _ _ _ _ us hl => match us, hl with | [_, _], _ => rfl)
    have d_check_list : KP.DefOk (KP.frOf KX) mg "check_list" (KP.L46.topS 16) ["row", "order"] := by
      unfold KP.frOf
      refine' KP.defOk_of KX G ?a ?l ?c ?k ?b
      (case a => k_is); (case l => k_is); (case c => k_is); (case k => k_is)
      (case b => exact fun _ _ _ _ _ _ us hl => match us, hl with | [_, _], _ => rfl)
    have d_fixed_of : KP.DefOk (KP.frOf KX) mg "fixed_of" (KP.L46.topS 17) ["row", "order"] := by
      unfold KP.frOf
      refine' KP.defOk_of KX G ?a ?l ?c ?k ?b
      (case a => k_is); (case l => k_is); (case c => k_is); (case k => k_is)
      (case b => exact fun _ _ _ _ _ _ us hl => match us, hl with | [_, _], _ => rfl)
    have d_fixed_costs : KP.DefOk (KP.frOf KX) mg "fixed_costs" (KP.L46.topS 18) ["row", "order"] := by
      unfold KP.frOf
      refine' KP.defOk_of KX G ?a ?l ?c ?k ?b
      (case a => k_is); (case l => k_is); (case c => k_is); (case k => k_is)
      (case b => exact fun _ _ _ _ _ _ us hl => match us, hl with | [_, _], _ => rfl)
    have d_moved_of : KP.DefOk (KP.frOf KX) mg "moved_of" (KP.L46.topS 19) ["row", "order"] := by
      unfold KP.frOf
      refine' KP.defOk_of KX G ?a ?l ?c ?k ?b
      (case a => k_is); (case l => k_is); (case c => k_is); (case k => k_is)
      (case b => exact fun _ _ _ _ _ _ us hl => match us, hl with | [_, _], _ => rfl)
    have d_front_costs : KP.DefOk (KP.frOf KX) mg "front_costs" (KP.L46.topS 20) ["row", "order"] := by
      unfold KP.frOf
      refine' KP.defOk_of KX G ?a ?l ?c ?k ?b
      (case a => k_is); (case l => k_is); (case c => k_is); (case k => k_is)
      (case b => exact fun _ _ _ _ _ _ us hl => match us, hl with | [_, _], _ => rfl)
    have d_swapped_costs : KP.DefOk (KP.frOf KX) mg "swapped_costs" (KP.L46.topS 22) ["row", "order"] := by
      unfold KP.frOf
      refine' KP.defOk_of KX G ?a ?l ?c ?k ?b
      (case a => k_is); (case l => k_is); (case c => k_is); (case k => k_is)
      (case b => exact fun _ _ _ _ _ _ us hl => match us, hl with | [_, _], _ => rfl)
    have d_things_of : KP.DefOk (KP.frOf KX) mg "things_of" (KP.L46.topS 13) ["row"] := by
      unfold KP.frOf
      refine' KP.defOk_of KX G ?a ?l ?c ?k ?b
      (case a => k_is); (case l => k_is); (case c => k_is); (case k => k_is)
      (case b => exact fun _ _ _ _ _ _ us hl => match us, hl with | [_], _ => rfl)
    have d_best_fixed : KP.DefOk (KP.frOf KX) mg "best_fixed" (KP.L46.topS 23) ["row"] := by
      unfold KP.frOf
      refine' KP.defOk_of KX G ?a ?l ?c ?k ?b
      (case a => k_is); (case l => k_is); (case c => k_is); (case k => k_is)
      (case b => exact fun _ _ _ _ _ _ us hl => match us, hl with | [_], _ => rfl)
    have d_pair_of : KP.DefOk (KP.frOf KX) mg "pair_of" (KP.L46.topS 24) ["row", "order", "thing", "other"] := by
      unfold KP.frOf
      refine' KP.defOk_of KX G ?a ?l ?c ?k ?b
      (case a => k_is); (case l => k_is); (case c => k_is); (case k => k_is)
      (case b => exact fun _ _ _ _ _ _ us hl => match us, hl with | [_, _, _, _], _ => rfl)
    have d_pair_costs : KP.DefOk (KP.frOf KX) mg "pair_costs" (KP.L46.topS 25) ["row", "order", "thing", "other_thing"] := by
      unfold KP.frOf
      refine' KP.defOk_of KX G ?a ?l ?c ?k ?b
      (case a => k_is); (case l => k_is); (case c => k_is); (case k => k_is)
      (case b => exact fun _ _ _ _ _ _ us hl => match us, hl with | [_, _, _, _], _ => rfl)
    have d_sums_by_pairs : KP.DefOk (KP.frOf KX) mg "sums_by_pairs" (KP.L46.topS 26) ["row", "order"] := by
      unfold KP.frOf
      refine' KP.defOk_of KX G ?a ?l ?c ?k ?b
      (case a => k_is); (case l => k_is); (case c => k_is); (case k => k_is)
      (case b => exact fun _ _ _ _ _ _ us hl => match us, hl with | [_, _], _ => rfl)
    have d_front_bound : KP.DefOk (KP.frOf KX) mg "front_bound" (KP.L46.topS 27) ["row", "order"] := by
      unfold KP.frOf
      refine' KP.defOk_of KX G ?a ?l ?c ?k ?b
      (case a => k_is); (case l => k_is); (case c => k_is); (case k => k_is)
      (case b => exact fun _ _ _ _ _ _ us hl => match us, hl with | [_, _], _ => rfl)
    have d_out_of_order : KP.DefOk (KP.frOf KX) mg "out_of_order" (KP.L46.topS 28) ["row", "order", "ask"] := by
      unfold KP.frOf
      refine' KP.defOk_of KX G ?a ?l ?c ?k ?b
      (case a => k_is); (case l => k_is); (case c => k_is); (case k => k_is)
      (case b => exact fun _ _ _ _ _ _ us hl => match us, hl with | [_, _, _], _ => rfl)
    have d_potentials : KP.DefOk (KP.frOf KX) mg "potentials" (KP.L46.topS 29) ["row", "order"] := by
      unfold KP.frOf
      refine' KP.defOk_of KX G ?a ?l ?c ?k ?b
      (case a => k_is); (case l => k_is); (case c => k_is); (case k => k_is)
      (case b => exact fun _ _ _ _ _ _ us hl => match us, hl with | [_, _], _ => rfl)
    have d__law_hash : KP.DefOk (KP.frOf KX) mg "_law_hash" (KP.L46.topS 31) ["seed", "index"] := by
      unfold KP.frOf
      refine' KP.defOk_of KX G ?a ?l ?c ?k ?b
      (case a => k_is); (case l => k_is); (case c => k_is); (case k => k_is)
      (case b => exact fun _ _ _ _ _ _ us hl => match us, hl with | [_, _], _ => rfl)
    have d__law_random : KP.DefOk (KP.frOf KX) mg "_law_random" (KP.L46.topS 32) ["generator", "bound"] := by
      unfold KP.frOf
      refine' KP.defOk_of KX G ?a ?l ?c ?k ?b
      (case a => k_is); (case l => k_is); (case c => k_is); (case k => k_is)
      (case b => exact fun _ _ _ _ _ _ us hl => match us, hl with | [_, _], _ => rfl)
    have d__law_cell : KP.DefOk (KP.frOf KX) mg "_law_cell" (KP.L46.topS 33) ["script", "index"] := by
      unfold KP.frOf
      refine' KP.defOk_of KX G ?a ?l ?c ?k ?b
      (case a => k_is); (case l => k_is); (case c => k_is); (case k => k_is)
      (case b => exact fun _ _ _ _ _ _ us hl => match us, hl with | [_, _], _ => rfl)
    have d__law_generator : KP.DefOk (KP.frOf KX) mg "_law_generator" (KP.L46.topS 34) ["script", "index"] := by
      unfold KP.frOf
      refine' KP.defOk_of KX G ?a ?l ?c ?k ?b
      (case a => k_is); (case l => k_is); (case c => k_is); (case k => k_is)
      (case b => exact fun _ _ _ _ _ _ us hl => match us, hl with | [_, _], _ => rfl)
    have d__law_drawn_order : KP.DefOk (KP.frOf KX) mg "_law_drawn_order" (KP.L46.topS 35) ["generator", "things"] := by
      unfold KP.frOf
      refine' KP.defOk_of KX G ?a ?l ?c ?k ?b
      (case a => k_is); (case l => k_is); (case c => k_is); (case k => k_is)
      (case b => exact fun _ _ _ _ _ _ us hl => match us, hl with | [_, _], _ => rfl)
    have d__law_exact : KP.DefOk (KP.frOf KX) mg "_law_exact" (KP.L46.topS 36) ["told", "due"] := by
      unfold KP.frOf
      refine' KP.defOk_of KX G ?a ?l ?c ?k ?b
      (case a => k_is); (case l => k_is); (case c => k_is); (case k => k_is)
      (case b => exact fun _ _ _ _ _ _ us hl => match us, hl with | [_, _], _ => rfl)
    have d__law_row : KP.DefOk (KP.frOf KX) mg "_law_row" (KP.L46.topS 38) ["generator", "most", "things"] := by
      unfold KP.frOf
      refine' KP.defOk_of KX G ?a ?l ?c ?k ?b
      (case a => k_is); (case l => k_is); (case c => k_is); (case k => k_is)
      (case b => exact fun _ _ _ _ _ _ us hl => match us, hl with | [_, _, _], _ => rfl)
    have d_front_list : KP.DefOk (KP.frOf KX) mg "front_list" (KP.L46.topS 21) ["row", "order"] := by
      unfold KP.frOf
      refine' KP.defOk_of KX G ?a ?l ?c ?k ?b
      (case a => k_is); (case l => k_is); (case c => k_is); (case k => k_is)
      (case b => exact fun _ _ _ _ _ _ us hl => match us, hl with | [_, _], _ => rfl)
    have d__law_copied : KP.DefOk (KP.frOf KX) mg "_law_copied" (KP.L46.topS 37) ["thing"] := by
      unfold KP.frOf
      refine' KP.defOk_of KX G ?a ?l ?c ?k ?b
      (case a => k_is); (case l => k_is); (case c => k_is); (case k => k_is)
      (case b => exact fun _ _ _ _ _ _ us hl => match us, hl with | [_], _ => rfl)
    have d__law_front : KP.DefOk (KP.frOf KX) mg "_law_front" (KP.L46.topS 39) ["row", "order"] := by
      unfold KP.frOf
      refine' KP.defOk_of KX G ?a ?l ?c ?k ?b
      (case a => k_is); (case l => k_is); (case c => k_is); (case k => k_is)
      (case b => exact fun _ _ _ _ _ _ us hl => match us, hl with | [_, _], _ => rfl)
    have d__law_swapped : KP.DefOk (KP.frOf KX) mg "_law_swapped" (KP.L46.topS 40) ["row", "order"] := by
      unfold KP.frOf
      refine' KP.defOk_of KX G ?a ?l ?c ?k ?b
      (case a => k_is); (case l => k_is); (case c => k_is); (case k => k_is)
      (case b => exact fun _ _ _ _ _ _ us hl => match us, hl with | [_, _], _ => rfl)
    have d__law_otherwise : KP.DefOk (KP.frOf KX) mg "_law_otherwise" (KP.L46.topS 41) ["there", "order"] := by
      unfold KP.frOf
      refine' KP.defOk_of KX G ?a ?l ?c ?k ?b
      (case a => k_is); (case l => k_is); (case c => k_is); (case k => k_is)
      (case b => exact fun _ _ _ _ _ _ us hl => match us, hl with | [_, _], _ => rfl)
    have d__law_pair : KP.DefOk (KP.frOf KX) mg "_law_pair" (KP.L46.topS 42) ["row", "order", "one", "two"] := by
      unfold KP.frOf
      refine' KP.defOk_of KX G ?a ?l ?c ?k ?b
      (case a => k_is); (case l => k_is); (case c => k_is); (case k => k_is)
      (case b => exact fun _ _ _ _ _ _ us hl => match us, hl with | [_, _, _, _], _ => rfl)
    have d__law_orders : KP.DefOk (KP.frOf KX) mg "_law_orders" (KP.L46.topS 43) ["things"] := by
      unfold KP.frOf
      refine' KP.defOk_of KX G ?a ?l ?c ?k ?b
      (case a => k_is); (case l => k_is); (case c => k_is); (case k => k_is)
      (case b => exact fun _ _ _ _ _ _ us hl => match us, hl with | [_], _ => rfl)
    have d__law_case_right : KP.DefOk (KP.frOf KX) mg "_law_case_right" (KP.L46.topS 44) ["generator", "row", "order"] := by
      unfold KP.frOf
      refine' KP.defOk_of KX G ?a ?l ?c ?k ?b
      (case a => k_is); (case l => k_is); (case c => k_is); (case k => k_is)
      (case b => exact fun _ _ _ _ _ _ us hl => match us, hl with | [_, _, _], _ => rfl)
    have d_law : KP.DefOk (KP.frOf KX) mg "law" (KP.L46.topS 45) ["script"] := by
      unfold KP.frOf
      refine' KP.defOk_of KX G ?a ?l ?c ?k ?b
      (case a => k_is); (case l => k_is); (case c => k_is); (case k => k_is)
      (case b => exact fun _ _ _ _ _ _ us hl => match us, hl with | [_], _ => rfl)
    have D : KP.L46.HF (KP.frOf KX) mg := ⟨z_all, z_bool, z_enumerate, z_int, z_isinstance, z_len, z_list, z_max, z_min, z_range, z_set, z_sorted, z_str, z_sum, z_tuple, c_LONGEST, c_MOST_THINGS, d_is_whole, d_is_count, d_is_below, d_is_thing, d_is_row, d_check_row, d_is_list_for, d_check_list, d_fixed_of, d_fixed_costs, d_moved_of, d_front_costs, d_swapped_costs, d_things_of, d_best_fixed, d_pair_of, d_pair_costs, d_sums_by_pairs, d_front_bound, d_out_of_order, d_potentials, d__law_hash, d__law_random, d__law_cell, d__law_generator, d__law_drawn_order, d__law_exact, d__law_row, d_front_list, d__law_copied, d__law_front, d__law_swapped, d__law_otherwise, d__law_pair, d__law_orders, d__law_case_right, d_law⟩
    have l_best_fixed : ∀ base : Heap, (∀ p ∈ ([(174, 170), (294, 292)] : List (Addr × Addr)), LamX.TabB base mg p.1 p.2) → KP.LamEx ⟨PySem.Challenge.pw_keptathand_k46_whole_lists_and_fronts, w, KP.frOf KX, mg, base, 0⟩ "best_fixed" "best_fixed.<locals>.<lambda>" := by
      intro base TB
      unfold KP.frOf
      refine' KP.lamEx_of (c := 174) (P := 170) (st := KP.L46.topS 23) KX G ?a0 ?l0 rfl (TB (174, 170) (by simp)) (by decide) (by decide)
      (case a0 => k_is)
      (case l0 => k_is)
    have l__law_case_right : ∀ base : Heap, (∀ p ∈ ([(174, 170), (294, 292)] : List (Addr × Addr)), LamX.TabB base mg p.1 p.2) → KP.LamEx ⟨PySem.Challenge.pw_keptathand_k46_whole_lists_and_fronts, w, KP.frOf KX, mg, base, 0⟩ "_law_case_right" "_law_case_right.<locals>.<lambda>" := by
      intro base TB
      unfold KP.frOf
      refine' KP.lamEx_of (c := 294) (P := 292) (st := KP.L46.topS 44) KX G ?a1 ?l1 rfl (TB (294, 292) (by simp)) (by decide) (by decide)
      (case a1 => k_is)
      (case l1 => k_is)
    have cA : ∀ p ∈ ([(174, 170), (294, 292)] : List (Addr × Addr)), PySem.W.CodeHd h p.1 p.2 ∧ (KP.frOf KX).lookup p.2 = none := by
      intro p hp
      unfold KP.frOf
      simp only [List.mem_cons, List.not_mem_nil, or_false] at hp
      rcases hp with rfl | rfl
      · refine ⟨PySem.W.codeHd_of_K KX ?u0, ?v0⟩
        (case u0 => exact rfl)
        (case v0 => exact rfl)
      · refine ⟨PySem.W.codeHd_of_K KX ?u1, ?v1⟩
        (case u1 => exact rfl)
        (case v1 => exact rfl)
    obtain ⟨fd, hb, hF⟩ := KP.law_endT (cs := [(174, 170), (294, 292)]) D.d_law hmg (fun _ _ _ _ _ _ _ => rfl) fun base TB => KP.L46.ok_law (g := ⟨PySem.Challenge.pw_keptathand_k46_whole_lists_and_fronts, w, _, mg, base, 0⟩) D ⟨l_best_fixed base TB, l__law_case_right base TB⟩
    have hs : ∀ H : L2.Hp, (∀ p ∈ ([(174, 170), (294, 292)] : List (Addr × Addr)), H p.2 = some (.tbl #[])) → LamX.Tabs KP.tbT H := by
      intro H hH
      refine KP.tabs_start ?_
      intro p hp
      simp only [KP.tbT, List.mem_cons, List.not_mem_nil, or_false] at hp
      rcases hp with rfl | rfl
      · exact hH (174, 170) (by simp)
      · exact hH (294, 292) (by simp)
    have ht : ∀ p ∈ ([(174, 170), (294, 292)] : List (Addr × Addr)), h.get? p.2 = some { cls := .none, data := .fields #[] } := by
      intro p hp
      simp only [List.mem_cons, List.not_mem_nil, or_false] at hp
      rcases hp with rfl | rfl <;> exact hTab _ (by simp)
    exact ⟨fd, [(174, 170), (294, 292)], KP.spF _ 0 1 KP.L46.F_law, ht, fun p hp => (cA p hp).2, fun p hp => (cA p hp).1, hb, fun H a ns hl _ hH hS => KP.law_sp hl hS (hs H hH) (KP.L46.law_true ns hl), hF⟩
