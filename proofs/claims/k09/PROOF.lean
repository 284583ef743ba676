import PyProof.Rows.All
import Wide.All
import OpenK.AllK
import Wide.FinOn
import HandS.ForMost
import HandS.TupAny
import HandS.Strs
import HandS.Wide
import HandS.Style
import HandS.More
import HandS.Conv
import HandS.SetFor
import HandS.Walk
import HandS.IsInst
import HandS.Deep
import HandS.Evl
import PySem.Challenge.RW_laidontop_k09_whole_fewest_readings_to_a
set_option Elab.async false
set_option linter.all false
set_option maxRecDepth 100000
set_option maxHeartbeats 4000000
/-! LTa: the shared ground: readings' short names, further rules, heaps. -/
namespace LT
open PySem PySem.Spec PyProof.Rows L2
/-! ### readings by short names -/
abbrev rAddI : R2 := rI0 fun i j => .int (i + j)
abbrev rSubI : R2 := rI0 fun i j => .int (i - j)
abbrev rMulI : R2 := rI CMul fun i j => .int (i * j)
abbrev rModI : R2 := rI (fun _ j => 0 < j) fun i j => .int (i % j)
abbrev rFdivI : R2 := rI CDivW fun i j => .int (i / j)
abbrev rPowI : R2 := rI CPow fun i j => .int (i ^ j.toNat)
abbrev rLtI : R2 := rI0 fun i j => .bl (decide (i < j))
abbrev rLeI : R2 := rI0 fun i j => .bl (decide (i ≤ j))
abbrev rGtI : R2 := rI0 fun i j => .bl (decide (j < i))
abbrev rGeI : R2 := rI0 fun i j => .bl (decide (j ≤ i))
abbrev rLtS : R2 := fun x y H Q => ∃ i j, x = .str i ∧ y = .str j ∧ Q (.bl (decide (i.cps.toList < j.cps.toList))) H
abbrev rAddSt : R2 := fun x y H Q => ∃ i j, x = .str i ∧ y = .str j ∧ i.length + j.length ≤ sizeLine ∧ Q (.str (i ++ j)) H
abbrev rInSg : R2 := fun x y H Q => ∃ (c : Nat) (z : Str), x = .str ⟨#[c]⟩ ∧ y = .str z ∧ Q (.bl (decide (c ∈ z.cps.toList))) H
abbrev rNotInSg : R2 := fun x y H Q => ∃ (c : Nat) (z : Str), x = .str ⟨#[c]⟩ ∧ y = .str z ∧ Q (.bl (!decide (c ∈ z.cps.toList))) H
abbrev rLenSt : List V → Hp → VK → Prop := fun xs H Q => ∃ z, xs = [.str z] ∧ z.length ≤ sizeLine ∧ Q (.int z.length) H
abbrev rLenSq (K : PySem.W.Frag) : List V → Hp → VK → Prop := fun xs H Q => ∃ p ys, xs = [.ref p] ∧ (SqL K H p ys ∨ SqT K H p ys) ∧ Q (.int ys.length) H
abbrev rLenDk : List V → Hp → VK → Prop := fun xs H Q => ∃ a kvs, xs = [V.ref a] ∧ H a = some (.dK kvs) ∧ Q (.int kvs.length) H
abbrev rListOf (K : PySem.W.Frag) : List V → Hp → VK → Prop := fun xs H Q => ∃ p ys, xs = [.ref p] ∧ (SqL K H p ys ∨ SqT K H p ys) ∧ ∀ l, H l = none → Q (.ref l) (upd H l (.lst ys))
abbrev rTupOf (K : PySem.W.Frag) : List V → Hp → VK → Prop := fun xs H Q => ∃ p ys, xs = [.ref p] ∧ ((SqL K H p ys ∧ ∀ l, H l = none → Q (.ref l) (upd H l (.tup ys))) ∨ (SqT K H p ys ∧ Q (.ref p) H))
abbrev rListDk : List V → Hp → VK → Prop := fun xs H Q => ∃ (a : Addr) (kvs : List (Key × V)), xs = [.ref a] ∧ Rd H a (.dK kvs) ∧ ∀ p, H p = none → Q (.ref p) (upd H p (.lst (kvs.map fun kv => kV kv.1)))
abbrev rDictDk : List V → Hp → VK → Prop := fun xs H Q => ∃ (a : Addr) (kvs : List (Key × V)), xs = [.ref a] ∧ Rd H a (.dK kvs) ∧ ∀ p, H p = none → Q (.ref p) (upd H p (.dK kvs))
abbrev rMax2I : List V → Hp → VK → Prop := fun xs H Q => ∃ i j, xs = [.int i, .int j] ∧ Q (.int (if j > i then j else i)) H
abbrev rMin2I : List V → Hp → VK → Prop := fun xs H Q => ∃ i j, xs = [.int i, .int j] ∧ Q (.int (if j < i then j else i)) H
abbrev rInsertL : V → List V → Hp → VK → Prop := fun x vs H Q => ∃ (l : Addr) (xs : List V) (i : Int) (y : V), x = .ref l ∧ vs = [.int i, y] ∧ H l = some (.lst xs) ∧ xs.length < sizeLine ∧ 0 ≤ i ∧ i < 2 ^ 63 ∧ Q .non (upd H l (.lst (xs.take i.toNat ++ [y] ++ xs.drop i.toNat)))
abbrev rTupIx (K : PySem.W.Frag) : V → List V → Hp → VK → Prop := fun x xs H Q => ∃ p, ∃ ys : List Str, ∃ z j, x = .ref p ∧ xs = [.str z] ∧ SqT K H p (ys.map V.str) ∧ ys[j]? = some z ∧ (∀ m, m < j → ys[m]? ≠ some z) ∧ Q (.int (j : Nat)) H

/-! ### what a for walks: a list or a tuple -/
def iSeq (K : PySem.W.Frag) (tl : TE) : TI := fun σ H R => iList K tl σ H R ∨ iTup K tl σ H R
theorem pi_seq {X : Cx} {tg l : Expr} {tl : TE} (hl : PE X l tl) : PI X tg l (iSeq X.K tl) :=
  ⟨fun pins s σ H R I h => h.elim (fun q => (pi_list hl).run pins s σ H R I q) (fun q => (pi_tup hl).run pins s σ H R I q)⟩

/-! ### a def that is called by its name -/
structure Cal (P : Program) (w : World) (K : PySem.W.Frag) (mg : Str → Option Value) (base : Heap) (k : Nat) (x : Str) (ps : List Str) (sp : Sp) : Prop where
  ex : ∃ (f : Addr) (fd : FuncData), FnOk P w K mg base CX0 k f fd ps sp ∧ mg x = some (.ref f) ∧ PySem.W.keepIn K (.ref f) = true ∧ Binds K fd ps []
theorem pe_cal {X : Cx} {k j : Nat} {x : Str} {ps : List Str} {sp : Sp} {p pos : Pos} {e : Expr} {es : List Expr} {t : TA} (c : Cal X.prog X.w X.K X.mg X.base k x ps sp) (hr : Room j X.A) (hk : k ≤ j) (hg : Gl X x) (ha : PA X (e :: es) t)
    (hdb : (x == ("__debug__" : Str)) = false := by decide) (he : starEach (e :: es) X.env = (false, eval e X.env) :: starEach es X.env := by rfl) (hpl : (backTo pos (starEach es X.env)).any (·.1) = false := by rfl) :
    PE X (.Call (.Name x p) (e :: es) [] pos) (tCall sp [] E0 t) := by
  obtain ⟨f, fd, F, hm, kp, b⟩ := c.ex
  exact pe_call F (hr.mono hk) hg hm kp b .nil pass0 ha hdb he hpl
theorem pe_cal0 {X : Cx} {k j : Nat} {x : Str} {ps : List Str} {sp : Sp} {p pos : Pos} (c : Cal X.prog X.w X.K X.mg X.base k x ps sp) (hr : Room j X.A) (hk : k ≤ j) (hg : Gl X x)
    (hdb : (x == ("__debug__" : Str)) = false := by decide) : PE X (.Call (.Name x p) [] [] pos) (tCall sp [] E0 tNil) := by
  obtain ⟨f, fd, F, hm, kp, b⟩ := c.ex
  exact pe_call0 F (hr.mono hk) hg hm kp b .nil pass0 hdb

/-! ### built-ins' names that the text leaves alone -/
structure Bn (mg : Str → Option Value) : Prop where
  m_len : mg "len" = none
  m_range : mg "range" = none
  m_sorted : mg "sorted" = none
  m_enumerate : mg "enumerate" = none
  m_tuple : mg "tuple" = none
  m_list : mg "list" = none
  m_dict : mg "dict" = none
  m_set : mg "set" = none
  m_min : mg "min" = none
  m_max : mg "max" = none
  m_sum : mg "sum" = none
  m_isinstance : mg "isinstance" = none
  m_int : mg "int" = none
  m_bool : mg "bool" = none
  m_str : mg "str" = none
  m_all : mg "all" = none
  m_zip : mg "zip" = none

/-! ### heaps -/
theorem same_sqt {K : PySem.W.Frag} {H H' : Hp} {a : Addr} {xs : List V} (e : Same H H') (h : SqT K H a xs) : SqT K H' a xs := by
  rcases h with (h | ⟨o, h⟩) | h
  · exact .inl (.inl (e _ _ h))
  · exact .inl (.inr ⟨o, e _ _ h⟩)
  · exact .inr h
theorem same_upd {H : Hp} {p : Addr} {o : HO} (h : H p = none) : Same H (upd H p o) := fun b x e => by
  rw [upd_ne (ne_of_none e h)]
  exact e
/-- an object that the base does not know may change -/
theorem same_mut {H H' : Hp} {p : Addr} {o : HO} (e : Same H H') (h : H p = none) : Same H (upd H' p o) := fun a u ha => by
  rw [upd_ne (ne_of_none ha h)]
  exact e a u ha
def del (H : Hp) (a : Addr) : Hp := fun b => if b = a then none else H b
theorem del_at {H : Hp} {a : Addr} : del H a a = none := by unfold del; rw [if_pos rfl]
theorem del_ne {H : Hp} {a b : Addr} (h : b ≠ a) : del H a b = H b := by unfold del; rw [if_neg h]
theorem del_same {H : Hp} {a : Addr} : Same (del H a) H := fun b o h => by
  by_cases e : b = a
  · subst e; rw [del_at] at h; cases h
  · rw [del_ne e] at h; exact h
theorem del_mono {H H' : Hp} {a : Addr} (s : Same H H') : Same (del H a) (del H' a) := fun b o h => by
  by_cases e : b = a
  · subst e; rw [del_at] at h; cases h
  · rw [del_ne e] at h ⊢; exact s b o h
theorem del_upd {H : Hp} {a : Addr} {o : HO} : del (upd H a o) a = del H a := by
  funext b
  by_cases e : b = a
  · subst e; rw [del_at, del_at]
  · rw [del_ne e, del_ne e, upd_ne e]
theorem del_upd_ne {H : Hp} {a b : Addr} {o : HO} (h : b ≠ a) : del (upd H b o) a = upd (del H a) b o := by
  funext c
  by_cases e : c = b
  · subst e; rw [del_ne h, upd_same, upd_same]
  · by_cases e2 : c = a
    · subst e2; rw [del_at, upd_ne e, del_at]
    · rw [del_ne e2, upd_ne e, upd_ne e, del_ne e2]
theorem del_none {H : Hp} {a : Addr} (h : H a = none) : del H a = H := by
  funext b
  by_cases e : b = a
  · subst e; rw [del_at, h]
  · rw [del_ne e]
theorem del_get {H : Hp} {a b : Addr} {o : HO} (h : del H a b = some o) : b ≠ a ∧ H b = some o := by
  by_cases e : b = a
  · subst e; rw [del_at] at h; cases h
  · rw [del_ne e] at h; exact ⟨e, h⟩
/-- a tuple is no list -/
theorem sqt_del {K : PySem.W.Frag} {H : Hp} {t a : Addr} {ys xs : List V} (ht : H t = some (.lst ys)) (h : SqT K H a xs) : SqT K (del H t) a xs := by
  rcases h with (h | ⟨o, h⟩) | h
  · exact .inl (.inl (by rw [del_ne (ne_of h ht (fun z => nomatch z))]; exact h))
  · exact .inl (.inr ⟨o, by rw [del_ne (ne_of h ht (fun z => nomatch z))]; exact h⟩)
  · exact .inr h
theorem sqt_mut {K : PySem.W.Frag} {H : Hp} {t a : Addr} {ys xs : List V} {o : HO} (ht : H t = some (.lst ys)) (h : SqT K H a xs) : SqT K (upd H t o) a xs := by
  have h2 := sqt_del ht h
  rw [← del_upd (o := o)] at h2
  exact same_sqt del_same h2
theorem sqt_frz {K : PySem.W.Frag} {H : Hp} {t a : Addr} {u o : HO} {xs : List V} (ht : H t = some u) (hu : ∀ o v, u ≠ .frz o v) (hv : ∀ v, u ≠ .tup v) (h : SqT K H a xs) : SqT K (upd H t o) a xs := by
  rcases h with (h | ⟨o, h⟩) | h
  · exact .inl (.inl (by rw [upd_ne (ne_of h ht (fun z => hv _ z.symm))]; exact h))
  · exact .inl (.inr ⟨o, by rw [upd_ne (ne_of h ht (fun z => hu _ _ z.symm))]; exact h⟩)
  · exact .inr h
theorem ne_lst {H : Hp} {a b : Addr} {xs ys : List V} (h : H a = some (.lst xs)) (h' : H b = some (.lst ys)) (d : xs ≠ ys) : a ≠ b := ne_of h h' fun z => d (HO.lst.inj z)
theorem lt_line {n : Nat} (h : n ≤ 1000000) : n < sizeLine := Nat.lt_of_le_of_lt h (by decide)
theorem le_line {n : Nat} (h : n ≤ 1000000) : n ≤ sizeLine := Nat.le_of_lt (lt_line h)

theorem del_kp {H H' : Hp} {t b : Addr} {o : HO} (s : Same (del H t) (del H' t)) (hb : b ≠ t) (e : H b = some o) : H' b = some o :=
  (del_get (s b o (by rw [del_ne hb]; exact e))).2
/-! ### comprehensions: the list made so far stands at D, all else of the call is below -/
def LcP (D : Addr) (Iv : Nat → Hp → List V → Prop) (i : Nat) (H : Hp) : Prop := ∃ acc, H D = some (.lst acc) ∧ Iv i (del H D) acc
theorem lcp0 {D : Addr} {Iv : Nat → Hp → List V → Prop} {H1 : Hp} (hD : H1 D = none) (h0 : Iv 0 H1 []) : LcP D Iv 0 (upd H1 D (.lst [])) :=
  ⟨[], upd_same, by rw [del_upd, del_none hD]; exact h0⟩
theorem lcp_push {D : Addr} {Iv : Nat → Hp → List V → Prop} {i : Nat} {H4 : Hp} {acc : List V} {y : V} (h : H4 D = some (.lst acc)) (hl : acc.length < sizeLine) (q : Iv (i + 1) (del H4 D) (acc ++ [y])) :
    ∃ acc, H4 D = some (.lst acc) ∧ acc.length < sizeLine ∧ LcP D Iv (i + 1) (upd H4 D (.lst (acc ++ [y]))) := ⟨acc, h, hl, _, upd_same, by rw [del_upd]; exact q⟩
theorem take_push {α β : Type} (f : α → β) (l : List α) (i : Nat) (h : i < l.length) : (l.take (i + 1)).map f = (l.take i).map f ++ [f l[i]] := by
  rw [List.take_succ, List.getElem?_eq_getElem h, List.map_append]
  rfl
theorem t_yes {σ : L2.St} {H : Hp} {A B : Hp → Prop} (h : A H) : tYes σ H fun b H3 => if b = true then A H3 else B H3 := by
  show if true = true then A H else B H
  exact iteT h
theorem sql_del {K : PySem.W.Frag} {H : Hp} {t a : Addr} {xs : List V} {o : HO} (ht : H t = some o) (h1 : o ≠ .lst xs) (h2 : ∀ u v, o ≠ .frz u v) (h : SqL K H a xs) : SqL K (del H t) a xs := by
  rcases h with (h | ⟨o, h⟩) | h
  · exact .inl (.inl (by rw [del_ne (ne_of h ht (fun z => h1 z.symm))]; exact h))
  · exact .inl (.inr ⟨o, by rw [del_ne (ne_of h ht (fun z => h2 _ _ z.symm))]; exact h⟩)
  · exact .inr h

/-! ### slices and sums of tuples: the same object or a new one -/
theorem r_slA {K : PySem.W.Frag} {H : Hp} {a : Addr} {xs : List V} {lo hi : Option Int} {Q : VK} (h : SqT K H a xs) (q : ∀ p H', Same H H' → SqT K H' p (cutV xs lo hi) → Q (.ref p) H') : rSlA K (.ref a) lo hi H Q := by
  refine ⟨a, xs, rfl, h, fun e => ?_, fun e p hp => q p _ (same_upd hp) (.of upd_same)⟩
  refine q a H (Same.refl H) ?_
  have : cutV xs lo hi = xs := by
    unfold cutV
    rw [e.1, e.2]
    simp
  rw [this]; exact h
theorem r_catA {K : PySem.W.Frag} {H : Hp} {a b : Addr} {xs ys : List V} {Q : VK} (ha : SqT K H a xs) (hb : SqT K H b ys) (hl : xs.length + ys.length ≤ sizeLine) (q : ∀ p H', Same H H' → SqT K H' p (xs ++ ys) → Q (.ref p) H') : rCatA K (.ref a) (.ref b) H Q := by
  refine ⟨a, b, xs, ys, rfl, rfl, ha, hb, hl, fun e => ?_, fun _ e => ?_, fun _ _ p hp => q p _ (same_upd hp) (.of upd_same)⟩
  · subst e; exact q b H (Same.refl H) hb
  · subst e; exact q a H (Same.refl H) (by rw [List.append_nil]; exact ha)
theorem r_tup {H : Hp} {xs : List V} {K : PySem.W.Frag} {Q : VK} (q : ∀ p H', Same H H' → H p = none → H' p = some (.tup xs) → Q (.ref p) H') : ∀ p, H p = none → Q (.ref p) (upd H p (.tup xs)) := fun p hp => q p _ (same_upd hp) hp upd_same
theorem r_new {H : Hp} {o : HO} {Q : VK} (q : ∀ p H', Same H H' → H p = none → H' p = some o → Q (.ref p) H') : ∀ p, H p = none → Q (.ref p) (upd H p o) := fun p hp => q p _ (same_upd hp) hp upd_same
/-! ### cuts -/
theorem cut_to {xs : List V} (k : Nat) : cutV xs none (some (k : Int)) = xs.take k := by
  unfold cutV
  rw [HT.sIx_none, HT.sIx_nat, List.drop_zero, Nat.sub_zero]
  rw [List.take_eq_take_iff]; omega
theorem cut_from {xs : List V} (k : Nat) : cutV xs (some (k : Int)) none = xs.drop k := by
  unfold cutV
  rw [HT.sIx_none, HT.sIx_nat]
  by_cases h : k ≤ xs.length
  · rw [Nat.min_eq_left h]
    exact List.take_of_length_le (by rw [List.length_drop]; omega)
  · rw [Nat.min_eq_right (by omega), Nat.sub_self, List.take_zero, List.drop_eq_nil_of_le (by omega)]
theorem cut_all {xs : List V} : cutV xs none none = xs := by
  unfold cutV
  rw [HT.sIx_none, HT.sIx_none]; simp

/-! ### list.remove of a text -/
theorem erase_mapS : ∀ (l : List Str) (j : Nat), (l.map V.str).eraseIdx j = (l.eraseIdx j).map V.str
  | [], j => by simp
  | a :: r, 0 => by simp
  | a :: r, j + 1 => by
    have ih := erase_mapS r j
    simp [ih]
def eqs (k : Str) (v : Value) : Bool := match v with
  | .str n _ => n.cps.toList == k.cps.toList
  | _ => false
theorem str_ext {a b : Str} (h : a.cps.toList = b.cps.toList) : a = b := by
  cases a; cases b
  have : (_ : Array Nat) = _ := Array.toList_inj.mp h
  simpa using this
def rRemoveS : V → List V → Hp → VK → Prop := fun x xs H Q => ∃ (l : Addr) (ns : List Str) (k : Str) (j : Nat), x = .ref l ∧ xs = [.str k] ∧ H l = some (.lst (ns.map V.str)) ∧ ns[j]? = some k ∧ (∀ m : Nat, m < j → ns[m]? ≠ some k) ∧ Q .non (upd H l (.lst ((ns.eraseIdx j).map V.str)))
theorem strs_at {its : List Value} {ns : List Str} (r : Vals (ns.map V.str) its) (m : Nat) (hm : m < ns.length) (hm' : m < its.length) : ∃ t, its[m] = Value.str ns[m] t := by
  obtain ⟨w, hw, t', hw'⟩ := r.get (i := m) (x := .str ns[m]) (by simp [hm])
  exact ⟨t', by rw [← hw', ← (List.getElem?_eq_some_iff.mp hw).2]⟩
theorem mt_removeS {X : Cx} : MtM X "list.remove" rRemoveS := by
  intro pins s σ H x xs v us Q I rx rxs h
  obtain ⟨l, ns, k, j, rfl, rfl, hH, hj, hno, q⟩ := h
  cases rx
  obtain ⟨u, rfl, ru⟩ := rxs.one
  obtain ⟨t, rfl⟩ := ru
  obtain ⟨z, its, n, r, hl, e⟩ := I.lstM hH
  rw [List.length_map] at hl z
  have hjn : j < ns.length := (List.getElem?_eq_some_iff.mp hj).1
  have hjl : j < its.toArray.size := by rw [List.size_toArray]; omega
  refine call_meets PySem.F.slot_list_remove ⟨_, e, rfl⟩ PySem.F.entry_list_remove (PySem.F.args_list_remove_2 _ _)
    (MeetsSeq.list_remove l its.toArray n (.str k t) (eqs k) (fun y hy => ?_) j hjl ?_ ?_ (by rw [List.size_toArray]; omega)) ⟨e, ?_⟩
  · have hy' : y ∈ its := by simpa using hy
    obtain ⟨m, hm, rfl⟩ := List.getElem_of_mem hy'
    obtain ⟨t', e'⟩ := strs_at r m (by omega) hm
    rw [e']
    exact SeqRoads2.EqGives.str _ _ _ _
  · obtain ⟨t', e'⟩ := strs_at r j hjn (by omega)
    have e1 : its.toArray[j] = .str ns[j] t' := by simpa using e'
    rw [e1, (List.getElem?_eq_some_iff.mp hj).2]
    exact beq_self_eq_true k.cps.toList
  · intro m hm hmj
    have hmn : m < ns.length := by omega
    obtain ⟨t', e'⟩ := strs_at r m hmn (by omega)
    have e1 : its.toArray[m] = .str ns[m] t' := by simpa using e'
    rw [e1]
    refine beq_eq_false_iff_ne.mpr fun e2 => hno m hmj ?_
    rw [List.getElem?_eq_getElem hmn, str_ext e2]
  · have rr := r.eraseIdx j
    rw [erase_mapS] at rr
    refine ⟨.non, _, I.lset (its' := its.eraseIdx j) (t' := s.toks) hH e ?_ rr ?_, rfl, q⟩
    · show its.toArray.eraseIdxIfInBounds j = (its.eraseIdx j).toArray
      rw [List.eraseIdxIfInBounds_toArray]
    · have z2 := len_erase ns j
      rw [List.length_map]
      omega
end LT

/-! LTb: draws from the tape. -/
namespace LT
open PySem PySem.Spec PyProof.Rows L2
/-- the tape at t: the script's copy, the place, what is left of a cell -/
def Tp (H : Hp) (t s : Addr) : Prop := ∃ (i c : Int), H t = some (.lst [.ref s, .int i, .int c]) ∧ 0 ≤ i ∧ 0 ≤ c
def Scr (B : Hp) (s : Addr) : Prop := ∃ ns : List Int, B s = some (.lst (ns.map V.int))
theorem Scr.grow {B B' : Hp} {s : Addr} (h : Scr B s) (e : Same B B') : Scr B' s := by
  obtain ⟨ns, h1⟩ := h
  exact ⟨ns, e _ _ h1⟩
theorem Tp.grow {H H' : Hp} {t s : Addr} (h : Tp H t s) (e : Same H H') : Tp H' t s := by
  obtain ⟨i, c, h1, h3, h4⟩ := h
  exact ⟨i, c, e _ _ h1, h3, h4⟩
theorem Tp.get {H : Hp} {t s : Addr} (h : Tp H t s) : ∃ xs, H t = some (.lst xs) := by
  obtain ⟨i, c, h1, _⟩ := h
  exact ⟨_, h1⟩
theorem Tp.sqt {K : PySem.W.Frag} {H : Hp} {t s a : Addr} {xs : List V} (h : Tp H t s) (q : SqT K H a xs) : SqT K (del H t) a xs := by
  obtain ⟨ys, e⟩ := h.get
  exact sqt_del e q
theorem Tp.ne {H : Hp} {t s p : Addr} (h : Tp H t s) (q : H p = none) : p ≠ t := by
  obtain ⟨ys, e⟩ := h.get
  exact fun z => by rw [z, e] at q; cases q
/-- a cell of the call's own, changed: the tape stands -/
theorem Tp.mut {H : Hp} {t s p : Addr} {o : HO} (h : Tp H t s) (q : p ≠ t) : Tp (upd H p o) t s := by
  obtain ⟨i, c, h1, h3, h4⟩ := h
  exact ⟨i, c, by rw [upd_ne (Ne.symm q)]; exact h1, h3, h4⟩

def sp_law_draw (K : PySem.W.Frag) : Sp := fun vs H Q _ => ∃ (t s : Addr) (m : Int), vs = [.ref t, .int m] ∧ 0 < m ∧ m ≤ 10 ^ 18 ∧ Tp H t s ∧ Scr (del H t) s ∧
  ∀ (r : Int) (H' : Hp), 0 ≤ r → r < m → Tp H' t s → del H' t = del H t → (∀ b, b ≠ t → H' b = H b) → Q (.int r) H'
abbrev N_law_draw : List Str := ["tape", "many", "prime", "cell", "found"]
def t_law_draw (K : PySem.W.Frag) : TS :=
  (tSeq (tAsg (tC (.int 2305843009213693951)) (gName 2))
    (Evl.tCut (tIfS (tTest (tOp rLtI (tOp (rIxL K) (tVar 0) (tC (.int 2))) (tVar 1))) (tSeq (tAsg (tC (.int 0)) (gName 3))
    (Evl.tCut (tIfS (tTest (tOp rGtI (tCB (rLenSq K) (tCons (tOp (rIxL K) (tVar 0) (tC (.int 0))) tNil)) (tC (.int 0)))) (tAsg (tOp (rIxL K) (tOp (rIxL K) (tVar 0) (tC (.int 0))) (tOp rModI (tOp (rIxL K) (tVar 0) (tC (.int 1))) (tCB (rLenSq K) (tCons (tOp (rIxL K) (tVar 0) (tC (.int 0))) tNil)))) (gName 3)) tNext)
    (Evl.tCut (tIfS (tOr (tTest (tOp rGeI (tOp (rIxL K) (tVar 0) (tC (.int 1))) (tCB (rLenSq K) (tCons (tOp (rIxL K) (tVar 0) (tC (.int 0))) tNil)))) (tTest (tOp rLtI (tVar 3) (tOp rPowI (tC (.int 10)) (tC (.int 18)))))) (tSeq (tAsg (tOp rModI (tOp rAddI (tVar 3) (tOp rMulI (tC (.int 1000003)) (tOp (rIxL K) (tVar 0) (tC (.int 1))))) (tVar 2)) (gName 3))
    (tSeq (tAsg (tOp rModI (tOp rAddI (tOp rAddI (tOp rMulI (tVar 3) (tVar 3)) (tOp rMulI (tC (.int 1181783497276652981)) (tVar 3))) (tC (.int 2049848353892358983))) (tVar 2)) (gName 3))
    (tAsg (tOp rModI (tOp rAddI (tOp rMulI (tVar 3) (tVar 3)) (tC (.int 1442695040888963407))) (tVar 2)) (gName 3)))) tNext)
    (tSeq (tAsg (tOp rAddI (tOp (rIxL K) (tVar 0) (tC (.int 1))) (tC (.int 1))) (gSub (tVar 0) (tC (.int 1)) rSetL))
    (tAsg (tVar 3) (gSub (tVar 0) (tC (.int 2)) rSetL)))))) tNext)
    (tSeq (tAsg (tOp rModI (tOp (rIxL K) (tVar 0) (tC (.int 2))) (tVar 1)) (gName 4))
    (tSeq (tAsg (tOp rFdivI (tOp (rIxL K) (tVar 0) (tC (.int 2))) (tVar 1)) (gSub (tVar 0) (tC (.int 2)) rSetL))
    (tRet (tVar 4))))))

theorem len_law_draw {K : PySem.W.Frag} {vs : List V} {H : Hp} {Q : VK} {E : XK} (h : sp_law_draw K vs H Q E) : vs.length = 2 := by
  obtain ⟨_, _, _, rfl, _⟩ := h
  rfl
theorem sem_law_draw {K : PySem.W.Frag} {vs : List V} {H : Hp} {Q : VK} {E : XK} (h : sp_law_draw K vs H Q E) : t_law_draw K { nx := fun _ H' => Q .non H', rt := Q } (start N_law_draw vs) H := by
  obtain ⟨t, s, m, rfl, hm, hm2, ⟨i, c, hT, hi, hc⟩, ⟨ns, hS⟩, q⟩ := h
  obtain ⟨hst, hS'⟩ := del_get hS
  unfold t_law_draw
  -- prime
  refine ⟨fun σ H1 => ∃ (x3 : Option V) (i' c' : Int), σ = [some (.ref t), some (.int m), some (.int 2305843009213693951), x3, none] ∧ H1 = upd H t (.lst [.ref s, .int i', .int c']) ∧ 0 ≤ i' ∧ 0 ≤ c', ?_, ?_⟩
  · refine ⟨_, rfl, t, _, 2, .int c, rfl, rfl, .of hT, rfl, _, rfl, c, m, rfl, rfl, _, rfl, ite2 (fun e => ?_) (fun e => ?_)⟩
    · -- cell = 0
      refine ⟨fun σ H1 => ∃ v : Int, σ = [some (.ref t), some (.int m), some (.int 2305843009213693951), some (.int v), none] ∧ H = H1, ?_, ?_⟩
      · refine ⟨_, rfl, t, _, 0, .ref s, rfl, rfl, .of hT, rfl, s, ns.map V.int, rfl, .inl (.of hS'), _, 0, rfl, rfl, _, rfl, ite2 (fun e2 => ?_) (fun e2 => ?_)⟩
        · have e3 : (0 : Int) < ((ns.map V.int).length : Int) := of_decide_eq_true e2
          have hl : i % ((ns.map V.int).length : Int) < ((ns.map V.int).length : Int) := Int.emod_lt_of_pos _ e3
          have hl0 : 0 ≤ i % ((ns.map V.int).length : Int) := Int.emod_nonneg _ (by omega)
          have hk : (i % ((ns.map V.int).length : Int)).toNat < ns.length := by
            rw [List.length_map] at hl ⊢
            rw [List.length_map] at hl0
            omega
          refine ⟨_, rfl, t, _, 0, .ref s, rfl, rfl, .of hT, rfl, _, rfl, t, _, 1, .int i, rfl, rfl, .of hT, rfl, _, rfl, t, _, 0, .ref s, rfl, rfl, .of hT, rfl, s, ns.map V.int, rfl, .inl (.of hS'), i, _, rfl, rfl, e3, s, ns.map V.int, _, .int (ns[(i % ((ns.map V.int).length : Int)).toNat]), rfl, rfl, .of hS', ?_, ?_⟩
          · have := atI_nat (xs := ns.map V.int) (j := (i % ((ns.map V.int).length : Int)).toNat) (v := .int (ns[(i % ((ns.map V.int).length : Int)).toNat])) (by simp [hk])
            rw [Int.toNat_of_nonneg hl0] at this
            exact this
          · exact ⟨_, rfl, rfl⟩
        · exact ⟨0, rfl, rfl⟩
      · rintro σ H1 ⟨v, rfl, rfl⟩
        refine ⟨fun σ H1 => ∃ v : Int, σ = [some (.ref t), some (.int m), some (.int 2305843009213693951), some (.int v), none] ∧ H = H1 ∧ 0 ≤ v, ?_, ?_⟩
        · have go : ∀ v : Int, (tSeq (tAsg (tOp rModI (tOp rAddI (tVar 3) (tOp rMulI (tC (.int 1000003)) (tOp (rIxL K) (tVar 0) (tC (.int 1))))) (tVar 2)) (gName 3))
              (tSeq (tAsg (tOp rModI (tOp rAddI (tOp rAddI (tOp rMulI (tVar 3) (tVar 3)) (tOp rMulI (tC (.int 1181783497276652981)) (tVar 3))) (tC (.int 2049848353892358983))) (tVar 2)) (gName 3))
              (tAsg (tOp rModI (tOp rAddI (tOp rMulI (tVar 3) (tVar 3)) (tC (.int 1442695040888963407))) (tVar 2)) (gName 3)))) { nx := fun σ H1 => ∃ v : Int, σ = [some (.ref t), some (.int m), some (.int 2305843009213693951), some (.int v), none] ∧ H = H1 ∧ 0 ≤ v, rt := Q } [some (.ref t), some (.int m), some (.int 2305843009213693951), some (.int v), none] H := by
            intro v
            have hp : (0 : Int) < 2305843009213693951 := by decide
            have b1 := Int.emod_nonneg (v + 1000003 * i) (show (2305843009213693951 : Int) ≠ 0 by decide)
            have b2 := Int.emod_lt_of_pos (v + 1000003 * i) hp
            generalize ew : (v + 1000003 * i) % 2305843009213693951 = w1 at b1 b2
            refine ⟨_, rfl, _, rfl, t, _, 1, .int i, rfl, rfl, .of hT, rfl, 1000003, i, rfl, rfl, .inl ⟨by decide, by decide⟩, v, _, rfl, rfl, _, rfl, _, _, rfl, rfl, hp, ?_⟩
            dsimp only
            rw [ew]
            refine ⟨_, rfl, _, rfl, w1, w1, rfl, rfl, .inl ⟨by omega, by omega⟩, _, rfl, _, w1, rfl, rfl, .inl ⟨by decide, by decide⟩, _, _, rfl, rfl, _, _, rfl, rfl, _, rfl, _, _, rfl, rfl, hp, ?_⟩
            have b3 := Int.emod_nonneg (w1 * w1 + 1181783497276652981 * w1 + 2049848353892358983) (show (2305843009213693951 : Int) ≠ 0 by decide)
            have b4 := Int.emod_lt_of_pos (w1 * w1 + 1181783497276652981 * w1 + 2049848353892358983) hp
            generalize ew2 : (w1 * w1 + 1181783497276652981 * w1 + 2049848353892358983) % 2305843009213693951 = w2 at b3 b4
            dsimp only
            rw [ew2]
            refine ⟨_, rfl, _, rfl, w2, w2, rfl, rfl, .inl ⟨by omega, by omega⟩, _, _, rfl, rfl, _, rfl, _, _, rfl, rfl, hp, ?_⟩
            exact ⟨_, rfl, rfl, Int.emod_nonneg _ (by decide)⟩
          refine ⟨_, rfl, t, _, 1, .int i, rfl, rfl, .of hT, rfl, _, rfl, t, _, 0, .ref s, rfl, rfl, .of hT, rfl, s, ns.map V.int, rfl, .inl (.of hS'), i, _, rfl, rfl, _, rfl, ite2 (fun e2 => ?_) (fun e2 => ?_)⟩
          · exact iteT (go v)
          · refine ⟨_, rfl, 10, 18, rfl, rfl, ⟨by decide, by decide, by decide⟩, v, _, rfl, rfl, _, rfl, ite2 (fun e3 => go v) (fun e3 => ⟨v, rfl, rfl, ?_⟩)⟩
            have e4 : ¬ v < (10 : Int) ^ (18 : Int).toNat := fun z => e3 (decide_eq_true z)
            have e5 : (10 : Int) ^ (18 : Int).toNat = 1000000000000000000 := by decide
            rw [e5] at e4
            omega
        · rintro σ H1 ⟨v, rfl, rfl, hv⟩
          refine ⟨_, rfl, t, _, 1, .int i, rfl, rfl, .of hT, rfl, i, 1, rfl, rfl, _, rfl, t, _, 1, 1, rfl, rfl, hT, rfl, ?_⟩
          refine ⟨_, rfl, _, rfl, t, _, 2, 2, rfl, rfl, upd_same, rfl, ?_⟩
          refine ⟨_, i + 1, v, rfl, ?_, by omega, hv⟩
          rw [upd_upd]
          rfl
    · refine ⟨none, i, c, rfl, ?_, hi, hc⟩
      funext b
      by_cases hb : b = t
      · subst hb; rw [upd_same]; exact hT
      · rw [upd_ne hb]
  · rintro σ H1 ⟨x3, i', c', rfl, rfl, hi', hc'⟩
    have hT' : (upd H t (.lst [.ref s, .int i', .int c'])) t = some (.lst [.ref s, .int i', .int c']) := upd_same
    refine ⟨_, rfl, t, _, 2, .int c', rfl, rfl, .of hT', rfl, _, rfl, c', m, rfl, rfl, hm, ?_⟩
    refine ⟨_, rfl, t, _, 2, .int c', rfl, rfl, .of hT', rfl, _, rfl, c', m, rfl, rfl, ?_, _, rfl, t, _, 2, 2, rfl, rfl, hT', rfl, ?_⟩
    · exact wide_div (b := 64) hm (by omega) (by decide) (by decide)
    · refine ⟨_, rfl, ?_⟩
      refine q _ _ (Int.emod_nonneg _ (by omega)) (Int.emod_lt_of_pos _ hm) ?_ ?_ ?_
      · exact ⟨i', c' / m, upd_same, hi', Int.ediv_nonneg hc' (by omega)⟩
      · rw [del_upd, del_upd]
      · intro b hb
        rw [upd_ne hb, upd_ne hb]

/-! ### books -/
def bookNames : List Str := ["atlas", "bible", "comics", "diary", "essays", "fables", "guide"]
def sp_law_books (K : PySem.W.Frag) : Sp := fun vs H Q _ => vs = [] ∧ ∀ p H', Same H H' → H p = none → H' p = some (.lst (bookNames.map V.str)) → Q (.ref p) H'
abbrev N_law_books : List Str := []
def t_law_books (K : PySem.W.Frag) : TS :=
  (tRet (tLst (tCons (tC (.str ("atlas" : Str))) (tCons (tC (.str ("bible" : Str))) (tCons (tC (.str ("comics" : Str))) (tCons (tC (.str ("diary" : Str))) (tCons (tC (.str ("essays" : Str))) (tCons (tC (.str ("fables" : Str))) (tCons (tC (.str ("guide" : Str))) tNil)))))))))

theorem len_law_books {K : PySem.W.Frag} {vs : List V} {H : Hp} {Q : VK} {E : XK} (h : sp_law_books K vs H Q E) : vs.length = 0 := by
  rw [h.1]; rfl
theorem sem_law_books {K : PySem.W.Frag} {vs : List V} {H : Hp} {Q : VK} {E : XK} (h : sp_law_books K vs H Q E) : t_law_books K { nx := fun _ H' => Q .non H', rt := Q } (start N_law_books vs) H := by
  obtain ⟨rfl, q⟩ := h
  exact ⟨by show 7 ≤ sizeLine; decide, fun p hp => q p _ (same_upd hp) hp upd_same⟩

/-! ### an order -/
abbrev vNat (j : Nat) : V := .int (j : Int)
theorem walk_rng {n : Nat} : Walk (Itr 0 n) n (fun _ => True) (YFn vNat) :=
  walk_range.mono (fun _ h => h) fun i H x H' _ _ y => ⟨y.1, by rw [y.2]; show V.int (0 + (i : Int)) = V.int (i : Int); rw [Int.zero_add]⟩
def sp_law_any_order (K : PySem.W.Frag) : Sp := fun vs H Q _ => ∃ (t s : Addr) (n : Nat), vs = [.ref t, vNat n] ∧ n ≤ 1000 ∧ Tp H t s ∧ Scr (del H t) s ∧
  ∀ (p : Addr) (js : List Nat) (H' : Hp), js.Perm (List.range n) → Tp H' t s → Same (del H t) (del H' t) → SqT K (del H' t) p (js.map vNat) → Q (.ref p) H'
abbrev N_law_any_order : List Str := ["tape", "many", "found", "k"]
def t_law_any_order (K : PySem.W.Frag) : TS :=
  (tSeq (tAsg (tLst tNil) (gName 2))
    (tSeq (tFor (iRng1 (tCons (tVar 1) tNil)) (gName 3)
    (tDrop (tBM K "list" rInsertL (tVar 2) (tCons (tCall (sp_law_draw K) [] E0 (tCons (tVar 0) (tCons (tOp rAddI (tVar 3) (tC (.int 1))) tNil))) (tCons (tVar 3) tNil)))))
    (tRet (tCB (rTupOf K) (tCons (tVar 2) tNil)))))

theorem len_law_any_order {K : PySem.W.Frag} {vs : List V} {H : Hp} {Q : VK} {E : XK} (h : sp_law_any_order K vs H Q E) : vs.length = 2 := by
  obtain ⟨_, _, _, rfl, _⟩ := h
  rfl
theorem insert_perm {js : List Nat} {i r : Nat} (h : js.Perm (List.range i)) : (js.take r ++ [i] ++ js.drop r).Perm (List.range (i + 1)) := by
  rw [List.range_succ]
  have h1 : (js.take r ++ [i] ++ js.drop r).Perm (js ++ [i]) := by
    rw [List.append_assoc]
    refine (List.Perm.append_left _ List.perm_append_comm).trans ?_
    rw [← List.append_assoc, List.take_append_drop]
  exact h1.trans (h.append_right [i])
theorem sem_law_any_order {K : PySem.W.Frag} {vs : List V} {H : Hp} {Q : VK} {E : XK} (h : sp_law_any_order K vs H Q E) : t_law_any_order K { nx := fun _ H' => Q .non H', rt := Q } (start N_law_any_order vs) H := by
  obtain ⟨t, s, n, rfl, hn, hT, hS, q⟩ := h
  unfold t_law_any_order
  refine ⟨Nat.zero_le _, fun l hl => ?_⟩
  have hlt : l ≠ t := hT.ne hl
  refine ⟨_, rfl, (n : Int), rfl, by omega, by omega, ?_⟩
  have key := for_it (walk_range (lo := 0) (n := n)) (g := gName 3) (tb := tDrop (tBM K "list" rInsertL (tVar 2) (tCons (tCall (sp_law_draw K) [] E0 (tCons (tVar 0) (tCons (tOp rAddI (tVar 3) (tC (.int 1))) tNil))) (tCons (tVar 3) tNil))))
    (D := { nx := tRet (tCB (rTupOf K) (tCons (tVar 2) tNil)) { nx := fun _ H' => Q .non H', rt := Q }, rt := Q }) (σ := [some (.ref t), some (vNat n), some (.ref l), none]) (H := upd H l (.lst []))
    (fun i σ H1 => ∃ (y : Option V) (js : List Nat), σ = [some (.ref t), some (vNat n), some (.ref l), y] ∧ js.Perm (List.range i) ∧ Tp H1 t s ∧ Same (del H t) (del H1 t) ∧ H1 l = some (.lst (js.map vNat))  )
    ⟨none, [], rfl, List.Perm.refl _, hT.mut hlt, by rw [del_upd_ne hlt]; exact same_mut (Same.refl _) (by rw [del_ne hlt]; exact hl), upd_same⟩ (fun _ _ _ _ _ => trivial) ?_ ?_
  · rw [Int.toNat_natCast]; exact key
  · rintro i x σ H1 H1' hi ⟨y, js, rfl, pm, hT1, sm, hL⟩ ⟨rfl, rfl⟩
    refine ⟨_, rfl, .inl ⟨rfl, _, .of hL⟩, _, rfl, _, rfl, 0 + (i : Int), 1, rfl, rfl, t, s, _, rfl, by omega, by omega, hT1, hS.grow sm, fun r H2 r0 r1 hT2 e2 k2 => ?_⟩
    have hL2 : H2 l = some (.lst (js.map vNat)) := by rw [k2 l hlt]; exact hL
    have jl : js.length = i := by rw [pm.length_eq, List.length_range]
    refine ⟨_, rfl, l, _, r, _, rfl, rfl, hL2, ?_, r0, by omega, ?_⟩
    · rw [List.length_map, jl]; exact lt_line (by omega)
    · refine ⟨_, js.take r.toNat ++ [i] ++ js.drop r.toNat, rfl, insert_perm pm, hT2.mut hlt, ?_, ?_⟩
      · rw [del_upd_ne hlt, e2]
        exact same_mut sm (by rw [del_ne hlt]; exact hl)
      · rw [upd_same]
        simp [List.map_take, List.map_drop]
  · rintro σ H1 ⟨y, js, rfl, pm, hT1, sm, hL⟩
    refine ⟨_, rfl, l, _, rfl, .inl ⟨.of hL, fun p hp => ?_⟩⟩
    have hpt := hT1.ne hp
    refine q p js _ pm (hT1.mut hpt) ?_ ?_
    · rw [del_upd_ne hpt]
      exact sm.trans (same_upd (by rw [del_ne hpt]; exact hp))
    · rw [del_upd_ne hpt]
      exact .of upd_same

/-! ### a pile -/
def sp_law_pile (K : PySem.W.Frag) : Sp := fun vs H Q _ => ∃ (t s : Addr) (m : Int), vs = [.ref t, .int m] ∧ 1 ≤ m ∧ m ≤ 7 ∧ Tp H t s ∧ Scr (del H t) s ∧
  ∀ (p : Addr) (n : Nat) (ps : List Str) (H' : Hp), 1 ≤ n → (n : Int) ≤ m → ps.Perm (bookNames.take n) → Tp H' t s → Same (del H t) (del H' t) → SqT K (del H' t) p (ps.map V.str) → Q (.ref p) H'
abbrev N_law_pile : List Str := ["tape", "size", "some", "at"]
def t_law_pile (K : PySem.W.Frag) : TS :=
  (tSeq (tAsg (tSl (rSlL K) (tCall (sp_law_books K) [] E0 tNil) tNoPart (tPart (tOp rAddI (tC (.int 1)) (tCall (sp_law_draw K) [] E0 (tCons (tVar 0) (tCons (tVar 1) tNil)))))) (gName 2))
    (tRet (tCB (rTupOf K) (tCons (tLc (iTup K (tCall (sp_law_any_order K) [] E0 (tCons (tVar 0) (tCons (tCB (rLenSq K) (tCons (tVar 2) tNil)) tNil)))) (gName 3) tYes (tOp (rIxL K) (tVar 2) (tVar 3)) [3]) tNil))))

theorem len_law_pile {K : PySem.W.Frag} {vs : List V} {H : Hp} {Q : VK} {E : XK} (h : sp_law_pile K vs H Q E) : vs.length = 2 := by
  obtain ⟨_, _, _, rfl, _⟩ := h
  rfl
/-- items of a row by an order of its places -/
theorem perm_getD {α : Type} (d : α) (xs : List α) {js : List Nat} (h : js.Perm (List.range xs.length)) : (js.map fun j => xs.getD j d).Perm xs := by
  refine (h.map _).trans ?_
  have : (List.range xs.length).map (fun j => xs.getD j d) = xs := by
    apply List.ext_getElem
    · simp
    · intro i h1 h2
      simp [h2]
  rw [this]
theorem sem_law_pile {K : PySem.W.Frag} {vs : List V} {H : Hp} {Q : VK} {E : XK} (h : sp_law_pile K vs H Q E) : t_law_pile K { nx := fun _ H' => Q .non H', rt := Q } (start N_law_pile vs) H := by
  obtain ⟨t, s, m, rfl, hm, hm2, hT, hS, q⟩ := h
  unfold t_law_pile
  refine ⟨rfl, fun b H1 s1 nb hb => ?_⟩
  have hT1 := hT.grow s1
  have hbt : b ≠ t := hT.ne nb
  refine ⟨_, rfl, _, rfl, t, s, m, rfl, by omega, by omega, hT1, hS.grow (del_mono s1), fun r H2 r0 r1 hT2 e2 k2 => ?_⟩
  refine ⟨1, r, rfl, rfl, _, rfl, b, bookNames.map V.str, rfl, .of (by rw [k2 b hbt]; exact hb), fun c hc => ?_⟩
  obtain ⟨n, hn, hn1⟩ : ∃ n : Nat, 1 + r = (n : Int) ∧ 1 ≤ n := ⟨(1 + r).toNat, by omega, by omega⟩
  have ecut : cutV (bookNames.map V.str) none (some (1 + r)) = (bookNames.take n).map V.str := by
    rw [hn, cut_to, List.map_take]
  have hct := hT2.ne hc
  have hlen : (bookNames.take n).length = n := by
    rw [List.length_take]
    have : bookNames.length = 7 := rfl
    omega
  rw [ecut]
  have hT3 : Tp (upd H2 c (.lst ((bookNames.take n).map V.str))) t s := hT2.mut hct
  have sm3 : Same (del H t) (del (upd H2 c (.lst ((bookNames.take n).map V.str))) t) := by
    rw [del_upd_ne hct, e2]
    refine (del_mono s1).trans (same_upd ?_)
    rw [← e2, del_ne hct]; exact hc
  refine ⟨_, rfl, _, rfl, c, _, rfl, .inl (.of upd_same), ?_⟩
  rw [List.length_map, hlen]
  refine ⟨t, s, n, rfl, by omega, hT3, hS.grow sm3, fun p js H4 pm hT4 sm4 hp => ?_⟩
  refine ⟨p, rfl, ⟨_, same_sqt del_same hp⟩, fun D hD => ?_⟩
  have hDt := hT4.ne hD
  have hc4 : H4 c = some (.lst ((bookNames.take n).map V.str)) := del_kp sm4 hct upd_same
  have hcD : c ≠ D := ne_of_none hc4 hD
  have hjl : js.length = n := by rw [pm.length_eq, List.length_range]
  have hp4 : SqT K H4 p (js.map vNat) := same_sqt del_same hp
  refine lc_it (walk_tup (K := K) (a := p) (xs := js.map vNat)) (LcP D fun i B acc => Same H4 B ∧ acc = ((js.take i).map fun j => (bookNames.take n).getD j "").map V.str)
    (lcp0 hD ⟨Same.refl _, rfl⟩) (fun i H5 hi ⟨acc, h1, h2, _⟩ => same_sqt (h2.trans del_same) hp4) ?_ ?_
  · rintro i x H5 H5' hi ⟨acc, h1, h2, rfl⟩ ⟨rfl, hx⟩
    have hi' : i < js.length := by rw [List.length_map] at hi; exact hi
    have ex : x = vNat js[i] := by
      rw [List.getElem?_map, List.getElem?_eq_getElem hi'] at hx
      exact (Option.some.inj hx).symm
    subst ex
    have hj : js[i] < n := by
      have := pm.mem_iff.mp (List.getElem_mem hi')
      exact List.mem_range.mp this
    refine ⟨rfl, t_yes ?_⟩
    refine ⟨_, rfl, _, rfl, c, (bookNames.take n).map V.str, _, .str ((bookNames.take n).getD js[i] ""), rfl, rfl, .of ?_, atI_nat ?_, ?_⟩
    · exact (h2.trans del_same) _ _ hc4
    · rw [List.getElem?_map, List.getElem?_eq_getElem (by rw [hlen]; exact hj)]
      simp [List.getD, hlen, hj]
    · refine lcp_push h1 ?_ ⟨h2, ?_⟩
      · simp only [List.length_map, List.length_take]
        exact lt_line (by omega)
      · rw [take_push _ _ _ hi', List.map_append]
        rfl
  · rintro H5 ⟨acc, h1, h2, rfl⟩
    refine ⟨D, _, rfl, .inl ⟨.of h1, fun p' hp' => ?_⟩⟩
    rw [List.length_map, List.take_length] at h1
    rw [List.length_map, List.take_length]
    have s45 : Same H4 H5 := h2.trans del_same
    have hp't := (hT4.grow s45).ne hp'
    refine q p' n (js.map fun j => (bookNames.take n).getD j "") _ hn1 (by omega) ?_ ((hT4.grow s45).mut hp't) ?_ ?_
    · exact perm_getD ("" : Str) (bookNames.take n) (js := js) (by rw [hlen]; exact pm)
    · rw [del_upd_ne hp't]
      exact (sm3.trans sm4).trans ((del_mono s45).trans (same_upd (by rw [del_ne hp't]; exact hp')))
    · rw [del_upd_ne hp't]
      exact .of upd_same

/-! ### readings -/
def sp_law_readings (K : PySem.W.Frag) : Sp := fun vs H Q _ => ∃ (t s a : Addr) (ps : List Str) (m : Nat), vs = [.ref t, .ref a, vNat m] ∧ ps ≠ [] ∧ ps.length ≤ 7 ∧ m ≤ 60 ∧ Tp H t s ∧ Scr (del H t) s ∧ SqT K (del H t) a (ps.map V.str) ∧
  ∀ (p : Addr) (rs : List Str) (H' : Hp), rs.length ≤ m → (∀ r ∈ rs, r ∈ ps) → Tp H' t s → Same (del H t) (del H' t) → H p = none → H' p = some (.lst (rs.map V.str)) → Q (.ref p) H'
abbrev N_law_readings : List Str := ["tape", "books", "size", "some", "k"]
def t_law_readings (K : PySem.W.Frag) : TS :=
  (tSeq (tAsg (tSl (rSlL K) (tCB (rListOf K) (tCons (tVar 1) tNil)) tNoPart (tPart (tOp rAddI (tC (.int 1)) (tCall (sp_law_draw K) [] E0 (tCons (tVar 0) (tCons (tCB (rLenSq K) (tCons (tVar 1) tNil)) tNil)))))) (gName 3))
    (tRet (tLc (iRng1 (tCons (tCall (sp_law_draw K) [] E0 (tCons (tVar 0) (tCons (tOp rAddI (tVar 2) (tC (.int 1))) tNil))) tNil)) (gName 4) tYes (tOp (rIxL K) (tVar 3) (tCall (sp_law_draw K) [] E0 (tCons (tVar 0) (tCons (tCB (rLenSq K) (tCons (tVar 3) tNil)) tNil)))) [4])))

theorem len_law_readings {K : PySem.W.Frag} {vs : List V} {H : Hp} {Q : VK} {E : XK} (h : sp_law_readings K vs H Q E) : vs.length = 3 := by
  obtain ⟨_, _, _, _, _, rfl, _⟩ := h
  rfl
theorem sem_law_readings {K : PySem.W.Frag} {vs : List V} {H : Hp} {Q : VK} {E : XK} (h : sp_law_readings K vs H Q E) : t_law_readings K { nx := fun _ H' => Q .non H', rt := Q } (start N_law_readings vs) H := by
  obtain ⟨t, s, a, ps, m, rfl, hps, hpl, hm, hT, hS, hA, q⟩ := h
  unfold t_law_readings
  have hA0 : SqT K H a (ps.map V.str) := same_sqt del_same hA
  have hpos : 0 < ps.length := List.length_pos_iff.mpr hps
  refine ⟨_, rfl, a, _, rfl, .inr hA0, fun b nb => ?_⟩
  have hbt := hT.ne nb
  have hT1 : Tp (upd H b (.lst (ps.map V.str))) t s := hT.mut hbt
  have sm1 : Same (del H t) (del (upd H b (.lst (ps.map V.str))) t) := del_mono (same_upd nb)
  refine ⟨_, rfl, _, rfl, a, _, rfl, .inr (same_sqt (same_upd nb) hA0), t, s, _, rfl, ?_, ?_, hT1, hS.grow sm1, fun r H2 r0 r1 hT2 e2 k2 => ?_⟩
  · rw [List.length_map]; omega
  · rw [List.length_map]; omega
  rw [List.length_map] at r1
  refine ⟨1, r, rfl, rfl, _, rfl, b, ps.map V.str, rfl, .of (by rw [k2 b hbt]; exact upd_same), fun c hc => ?_⟩
  obtain ⟨n, hn, hn1⟩ : ∃ n : Nat, 1 + r = (n : Int) ∧ 1 ≤ n := ⟨(1 + r).toNat, by omega, by omega⟩
  have ecut : cutV (ps.map V.str) none (some (1 + r)) = (ps.take n).map V.str := by
    rw [hn, cut_to, List.map_take]
  have hlen : (ps.take n).length = n := by
    rw [List.length_take]
    omega
  rw [ecut]
  have hct := hT2.ne hc
  have hT3 : Tp (upd H2 c (.lst ((ps.take n).map V.str))) t s := hT2.mut hct
  have sm3 : Same (del H t) (del (upd H2 c (.lst ((ps.take n).map V.str))) t) := by
    rw [del_upd_ne hct, e2]
    refine sm1.trans (same_upd ?_)
    rw [← e2, del_ne hct]; exact hc
  refine ⟨_, rfl, _, rfl, _, _, rfl, rfl, t, s, _, rfl, by omega, by omega, hT3, hS.grow sm3, fun k H4 k0 k1 hT4 e4 kk4 => ?_⟩
  have hc4 : H4 c = some (.lst ((ps.take n).map V.str)) := by rw [kk4 c hct]; exact upd_same
  have sm4 : Same (del H t) (del H4 t) := by rw [e4]; exact sm3
  refine ⟨k, rfl, by omega, by omega, fun D hD => ?_⟩
  have hDt := hT4.ne hD
  have hcD : c ≠ D := ne_of_none hc4 hD
  refine lc_it walk_range (LcP D fun i B acc => ∃ rs : List Str, Tp B t s ∧ Same (del H4 t) (del B t) ∧ acc = rs.map V.str ∧ rs.length = i ∧ ∀ r ∈ rs, r ∈ ps)
    (lcp0 hD ⟨[], hT4, Same.refl _, rfl, rfl, fun r hr => nomatch hr⟩) (fun _ _ _ _ => trivial) ?_ ?_
  · rintro i x H5 H5' hi ⟨acc, h1, rs, h2, h3, rfl, h5, h6⟩ ⟨rfl, rfl⟩
    have hT5 : Tp H5' t s := h2.grow del_same
    have hc5 : H5' c = some (.lst ((ps.take n).map V.str)) := by
      have := h3 c _ (by rw [del_ne hct]; exact hc4)
      exact (del_get (del_get this).2).2
    have sm5 : Same (del H4 t) (del H5' t) := h3.trans (del_mono del_same)
    refine ⟨rfl, t_yes ?_⟩
    refine ⟨_, rfl, _, rfl, _, rfl, c, _, rfl, .inl (.of hc5), ?_⟩
    rw [List.length_map, hlen]
    refine ⟨t, s, _, rfl, by omega, by omega, hT5, hS.grow (sm4.trans sm5), fun j H6 j0 j1 hT6 e6 kk6 => ?_⟩
    have hj : j.toNat < (ps.take n).length := by rw [hlen]; omega
    refine ⟨c, (ps.take n).map V.str, j, .str ((ps.take n)[j.toNat]), rfl, rfl, .of (by rw [kk6 c hct]; exact hc5), ?_, ?_⟩
    · have := atI_nat (xs := (ps.take n).map V.str) (j := j.toNat) (v := .str ((ps.take n)[j.toNat])) (by rw [List.getElem?_map, List.getElem?_eq_getElem hj]; rfl)
      rw [Int.toNat_of_nonneg j0] at this
      exact this
    · refine lcp_push (acc := rs.map V.str) (by rw [kk6 D hDt]; exact h1) (by rw [List.length_map, h5]; exact lt_line (by omega)) ⟨rs ++ [(ps.take n)[j.toNat]], ?_, ?_, by rw [List.map_append]; rfl, by rw [List.length_append, h5]; rfl, ?_⟩
      · obtain ⟨i', c', g1, g2, g3⟩ := hT6
        exact ⟨i', c', by rw [del_ne (Ne.symm hDt)]; exact g1, g2, g3⟩
      · intro x o hx
        have hx1 := h3 x o hx
        obtain ⟨y1, y2⟩ := del_get hx1
        obtain ⟨y3, y4⟩ := del_get y2
        rw [del_ne y1, del_ne y3, kk6 x y1]
        exact y4
      · intro r hr
        rcases List.mem_append.mp hr with hr | hr
        · exact h6 r hr
        · rw [List.mem_singleton] at hr
          subst hr
          exact List.mem_of_mem_take (List.getElem_mem hj)
  · rintro H5 ⟨acc, h1, rs, h2, h3, rfl, h5, h6⟩
    refine q D rs H5 (by rw [h5]; omega) h6 (h2.grow del_same) (sm4.trans (h3.trans (del_mono del_same))) ?_ h1
    cases e : H D with
    | none => rfl
    | some o =>
      have := del_kp sm4 hDt e
      rw [this] at hD
      cases hD
end LT

/-! LTm: the mathematics of piles, in plain Lean. -/
namespace LT
section
variable {α : Type} [DecidableEq α]
/-- taken and laid on top -/
def tk (ps : List α) (z : α) : List α := z :: ps.erase z
def bh (ps rs : List α) : List α := rs.foldl tk ps
def lf : List α → List α → List Nat
  | _, [] => []
  | ps, r :: rs => ps.idxOf r :: lf (tk ps r) rs
/-- who passed whom -/
def pw : List α → List α → List (α × α)
  | _, [] => []
  | ps, r :: rs => (ps.take (ps.idxOf r)).map (fun o => (r, o)) ++ pw (tk ps r) rs
theorem bh_nil (ps : List α) : bh ps [] = ps := rfl
theorem bh_cons (ps : List α) (r : α) (rs : List α) : bh ps (r :: rs) = bh (tk ps r) rs := rfl
theorem bh_snoc (ps rs : List α) (r : α) : bh ps (rs ++ [r]) = tk (bh ps rs) r := by simp [bh]
theorem bh_append (ps rs qs : List α) : bh ps (rs ++ qs) = bh (bh ps rs) qs := by simp [bh]
theorem lf_append : ∀ (rs ps qs : List α), lf ps (rs ++ qs) = lf ps rs ++ lf (bh ps rs) qs
  | [], _, _ => rfl
  | r :: rs, ps, qs => by
    show ps.idxOf r :: lf (tk ps r) (rs ++ qs) = _
    rw [lf_append rs (tk ps r) qs]
    rfl
theorem pw_append : ∀ (rs ps qs : List α), pw ps (rs ++ qs) = pw ps rs ++ pw (bh ps rs) qs
  | [], _, _ => rfl
  | r :: rs, ps, qs => by
    show _ ++ pw (tk ps r) (rs ++ qs) = _
    rw [pw_append rs (tk ps r) qs, ← List.append_assoc]
    rfl
theorem lf_snoc (ps rs : List α) (r : α) : lf ps (rs ++ [r]) = lf ps rs ++ [(bh ps rs).idxOf r] := lf_append rs ps [r]
theorem pw_snoc (ps rs : List α) (r : α) : pw ps (rs ++ [r]) = pw ps rs ++ ((bh ps rs).take ((bh ps rs).idxOf r)).map (fun o => (r, o)) := by
  rw [pw_append]
  show _ ++ (_ ++ []) = _
  rw [List.append_nil]
theorem lf_length : ∀ (rs ps : List α), (lf ps rs).length = rs.length
  | [], _ => rfl
  | r :: rs, ps => by
    show (lf (tk ps r) rs).length + 1 = rs.length + 1
    rw [lf_length rs]
theorem tk_perm {ps : List α} {z : α} (h : z ∈ ps) : (tk ps z).Perm ps := (List.perm_cons_erase h).symm
theorem bh_perm : ∀ {rs ps : List α}, (∀ r ∈ rs, r ∈ ps) → (bh ps rs).Perm ps
  | [], ps, _ => List.Perm.refl ps
  | r :: rs, ps, h => by
    have h1 := tk_perm (h r (List.mem_cons_self ..))
    have h2 : (bh (tk ps r) rs).Perm (tk ps r) := bh_perm fun x hx => h1.mem_iff.mpr (h x (List.mem_cons_of_mem _ hx))
    exact h2.trans h1
theorem idx_ne {a z : α} {r : List α} (e : a ≠ z) : (a :: r).idxOf z = r.idxOf z + 1 := by
  rw [List.idxOf_cons, beq_eq_false_iff_ne.mpr e]
  rfl
theorem idx_at {ps : List α} {z : α} (h : z ∈ ps) : ps[ps.idxOf z]? = some z ∧ ∀ m, m < ps.idxOf z → ps[m]? ≠ some z := by
  induction ps with
  | nil => cases h
  | cons a r ih =>
    by_cases e : a = z
    · subst e
      rw [List.idxOf_cons_self]
      exact ⟨rfl, fun m hm => absurd hm (Nat.not_lt_zero _)⟩
    · have h' : z ∈ r := by
        rcases List.mem_cons.mp h with q | q
        · exact absurd q.symm e
        · exact q
      obtain ⟨i1, i2⟩ := ih h'
      rw [idx_ne e]
      refine ⟨i1, fun m hm => ?_⟩
      cases m with
      | zero => simpa using e
      | succ m => simpa using i2 m (by omega)
theorem erase_idx {ps : List α} (z : α) : ps.eraseIdx (ps.idxOf z) = ps.erase z := by
  induction ps with
  | nil => rfl
  | cons a r ih =>
    by_cases e : a = z
    · subst e
      rw [List.idxOf_cons_self, List.erase_cons_head]
      rfl
    · rw [idx_ne e, List.erase_cons_tail (by simpa using e)]
      show a :: r.eraseIdx (r.idxOf z) = _
      rw [ih]
theorem take_snoc {l : List α} {i : Nat} {x : α} (h : l[i]? = some x) : l.take (i + 1) = l.take i ++ [x] := by
  rw [List.take_add_one, h]
  rfl
theorem filter_take_pos {p : α → Bool} {l : List α} {j : Nat} {z : α} (h : l[j]? = some z) (hp : p z = true) : (l.take (j + 1)).filter p = (l.take j).filter p ++ [z] := by
  rw [take_snoc h, List.filter_append, List.filter_cons, if_pos hp, List.filter_nil]
theorem filter_take_neg {p : α → Bool} {l : List α} {j : Nat} {z : α} (h : l[j]? = some z) (hp : p z = false) : (l.take (j + 1)).filter p = (l.take j).filter p := by
  rw [take_snoc h, List.filter_append, List.filter_cons, if_neg (by rw [hp]; exact Bool.false_ne_true), List.filter_nil, List.append_nil]
end
end LT

/-! LTc: texts in lists, a for over either kind, readings gone through by the law itself. -/
namespace LT
open PySem PySem.Spec PyProof.Rows L2
section
variable {K : PySem.W.Frag} {H : Hp} {Q : VK}
abbrev SqA (K : PySem.W.Frag) (H : Hp) (a : Addr) (xs : List V) : Prop := SqL K H a xs ∨ SqT K H a xs
theorem SqA.grow {a : Addr} {xs : List V} {H' : Hp} (h : SqA K H a xs) (e : Same H H') : SqA K H' a xs := h.elim (fun q => .inl (e.seq q)) fun q => .inr (same_sqt e q)
theorem seq_go {t u : TS} {D : Ends} {σ : L2.St} {H : Hp} (h : t { D with nx := u D } σ H) : tSeq t u D σ H := h
theorem asg_go {te : TE} {g : TG} {D : Ends} {σ : L2.St} {H : Hp} (h : te σ H fun x H1 => g x σ H1 D.nx) : tAsg te g D σ H := h
theorem drop_go {te : TE} {D : Ends} {σ : L2.St} {H : Hp} (h : te σ H fun _ H1 => D.nx σ H1) : tDrop te D σ H := h
theorem ret_go {te : TE} {D : Ends} {σ : L2.St} {H : Hp} (h : te σ H D.rt) : tRet te D σ H := h
theorem cb_go {r : List V → Hp → VK → Prop} {t : TA} {σ : L2.St} {H : Hp} {Q : VK} (h : t σ H fun vs H1 => r vs H1 Q) : tCB r t σ H Q := h
theorem cons_go {ta : TE} {tr : TA} {σ : L2.St} {H : Hp} {Q : List V → Hp → Prop} (h : ta σ H fun x H1 => tr σ H1 fun xs H2 => Q (x :: xs) H2) : tCons ta tr σ H Q := h
theorem op_go {r : R2} {ta tb : TE} {σ : L2.St} {H : Hp} {Q : VK} (h : ta σ H fun x H1 => tb σ H1 fun y H2 => r x y H2 Q) : tOp r ta tb σ H Q := h
theorem test_go {t : TE} {σ : L2.St} {H : Hp} {Q : Bool → Hp → Prop} (h : t σ H fun x H' => ∃ k, x = .bl k ∧ Q k H') : tTest t σ H Q := h
theorem ifs_go {c : TT} {t u : TS} {D : Ends} {σ : L2.St} {H : Hp} (h : c σ H fun b H1 => if b = true then t D σ H1 else u D σ H1) : tIfS c t u D σ H := h
theorem call_go {sp : Sp} {dvs : List V} {E : XK} {t : TA} {σ : L2.St} {H : Hp} {Q : VK} (h : t σ H fun vs H1 => sp (vs ++ dvs) H1 Q E) : tCall sp dvs E t σ H Q := h
theorem var_go {i : Nat} {σ : L2.St} {H : Hp} {Q : VK} {v : V} (h : σ[i]? = some (some v)) (q : Q v H) : tVar i σ H Q := ⟨v, h, q⟩
theorem c_go {v : V} {σ : L2.St} {H : Hp} {Q : VK} (h : Q v H) : tC v σ H Q := h
theorem nop_go {σ : L2.St} {H : Hp} {Q : Option Int → Hp → Prop} (h : Q none H) : tNoPart σ H Q := h
theorem nil_go {σ : L2.St} {H : Hp} {Q : List V → Hp → Prop} (h : Q [] H) : tNil σ H Q := h
theorem r_index {a : Addr} {ps : List Str} {z : Str} (h : SqL K H a (ps.map V.str)) (hz : z ∈ ps) (q : Q (vNat (ps.idxOf z)) H) : rIndex K (.ref a) [.str z] H Q := by
  obtain ⟨h1, h2⟩ := idx_at hz
  refine ⟨a, _, .str z, ps.idxOf z, .str z, rfl, rfl, h, rfl, flat_strs ps, by rw [List.getElem?_map, h1]; rfl, beq_self_eq_true z, fun m z' hm e => ?_, q⟩
  rw [List.getElem?_map] at e
  cases e2 : ps[m]? with
  | none => rw [e2] at e; cases e
  | some y =>
    rw [e2] at e
    cases e
    show (y == z) = false
    exact beq_eq_false_iff_ne.mpr fun e3 => h2 m hm (e3 ▸ e2)
theorem r_tindex {a : Addr} {ps : List Str} {z : Str} (h : SqT K H a (ps.map V.str)) (hz : z ∈ ps) (q : Q (vNat (ps.idxOf z)) H) : rTupIx K (.ref a) [.str z] H Q := by
  obtain ⟨h1, h2⟩ := idx_at hz
  exact ⟨a, ps, z, ps.idxOf z, rfl, rfl, h, h1, h2, q⟩
theorem r_remove {a : Addr} {ps : List Str} {z : Str} (h : H a = some (.lst (ps.map V.str))) (hz : z ∈ ps) (q : Q .non (upd H a (.lst ((ps.erase z).map V.str)))) : rRemoveS (.ref a) [.str z] H Q := by
  obtain ⟨h1, h2⟩ := idx_at hz
  exact ⟨a, ps, z, ps.idxOf z, rfl, rfl, h, h1, h2, by rw [erase_idx]; exact q⟩
theorem r_insert0 {a : Addr} {xs : List V} {y : V} (h : H a = some (.lst xs)) (hl : xs.length < sizeLine) (q : Q .non (upd H a (.lst (y :: xs)))) : rInsertL (.ref a) [.int 0, y] H Q :=
  ⟨a, xs, 0, y, rfl, rfl, h, hl, by decide, by decide, q⟩
theorem f_seq {i : Nat} {g : TG} {tb : TS} {D : Ends} {σ : L2.St} {b : Addr} {xs : List V} (hb : σ[i]? = some (some (.ref b))) {Hb : Hp} (h : SqA K Hb b xs) (Pv : Nat → L2.St → Hp → Prop) (h0 : Pv 0 σ H) (hG : ∀ j σ H', Pv j σ H' → Same Hb H')
    (hs : ∀ j x σ H1, xs[j]? = some x → Pv j σ H1 → g x σ H1 fun σ2 H2 => tb { D with nx := Pv (j + 1), ct := Pv (j + 1), bk := D.nx } σ2 H2) (hd : ∀ σ H1, Pv xs.length σ H1 → D.nx σ H1) : tFor (iSeq K (tVar i)) g tb D σ H := by
  rcases h with h | h
  · exact .inl ⟨_, hb, b, rfl, ⟨_, (hG _ _ _ h0).seq h⟩, for_it (walk_list (K := K) (a := b) (xs := xs)) Pv h0 (fun j σ H' _ p => (hG j σ H' p).seq h) (fun j x σ H1 H1' hj p y => by obtain ⟨rfl, e⟩ := y; exact hs j x σ _ e p) hd⟩
  · exact .inr ⟨_, hb, b, rfl, ⟨_, same_sqt (hG _ _ _ h0) h⟩, for_it (walk_tup (K := K) (a := b) (xs := xs)) Pv h0 (fun j σ H' _ p => same_sqt (hG j σ H' p) h) (fun j x σ H1 H1' hj p y => by obtain ⟨rfl, e⟩ := y; exact hs j x σ _ e p) hd⟩
theorem at_str {rs : List Str} {j : Nat} {x : V} (h : (rs.map V.str)[j]? = some x) : ∃ z, rs[j]? = some z ∧ x = .str z := by
  rw [List.getElem?_map] at h
  cases e : rs[j]? with
  | none => rw [e] at h; cases h
  | some z => rw [e] at h; cases h; exact ⟨z, rfl, rfl⟩
/-- tuples of two texts each -/
abbrev Twos (H : Hp) (as : List Addr) (rows : List (Str × Str)) : Prop := Paired (fun (a : Addr) (r : Str × Str) => H a = some (.tup [.str r.1, .str r.2])) as rows
theorem Twos.grow {H' : Hp} {as : List Addr} {rows : List (Str × Str)} (h : Twos H as rows) (e : Same H H') : Twos H' as rows := Paired.mapP h fun a r q => e _ _ q
theorem paired_append {α β : Type} {F : α → β → Prop} : ∀ {l₁ : List α} {l₂ : List β} {m₁ : List α} {m₂ : List β}, Paired F l₁ l₂ → Paired F m₁ m₂ → Paired F (l₁ ++ m₁) (l₂ ++ m₂)
  | _, _, _, _, .nil, s => s
  | _, _, _, _, .cons r t, s => .cons r (paired_append t s)
/-- tuples stay when a list is changed -/
theorem Twos.mut {as : List Addr} {rows : List (Str × Str)} {l : Addr} {xs : List V} {o : HO} (h : Twos H as rows) (hl : H l = some (.lst xs)) : Twos (upd H l o) as rows :=
  Paired.mapP h fun a r q => by rw [upd_ne (ne_of q hl fun z => nomatch z)]; exact q
end
def sp_law_read (K : PySem.W.Frag) : Sp := fun vs H Q _ => ∃ (a b : Addr) (ps rs : List Str), vs = [.ref a, .ref b] ∧ SqA K H a (ps.map V.str) ∧ SqA K H b (rs.map V.str) ∧ ps.length ≤ 100 ∧ rs.length ≤ 1000 ∧ (∀ r ∈ rs, r ∈ ps) ∧
  ∀ (p u n w : Addr) (as : List Addr) (H' : Hp), Same H H' → H' p = some (.tup [.ref u, .ref n, .ref w]) → SqT K H' u ((bh ps rs).map V.str) → H n = none → H' n = some (.lst ((lf ps rs).map vNat)) → H w = none → H' w = some (.lst (as.map V.ref)) → Twos H' as (pw ps rs) → Q (.ref p) H'
abbrev N_law_read : List Str := ["pile", "readings", "left", "numbers", "rows", "book", "above", "other"]
def t_law_read (K : PySem.W.Frag) : TS :=
  (tSeq (tPar3 2 3 4 (tCons (tCB (rListOf K) (tCons (tVar 0) tNil)) (tCons (tLst tNil) (tCons (tLst tNil) tNil))))
    (tSeq (tFor (iSeq K (tVar 1)) (gName 5)
    (tSeq (tAsg (tSl (rSlL K) (tVar 2) tNoPart (tPart (tBM K "list" (rIndex K) (tVar 2) (tCons (tVar 5) tNil)))) (gName 6))
    (tSeq (tDrop (tBM K "list" rAppend (tVar 3) (tCons (tCB (rLenSq K) (tCons (tVar 6) tNil)) tNil)))
    (tSeq (tAsg (tOp rCat (tVar 4) (tLc (iList K (tVar 6)) (gName 7) tYes (tTup (tCons (tVar 5) (tCons (tVar 7) tNil))) [7])) (gName 4))
    (tSeq (tDrop (tBM K "list" rRemoveS (tVar 2) (tCons (tVar 5) tNil)))
    (tDrop (tBM K "list" rInsertL (tVar 2) (tCons (tC (.int 0)) (tCons (tVar 5) tNil)))))))))
    (tRet (tTup (tCons (tCB (rTupOf K) (tCons (tVar 2) tNil)) (tCons (tVar 3) (tCons (tVar 4) tNil)))))))

theorem len_law_read {K : PySem.W.Frag} {vs : List V} {H : Hp} {Q : VK} {E : XK} (h : sp_law_read K vs H Q E) : vs.length = 2 := by
  obtain ⟨_, _, _, _, rfl, _⟩ := h
  rfl
theorem pw_len (ps : List Str) : ∀ rs : List Str, (∀ r ∈ rs, r ∈ ps) → (pw ps rs).length ≤ rs.length * ps.length := by
  intro rs
  induction rs generalizing ps with
  | nil => intro _; simp [pw]
  | cons r rs ih =>
    intro h
    have h1 := tk_perm (h r (List.mem_cons_self ..))
    have := ih (tk ps r) fun x hx => h1.mem_iff.mpr (h x (List.mem_cons_of_mem _ hx))
    rw [h1.length_eq] at this
    simp only [pw, List.length_append, List.length_map, List.length_take, List.length_cons, Nat.add_mul, Nat.one_mul]
    omega
theorem sem_law_read {K : PySem.W.Frag} {vs : List V} {H : Hp} {Q : VK} {E : XK} (h : sp_law_read K vs H Q E) : t_law_read K { nx := fun _ H' => Q .non H', rt := Q } (start N_law_read vs) H := by
  obtain ⟨a, b, ps, rs, rfl, hA, hB, hpl, hrl, hin, q⟩ := h
  unfold t_law_read
  refine ⟨_, rfl, a, _, rfl, hA, fun l nl => ?_⟩
  refine ⟨Nat.zero_le _, fun n nn => ⟨Nat.zero_le _, fun w nw => ⟨_, _, _, rfl, ?_⟩⟩⟩
  have s1 := same_upd (o := .lst (ps.map V.str)) nl
  have s2 := same_upd (o := .lst []) nn
  have s3 := same_upd (o := .lst []) nw
  have hln : l ≠ n := fun e => by rw [← e, upd_same] at nn; cases nn
  have hlw : l ≠ w := fun e => by rw [← e, upd_ne hln, upd_same] at nw; cases nw
  have hnw : n ≠ w := fun e => by rw [← e, upd_same] at nw; cases nw
  have nn0 : H n = none := s1.free nn
  have nw0 : H w = none := s1.free (s2.free nw)
  refine f_seq (i := 1) (b := b) (xs := rs.map V.str) (Hb := H) rfl hB
    (fun i σ H1 => ∃ (w : Addr) (as : List Addr) (y5 y6 y7 : Option V), σ = [some (.ref a), some (.ref b), some (.ref l), some (.ref n), some (.ref w), y5, y6, y7] ∧ Same H H1 ∧ l ≠ w ∧ n ≠ w ∧ H w = none ∧
      H1 l = some (.lst ((bh ps (rs.take i)).map V.str)) ∧ H1 n = some (.lst ((lf ps (rs.take i)).map vNat)) ∧ H1 w = some (.lst (as.map V.ref)) ∧ Twos H1 as (pw ps (rs.take i)))
    ⟨w, [], none, none, none, rfl, s1.trans (s2.trans s3), hlw, hnw, nw0, s3 _ _ (s2 _ _ upd_same), s3 _ _ upd_same, upd_same, .nil⟩ ?_ ?_ ?_
  · rintro j σ H1 ⟨_, _, _, _, _, _, h, _⟩
    exact h
  · rintro i x σ H1 hx ⟨w, as, y5, y6, y7, rfl, sm, hlw, hnw, nw, hL, hN, hW, tw⟩
    obtain ⟨r, hr, rfl⟩ := at_str hx
    have hir : i < rs.length := (List.getElem?_eq_some_iff.mp hr).1
    have hrm : r ∈ rs := List.mem_of_getElem? hr
    have hin' : ∀ x ∈ rs.take i, x ∈ ps := fun x hx => hin x (List.mem_of_mem_take hx)
    have pb := bh_perm hin'
    have hrp : r ∈ bh ps (rs.take i) := pb.mem_iff.mpr (hin r hrm)
    generalize eP : bh ps (rs.take i) = P at hL hrp pb
    have hPl : P.length ≤ 100 := by rw [pb.length_eq]; exact hpl
    -- above
    refine ⟨_, rfl, _, rfl, .inl ⟨rfl, _, .of hL⟩, _, rfl, nil_go (r_index (.of hL) hrp ⟨_, rfl, l, _, rfl, .of hL, fun c nc => ?_⟩)⟩
    rw [cut_to, ← List.map_take]
    have sc := same_upd (o := .lst ((P.take (P.idxOf r)).map V.str)) nc
    have hcn : c ≠ n := fun e => by rw [e, hN] at nc; cases nc
    have hcl : c ≠ l := fun e => by rw [e, hL] at nc; cases nc
    -- numbers.append(len(above))
    refine ⟨_, rfl, .inl ⟨rfl, _, .of (sc _ _ hN)⟩, _, rfl, c, _, rfl, .inl (.of upd_same), n, _, _, rfl, rfl, sc _ _ hN, ?_, ?_⟩
    · rw [List.length_map, lf_length, List.length_take]
      exact lt_line (by omega)
    have eN : (lf ps (rs.take i)).map vNat ++ [V.int (((P.take (P.idxOf r)).map V.str).length : Int)] = (lf ps (rs.take (i + 1))).map vNat := by
      rw [take_snoc hr, lf_snoc, eP, List.map_append, List.length_map, List.length_take, Nat.min_eq_left (List.idxOf_le_length)]
      rfl
    rw [eN]
    generalize eH2 : upd (upd H1 c (.lst ((P.take (P.idxOf r)).map V.str))) n (.lst ((lf ps (rs.take (i + 1))).map vNat)) = H2
    have sm2 : Same H H2 := by
      rw [← eH2]
      exact same_mut (sm.trans sc) nn0
    have hL2 : H2 l = some (.lst (P.map V.str)) := by rw [← eH2, upd_ne hln]; exact sc _ _ hL
    have hN2 : H2 n = some (.lst ((lf ps (rs.take (i + 1))).map vNat)) := by rw [← eH2]; exact upd_same
    have hW2 : H2 w = some (.lst (as.map V.ref)) := by rw [← eH2, upd_ne (Ne.symm hnw)]; exact sc _ _ hW
    have hC2 : H2 c = some (.lst ((P.take (P.idxOf r)).map V.str)) := by rw [← eH2, upd_ne hcn]; exact upd_same
    have tw2 : Twos H2 as (pw ps (rs.take i)) := by rw [← eH2]; exact (tw.grow sc).mut (sc _ _ hN)
    -- rows + the new ones
    refine ⟨_, rfl, _, rfl, c, rfl, ⟨_, .of hC2⟩, fun D nD => ?_⟩
    refine lc_it (walk_list (K := K) (a := c) (xs := (P.take (P.idxOf r)).map V.str)) (LcP D fun j B acc => Same H2 B ∧ ∃ bs, acc = bs.map V.ref ∧ Twos B bs (((P.take (P.idxOf r)).take j).map fun o => (r, o)))
      (lcp0 nD ⟨Same.refl _, [], rfl, .nil⟩) (fun j H5 hj ⟨acc, h1, h2, _⟩ => .of ((h2.trans del_same) _ _ hC2)) ?_ ?_
    · rintro j x H5 H5' hj ⟨acc, h1, h2, bs, rfl, h3⟩ ⟨rfl, hx⟩
      obtain ⟨o, ho, rfl⟩ := at_str hx
      refine ⟨rfl, t_yes ?_⟩
      refine ⟨_, rfl, _, rfl, by show 2 ≤ sizeLine; decide, fun T nT => ?_⟩
      have hTD : D ≠ T := ne_of_none h1 nT
      refine lcp_push (acc := bs.map V.ref) (by rw [upd_ne hTD]; exact h1) ?_ ⟨?_, bs ++ [T], by rw [List.map_append]; rfl, ?_⟩
      · have := h3.length
        simp only [List.length_map, List.length_take] at this ⊢
        exact lt_line (by omega)
      · rw [del_upd_ne (Ne.symm hTD)]
        exact h2.trans (same_upd (by rw [del_ne (Ne.symm hTD)]; exact nT))
      · rw [take_snoc ho, List.map_append, del_upd_ne (Ne.symm hTD)]
        exact (h3.grow (same_upd (by rw [del_ne (Ne.symm hTD)]; exact nT))).snoc upd_same
    · rintro H5 ⟨acc, h1, h2, bs, rfl, h3⟩
      rw [List.length_map, List.take_length] at h3
      have s25 : Same H2 H5 := h2.trans del_same
      have h3' := h3.grow del_same
      have ePW : pw ps (rs.take i) ++ (P.take (P.idxOf r)).map (fun o => (r, o)) = pw ps (rs.take (i + 1)) := by rw [take_snoc hr, pw_snoc, eP]
      refine ⟨w, D, _, _, rfl, rfl, s25 _ _ hW2, h1, ?_, fun w' nw' => ?_⟩
      · have e1 := (tw2.grow s25).length
        have e2 := h3'.length
        have e3 := pw_len ps (rs.take i) hin'
        rw [List.length_take] at e3
        have e4 : (min i rs.length) * ps.length ≤ 1000 * 100 := Nat.mul_le_mul (by omega) hpl
        simp only [List.length_map, List.length_take] at e2 ⊢
        exact le_line (by omega)
      rw [← List.map_append]
      have s6 := same_upd (o := .lst ((as ++ bs).map V.ref)) nw'
      have hlw' : l ≠ w' := ne_of_none (s25 _ _ hL2) nw'
      have hnw' : n ≠ w' := ne_of_none (s25 _ _ hN2) nw'
      -- left.remove(book); left.insert(0, book)
      refine ⟨_, rfl, .inl ⟨rfl, _, .of (s6 _ _ (s25 _ _ hL2))⟩, _, rfl, nil_go (r_remove (s6 _ _ (s25 _ _ hL2)) hrp ?_)⟩
      refine ⟨_, rfl, .inl ⟨rfl, _, .of upd_same⟩, _, rfl, nil_go (r_insert0 upd_same ?_ ?_)⟩
      · rw [List.length_map]
        exact lt_line (by have := List.length_erase_le (a := r) (l := P); omega)
      rw [upd_upd]
      refine ⟨w', as ++ bs, _, _, _, rfl, ?_, hlw', hnw', ?_, ?_, ?_, ?_, ?_⟩
      · exact same_mut (sm2.trans (s25.trans s6)) nl
      · exact (sm2.trans s25).free nw'
      · rw [upd_same, take_snoc hr, bh_snoc, eP]
        rfl
      · rw [upd_ne (Ne.symm hln)]
        exact s6 _ _ (s25 _ _ hN2)
      · rw [upd_ne (Ne.symm hlw')]
        exact upd_same
      · rw [← ePW]
        exact Twos.mut (paired_append ((tw2.grow s25).grow s6) (h3'.grow s6)) (s6 _ _ (s25 _ _ hL2))
  · rintro σ H1 ⟨w, as, y5, y6, y7, rfl, sm, hlw, hnw, nw, hL, hN, hW, tw⟩
    rw [List.length_map, List.take_length] at hL hN tw
    refine ⟨_, rfl, l, _, rfl, .inl ⟨.of hL, fun u nu => ?_⟩⟩
    have su := same_upd (o := .tup ((bh ps rs).map V.str)) nu
    refine ⟨_, rfl, _, rfl, by show 3 ≤ sizeLine; decide, fun p np => ?_⟩
    have sp := same_upd (o := .tup [.ref u, .ref n, .ref w]) np
    exact q p u n w as _ (sm.trans (su.trans sp)) upd_same (.of (sp _ _ upd_same)) nn0 (sp _ _ (su _ _ hN)) nw (sp _ _ (su _ _ hW)) ((tw.grow su).grow sp)
end LT

/-! LTe: data compared. -/
namespace LT
open PySem PySem.Spec PyProof.Rows L2
abbrev OkS (xs : List Str) : Prop := ∀ x ∈ xs, PyData.canLay0 (.str x) = true
theorem inV_strs (z : Str) (ps : List Str) : inV (.str z) (ps.map V.str) = decide (z ∈ ps) := by
  unfold inV
  induction ps with
  | nil => rfl
  | cons a r ih =>
    rw [List.map_cons, List.any_cons, ih]
    show ((a == z) || decide (z ∈ r)) = decide (z ∈ a :: r)
    by_cases e : a = z
    · subst e; simp
    · have : (a == z) = false := beq_eq_false_iff_ne.mpr e
      rw [this, Bool.false_or]
      apply decide_eq_decide.mpr
      rw [List.mem_cons]
      exact ⟨.inr, fun q => q.elim (fun q => absurd q.symm e) id⟩
theorem eqvAll_strs : ∀ xs ys : List Str, PyData.eqvAll (xs.map PyData.str) (ys.map PyData.str) = decide (xs = ys)
  | [], [] => by simp [PyData.eqvAll]
  | [], y :: ys => by simp [PyData.eqvAll]
  | x :: xs, [] => by simp [PyData.eqvAll]
  | x :: xs, y :: ys => by
    simp only [List.map_cons, PyData.eqvAll, PyData.eqv, eqvAll_strs xs ys, List.cons.injEq, Bool.decide_and]
    congr 1
theorem eqvAll_ints : ∀ xs ys : List Int, PyData.eqvAll (xs.map PyData.int) (ys.map PyData.int) = decide (xs = ys)
  | [], [] => by simp [PyData.eqvAll]
  | [], y :: ys => by simp [PyData.eqvAll]
  | x :: xs, [] => by simp [PyData.eqvAll]
  | x :: xs, y :: ys => by
    simp only [List.map_cons, PyData.eqvAll, PyData.eqv, eqvAll_ints xs ys, List.cons.injEq, Bool.decide_and]
    congr 1
theorem depth_flat {ds : List PyData} (h : ∀ d ∈ ds, d.depth = 0) : PyData.depthAll ds = 0 := by
  induction ds with
  | nil => rfl
  | cons d r ih =>
    simp only [PyData.depthAll, h d (List.mem_cons_self ..), ih fun x hx => h x (List.mem_cons_of_mem _ hx)]
    rfl
theorem lay_all {ds : List PyData} (h : ∀ d ∈ ds, d.canLay0 = true) : PyData.canLayAll0 ds = true := by
  induction ds with
  | nil => rfl
  | cons d r ih =>
    simp only [PyData.canLayAll0, h d (List.mem_cons_self ..), ih fun x hx => h x (List.mem_cons_of_mem _ hx)]
    rfl
theorem shaped_of {d : PyData} (h1 : d.canLay0 = true) (h2 : d.depth ≤ 64) : SeqAt.shaped d = true := by
  unfold SeqAt.shaped
  rw [h1, decide_eq_true h2]
  rfl
theorem shaped_strT {xs : List Str} (h : OkS xs) : SeqAt.shaped (.tuple (xs.map .str)) = true := by
  refine shaped_of ?_ ?_
  · simp only [PyData.canLay0]
    exact lay_all fun d hd => by
      obtain ⟨x, hx, rfl⟩ := List.mem_map.mp hd
      exact h x hx
  · simp only [PyData.depth]
    rw [depth_flat fun d hd => by obtain ⟨x, hx, rfl⟩ := List.mem_map.mp hd; rfl]
    decide
theorem shaped_strL {xs : List Str} (h : OkS xs) : SeqAt.shaped (.list (xs.map .str)) = true := by
  refine shaped_of ?_ ?_
  · simp only [PyData.canLay0]
    exact lay_all fun d hd => by
      obtain ⟨x, hx, rfl⟩ := List.mem_map.mp hd
      exact h x hx
  · simp only [PyData.depth]
    rw [depth_flat fun d hd => by obtain ⟨x, hx, rfl⟩ := List.mem_map.mp hd; rfl]
    decide
theorem shaped_intL (xs : List Int) : SeqAt.shaped (.list (xs.map .int)) = true := by
  refine shaped_of ?_ ?_
  · simp only [PyData.canLay0]
    exact lay_all fun d hd => by
      obtain ⟨x, hx, rfl⟩ := List.mem_map.mp hd
      rfl
  · simp only [PyData.depth]
    rw [depth_flat fun d hd => by obtain ⟨x, hx, rfl⟩ := List.mem_map.mp hd; rfl]
    decide
section
variable {K : PySem.W.Frag} {H : Hp}
theorem dpAll_strs : ∀ xs : List Str, DpAll K H (xs.map V.str) (xs.map PyData.str)
  | [] => .nil
  | x :: xs => .cons (.str x) (dpAll_strs xs)
theorem dpAll_ints : ∀ xs : List Int, DpAll K H (xs.map V.int) (xs.map PyData.int)
  | [] => .nil
  | x :: xs => .cons (.int x) (dpAll_ints xs)
theorem dp_strT {a : Addr} {xs : List Str} (h : SqT K H a (xs.map V.str)) : Dp K H (.ref a) (.tuple (xs.map .str)) := .tup h (dpAll_strs xs)
theorem dp_strL {a : Addr} {xs : List Str} (h : SqL K H a (xs.map V.str)) : Dp K H (.ref a) (.list (xs.map .str)) := .lst h (dpAll_strs xs)
theorem dp_intL {a : Addr} {xs : List Int} (h : SqL K H a (xs.map V.int)) : Dp K H (.ref a) (.list (xs.map .int)) := .lst h (dpAll_ints xs)
theorem eqv_strT (xs ys : List Str) : PyData.eqv (.tuple (xs.map .str)) (.tuple (ys.map .str)) = decide (xs = ys) := by
  simp only [PyData.eqv]; exact eqvAll_strs xs ys
theorem eqv_strL (xs ys : List Str) : PyData.eqv (.list (xs.map .str)) (.list (ys.map .str)) = decide (xs = ys) := by
  simp only [PyData.eqv]; exact eqvAll_strs xs ys
theorem eqv_intL (xs ys : List Int) : PyData.eqv (.list (xs.map .int)) (.list (ys.map .int)) = decide (xs = ys) := by
  simp only [PyData.eqv]; exact eqvAll_ints xs ys
theorem r_eqT {a b : Addr} {xs ys : List Str} {Q : VK} (ha : SqT K H a (xs.map V.str)) (hb : SqT K H b (ys.map V.str)) (ox : OkS xs) (oy : OkS ys) (q : Q (.bl (decide (xs = ys))) H) : rEqD K (.ref a) (.ref b) H Q :=
  ⟨_, _, dp_strT ha, dp_strT hb, shaped_strT ox, shaped_strT oy, by rw [eqv_strT]; exact q⟩
theorem r_neT {a b : Addr} {xs ys : List Str} {Q : VK} (ha : SqT K H a (xs.map V.str)) (hb : SqT K H b (ys.map V.str)) (ox : OkS xs) (oy : OkS ys) (q : Q (.bl (!decide (xs = ys))) H) : rNeD K (.ref a) (.ref b) H Q :=
  ⟨_, _, dp_strT ha, dp_strT hb, shaped_strT ox, shaped_strT oy, by rw [eqv_strT]; exact q⟩
theorem r_eqL {a b : Addr} {xs ys : List Str} {Q : VK} (ha : SqL K H a (xs.map V.str)) (hb : SqL K H b (ys.map V.str)) (ox : OkS xs) (oy : OkS ys) (q : Q (.bl (decide (xs = ys))) H) : rEqD K (.ref a) (.ref b) H Q :=
  ⟨_, _, dp_strL ha, dp_strL hb, shaped_strL ox, shaped_strL oy, by rw [eqv_strL]; exact q⟩
theorem r_neL {a b : Addr} {xs ys : List Str} {Q : VK} (ha : SqL K H a (xs.map V.str)) (hb : SqL K H b (ys.map V.str)) (ox : OkS xs) (oy : OkS ys) (q : Q (.bl (!decide (xs = ys))) H) : rNeD K (.ref a) (.ref b) H Q :=
  ⟨_, _, dp_strL ha, dp_strL hb, shaped_strL ox, shaped_strL oy, by rw [eqv_strL]; exact q⟩
theorem r_eqI {a b : Addr} {xs ys : List Int} {Q : VK} (ha : SqL K H a (xs.map V.int)) (hb : SqL K H b (ys.map V.int)) (q : Q (.bl (decide (xs = ys))) H) : rEqD K (.ref a) (.ref b) H Q :=
  ⟨_, _, dp_intL ha, dp_intL hb, shaped_intL xs, shaped_intL ys, by rw [eqv_intL]; exact q⟩
theorem r_neI {a b : Addr} {xs ys : List Int} {Q : VK} (ha : SqL K H a (xs.map V.int)) (hb : SqL K H b (ys.map V.int)) (q : Q (.bl (!decide (xs = ys))) H) : rNeD K (.ref a) (.ref b) H Q :=
  ⟨_, _, dp_intL ha, dp_intL hb, shaped_intL xs, shaped_intL ys, by rw [eqv_intL]; exact q⟩
/-- a text in a row of texts -/
theorem r_in {x : Str} {a : Addr} {ps : List Str} {neg : Bool} {Q : VK} (h : SqA K H a (ps.map V.str)) (q : Q (.bl (if neg then !decide (x ∈ ps) else decide (x ∈ ps))) H) : rIn K neg (.str x) (.ref a) H Q :=
  ⟨a, _, rfl, h, rfl, flat_strs ps, by rw [inV_strs]; exact q⟩
end
end LT

/-! LTf: what every law does first. -/
namespace LT
open PySem PySem.Spec PyProof.Rows L2
/-- tape = [list(script), 0, 0] -/
theorem law_start {K : PySem.W.Frag} {σ : L2.St} {H : Hp} {a : Addr} {ns : List Int} {D : Ends} (h0 : σ[0]? = some (some (.ref a))) (hS : SqL K H a (ns.map V.int)) (q : ∀ t s H1, Tp H1 t s → Scr (del H1 t) s → D.nx (σ.set 1 (some (.ref t))) H1) :
    tAsg (tLst (tCons (tCB (rListOf K) (tCons (tVar 0) tNil)) (tCons (tC (.int 0)) (tCons (tC (.int 0)) tNil)))) (gName 1) D σ H := by
  refine ⟨_, h0, a, _, rfl, .inl hS, fun s nS => ⟨by show 3 ≤ sizeLine; decide, fun t nt => ?_⟩⟩
  have hst : s ≠ t := fun e => by rw [← e, upd_same] at nt; cases nt
  refine q t s _ ⟨0, 0, upd_same, by decide, by decide⟩ ⟨ns, ?_⟩
  rw [del_upd, del_ne hst, upd_same]
theorem books_nodup : bookNames.Nodup := by decide +kernel
theorem books_ok : OkS bookNames := by
  have : bookNames.all (fun x => PyData.canLay0 (.str x)) = true := by decide +kernel
  intro x hx
  exact List.all_eq_true.mp this x hx
theorem pile_facts {n : Nat} {ps : List Str} (pm : ps.Perm (bookNames.take n)) (hn : n ≤ 7) : ps.Nodup ∧ ps.length = n ∧ OkS ps ∧ ∀ x ∈ ps, x ∈ bookNames := by
  have hl : (bookNames.take n).length = n := by
    rw [List.length_take]
    have : bookNames.length = 7 := rfl
    omega
  have hm : ∀ x ∈ ps, x ∈ bookNames := fun x hx => List.mem_of_mem_take (pm.mem_iff.mp hx)
  exact ⟨pm.nodup_iff.mpr (books_nodup.sublist (List.take_sublist n bookNames)), by rw [pm.length_eq, hl], fun x hx => books_ok x (hm x hx), hm⟩
theorem OkS.perm {ps os : List Str} (h : OkS ps) (pm : os.Perm ps) : OkS os := fun x hx => h x (pm.mem_iff.mp hx)
/-- [xs[at] for at in _law_any_order(tape, len(xs))] -/
theorem lc_perm {K : PySem.W.Frag} {σ : L2.St} {H : Hp} {t s c : Addr} {xs : List Str} {Q : VK} {it i j : Nat} {r : R2} (hit : σ[it]? = some (some (.ref t))) (hj : σ[j]? = some (some (.ref c))) (hji : j ≠ i) (hi : i < σ.length) (hl : xs.length ≤ 1000)
    (hT : Tp H t s) (hS : Scr (del H t) s) (hC : SqA K (del H t) c (xs.map V.str))
    (hr : ∀ (H1 : Hp) (k : Nat) (Q : VK) (hk : k < xs.length), Same (del H t) H1 → Q (.str xs[k]) H1 → r (.ref c) (vNat k) H1 Q)
    (q : ∀ (D : Addr) (ys : List Str) (H' : Hp), ys.Perm xs → Tp H' t s → Same (del H t) (del H' t) → H D = none → H' D = some (.lst (ys.map V.str)) → Q (.ref D) H') :
    tLc (iTup K (tCall (sp_law_any_order K) [] E0 (tCons (tVar it) (tCons (tCB (rLenSq K) (tCons (tVar j) tNil)) tNil)))) (gName i) tYes (tOp r (tVar j) (tVar i)) [i] σ H Q := by
  refine ⟨_, hit, _, hj, c, _, rfl, hC.grow del_same, t, s, xs.length, by rw [List.length_map]; rfl, hl, hT, hS, fun p js H4 pm hT4 sm4 hp => ?_⟩
  refine ⟨p, rfl, ⟨_, same_sqt del_same hp⟩, fun D hD => ?_⟩
  have hDt := hT4.ne hD
  have hjl : js.length = xs.length := by rw [pm.length_eq, List.length_range]
  have hp4 : SqT K H4 p (js.map vNat) := same_sqt del_same hp
  have s4 : Same (del H t) H4 := sm4.trans del_same
  refine lc_it (walk_tup (K := K) (a := p) (xs := js.map vNat)) (LcP D fun i B acc => Same H4 B ∧ acc = ((js.take i).map fun j => xs.getD j ("" : Str)).map V.str)
    (lcp0 hD ⟨Same.refl _, rfl⟩) (fun i H5 hi ⟨acc, h1, h2, _⟩ => same_sqt (h2.trans del_same) hp4) ?_ ?_
  · rintro k x H5 H5' hk ⟨acc, h1, h2, rfl⟩ ⟨rfl, hx⟩
    have hk' : k < js.length := by rw [List.length_map] at hk; exact hk
    have ex : x = vNat js[k] := by
      rw [List.getElem?_map, List.getElem?_eq_getElem hk'] at hx
      exact (Option.some.inj hx).symm
    subst ex
    have hjk : js[k] < xs.length := List.mem_range.mp (pm.mem_iff.mp (List.getElem_mem hk'))
    refine ⟨by show ((σ.set i none).set i _).set i none = σ.set i none; rw [List.set_set, List.set_set], t_yes ?_⟩
    refine ⟨.ref c, ?_, vNat js[k], ?_, ?_⟩
    · show ((σ.set i none).set i _)[j]? = _
      rw [List.getElem?_set_ne (Ne.symm hji), List.getElem?_set_ne (Ne.symm hji)]
      exact hj
    · show ((σ.set i none).set i _)[i]? = _
      rw [List.getElem?_set_self (by rw [List.length_set]; exact hi)]
    · refine hr _ _ _ hjk (s4.trans (h2.trans del_same)) (lcp_push h1 ?_ ⟨h2, ?_⟩)
      · simp only [List.length_map, List.length_take]
        exact lt_line (by omega)
      · rw [take_push _ _ _ hk', List.map_append]
        simp [List.getD, hjk]
  · rintro H5 ⟨acc, h1, h2, rfl⟩
    rw [List.length_map, List.take_length] at h1
    have s45 : Same H4 H5 := h2.trans del_same
    refine q D _ H5 (perm_getD ("" : Str) xs (js := js) pm) (hT4.grow s45) (sm4.trans (del_mono s45)) ?_ h1
    cases e : H D with
    | none => rfl
    | some o =>
      rw [del_kp sm4 hDt e] at hD
      cases hD
theorem isi_list {K : PySem.W.Frag} {H : Hp} {a : Addr} {xs : List V} {Q : VK} (h : H a = some (.lst xs)) (q : Q (.bl true) H) : rIsi K [.ref a, .ty "list"] H Q :=
  ⟨_, _, _, _, true, rfl, .ty "list", .base (.lst h), kit_ty (by decide +kernel), q⟩
theorem isi_tuple {K : PySem.W.Frag} {H : Hp} {a : Addr} {xs : List V} {Q : VK} (h : SqT K H a xs) (q : Q (.bl true) H) : rIsi K [.ref a, .ty "tuple"] H Q := by
  rcases h with (h | ⟨o, h⟩) | ⟨o, its, n, h, hc, _⟩
  · exact ⟨_, _, _, _, true, rfl, .ty "tuple", .base (.tup h), kit_ty (by decide +kernel), q⟩
  · exact ⟨_, _, _, _, true, rfl, .ty "tuple", .fTuple h, kit_ty (by decide +kernel), q⟩
  · exact ⟨_, _, _, _, true, rfl, .ty "tuple", .kTuple h hc, kit_ty (by decide +kernel), q⟩
/-- lists of texts -/
abbrev RowsAt (H : Hp) (as : List Addr) (rows : List (List Str)) : Prop := Paired (fun (a : Addr) (r : List Str) => H a = some (.lst (r.map V.str))) as rows
theorem RowsAt.grow {H H' : Hp} {as : List Addr} {rows : List (List Str)} (h : RowsAt H as rows) (e : Same H H') : RowsAt H' as rows := Paired.mapP h fun a r q => e _ _ q
theorem paired_get {α β : Type} {F : α → β → Prop} : ∀ {l₁ : List α} {l₂ : List β} {i : Nat} {a : α}, Paired F l₁ l₂ → l₁[i]? = some a → ∃ b, l₂[i]? = some b ∧ F a b
  | _, _, _, _, .nil, e => by simp at e
  | _, _, 0, _, .cons r _, e => by
    simp at e; subst e
    exact ⟨_, rfl, r⟩
  | _, _, i + 1, a, .cons _ t, e => by
    obtain ⟨b, h1, h2⟩ := paired_get (i := i) (a := a) t (by simpa using e)
    exact ⟨b, by simpa using h1, h2⟩
theorem at_ref {as : List Addr} {j : Nat} {x : V} (h : (as.map V.ref)[j]? = some x) : ∃ a, as[j]? = some a ∧ x = .ref a := by
  rw [List.getElem?_map] at h
  cases e : as[j]? with
  | none => rw [e] at h; cases h
  | some z => rw [e] at h; cases h; exact ⟨z, rfl, rfl⟩
end LT

/-! LTn: what lies where behind readings; the fewest readings to a pile. -/
namespace LT
section
variable {α : Type} [DecidableEq α]
/-- books by their last wants, the latest first -/
def lw : List α → List α
  | [] => []
  | r :: rs => if r ∈ rs then lw rs else lw rs ++ [r]
theorem mem_lw {x : α} : ∀ {rs : List α}, x ∈ lw rs ↔ x ∈ rs
  | [] => Iff.rfl
  | r :: rs => by
    unfold lw
    split
    · rename_i h
      rw [mem_lw, List.mem_cons]
      exact ⟨.inr, fun q => q.elim (fun e => e ▸ h) id⟩
    · rw [List.mem_append, mem_lw, List.mem_singleton, List.mem_cons]
      exact ⟨fun q => q.elim .inr .inl, fun q => q.elim .inr .inl⟩
theorem lw_nodup : ∀ rs : List α, (lw rs).Nodup
  | [] => List.nodup_nil
  | r :: rs => by
    unfold lw
    split
    · exact lw_nodup rs
    · rename_i h
      rw [List.nodup_append]
      refine ⟨lw_nodup rs, by simp, fun x hx y hy => ?_⟩
      rw [List.mem_singleton] at hy
      subst hy
      intro e
      subst e
      exact h (mem_lw.mp hx)
theorem lw_length : ∀ rs : List α, (lw rs).length ≤ rs.length
  | [] => Nat.le_refl _
  | r :: rs => by
    have := lw_length rs
    unfold lw
    split
    · simp only [List.length_cons]; omega
    · simp only [List.length_append, List.length_cons, List.length_nil]; omega
theorem lw_full : ∀ {rs : List α}, (lw rs).length = rs.length → lw rs = rs.reverse
  | [], _ => rfl
  | r :: rs, h => by
    have := lw_length rs
    unfold lw at h ⊢
    split at h
    · simp only [List.length_cons] at h; omega
    · rename_i hn
      rw [if_neg hn, List.reverse_cons, lw_full (by simpa using h)]
theorem filter_erase {p : α → Bool} {ps : List α} {z : α} (h : p z = false) : (ps.erase z).filter p = ps.filter p := by
  induction ps with
  | nil => rfl
  | cons a r ih =>
    by_cases e : a = z
    · subst e
      rw [List.erase_cons_head, List.filter_cons_of_neg (by simp [h])]
    · rw [List.erase_cons_tail (by simpa using e), List.filter_cons, List.filter_cons, ih]
/-- behind readings: wanted ones by their last wants, the others as they lay -/
theorem bh_lies : ∀ {rs ps : List α}, ps.Nodup → (∀ r ∈ rs, r ∈ ps) → bh ps rs = lw rs ++ ps.filter (fun b => !decide (b ∈ rs))
  | [], ps, _, _ => by
    rw [bh_nil, List.filter_eq_self.mpr (by simp)]
    rfl
  | r :: rs, ps, nd, h => by
    have hr := h r (List.mem_cons_self ..)
    have pm := tk_perm hr
    rw [bh_cons, bh_lies (pm.nodup_iff.mpr nd) fun x hx => pm.mem_iff.mpr (h x (List.mem_cons_of_mem _ hx))]
    have e1 : lw (r :: rs) = if r ∈ rs then lw rs else lw rs ++ [r] := rfl
    rw [e1]
    unfold tk
    have key : ps.filter (fun b => !decide (b ∈ r :: rs)) = (ps.erase r).filter (fun b => !decide (b ∈ rs)) := by
      rw [nd.erase_eq_filter, List.filter_filter]
      apply List.filter_congr
      intro x _
      simp only [List.mem_cons]
      by_cases e : x = r <;> by_cases e2 : x ∈ rs <;> simp [e, e2]
    rw [key]
    by_cases e : r ∈ rs
    · rw [if_pos e, List.filter_cons_of_neg (by simp [e])]
    · rw [if_neg e, List.filter_cons_of_pos (by simp [e]), List.append_assoc]
      rfl
/-! ### the fewest readings -/
/-- the other pile's lowest ones, from below, as long as each lies above what was kept -/
def kp (left : List α) : List α → List α
  | [] => []
  | o :: os => if o ∈ left then kp (left.take (left.idxOf o)) os else o :: os
def Good (ps os : List α) (k : Nat) : Prop := ps.filter (fun b => decide (b ∈ os.drop k)) = os.drop k
theorem filter_mem_self {l : List α} {p : α → Bool} (h : ∀ x ∈ l, p x = true) : l.filter p = l := List.filter_eq_self.mpr h
theorem Good.up {ps os : List α} {k : Nat} (nd : os.Nodup) (h : Good ps os k) : Good ps os (k + 1) := by
  unfold Good at h ⊢
  by_cases hk : k < os.length
  · have e : os.drop k = os[k] :: os.drop (k + 1) := List.drop_eq_getElem_cons hk
    have nd2 : (os.drop k).Nodup := nd.sublist (List.drop_sublist k os)
    have h2 := congrArg (List.filter fun b => decide (b ∈ os.drop (k + 1))) h
    rw [List.filter_filter] at h2
    have e1 : ps.filter (fun a => (decide (a ∈ os.drop (k + 1)) && decide (a ∈ os.drop k))) = ps.filter (fun b => decide (b ∈ os.drop (k + 1))) := by
      apply List.filter_congr
      intro x _
      by_cases hx : x ∈ os.drop (k + 1)
      · have hx2 : x ∈ os.drop k := by rw [e]; exact List.mem_cons_of_mem _ hx
        rw [decide_eq_true hx, decide_eq_true hx2]; rfl
      · rw [decide_eq_false hx]; rfl
    rw [e1, e] at h2
    rw [h2, List.filter_cons_of_neg, filter_mem_self]
    · intro x hx; simpa using hx
    · rw [e, List.nodup_cons] at nd2
      simpa using nd2.1
  · rw [List.drop_eq_nil_of_le (by omega)]
    simp
theorem Good.mono {ps os : List α} {k : Nat} (nd : os.Nodup) (h : Good ps os k) : ∀ j, Good ps os (k + j)
  | 0 => h
  | j + 1 => (Good.mono nd h j).up nd
theorem good_end (ps os : List α) : Good ps os os.length := by
  unfold Good
  rw [List.drop_length]
  simp
theorem kp_spec (ps os : List α) (nd : ps.Nodup) (pm : os.Perm ps) : ∀ (k : Nat) (left rest : List α), k ≤ os.length → ps = left ++ rest → rest.filter (fun b => decide (b ∈ os.drop k)) = os.drop k →
    (∀ x ∈ left, x ∉ os.drop k) → (k = os.length ∧ rest = [] ∨ ∃ x r, rest = x :: r ∧ x ∈ os.drop k) →
    ∃ j, j ≤ k ∧ kp left (os.take k).reverse = (os.take j).reverse ∧ Good ps os j ∧ (0 < j → ¬ Good ps os (j - 1))
  | 0, left, rest, _, hp, hf, hl, _ => by
    refine ⟨0, Nat.le_refl _, rfl, ?_, fun h => absurd h (Nat.lt_irrefl _)⟩
    unfold Good
    rw [hp, List.filter_append, hf, List.filter_eq_nil_iff.mpr (fun x hx => by simpa using hl x hx), List.nil_append]
  | k + 1, left, rest, hk, hp, hf, hl, hh => by
    have hkl : k < os.length := hk
    have nd2 : os.Nodup := pm.nodup_iff.mpr nd
    have e : os.drop k = os[k] :: os.drop (k + 1) := List.drop_eq_getElem_cons hkl
    have et : (os.take (k + 1)).reverse = os[k] :: (os.take k).reverse := by
      rw [take_snoc (List.getElem?_eq_getElem hkl), List.reverse_append]
      rfl
    have ndd : (os.drop k).Nodup := nd2.sublist (List.drop_sublist k os)
    rw [e, List.nodup_cons] at ndd
    have hmem : os[k] ∈ ps := pm.mem_iff.mp (List.getElem_mem hkl)
    have ndp := nd
    rw [hp, List.nodup_append] at ndp
    obtain ⟨ndl, ndr, ndx⟩ := ndp
    rw [et]
    unfold kp
    by_cases ho : os[k] ∈ left
    · rw [if_pos ho]
      obtain ⟨i1, i2⟩ := idx_at ho
      have hil : left.idxOf os[k] < left.length := (List.getElem?_eq_some_iff.mp i1).1
      have el : left = left.take (left.idxOf os[k]) ++ (os[k] :: left.drop (left.idxOf os[k] + 1)) := by
        have e3 : left.drop (left.idxOf os[k]) = left[left.idxOf os[k]] :: left.drop (left.idxOf os[k] + 1) := List.drop_eq_getElem_cons hil
        rw [(List.getElem?_eq_some_iff.mp i1).2] at e3
        rw [← e3, List.take_append_drop]
      have nde := ndl
      rw [el, List.nodup_append, List.nodup_cons] at nde
      obtain ⟨n1, ⟨n2, n3⟩, n4⟩ := nde
      have hp' : ps = left.take (left.idxOf os[k]) ++ (os[k] :: left.drop (left.idxOf os[k] + 1) ++ rest) := by
        rw [hp]
        conv => lhs; rw [el]
        rw [List.append_assoc]
      have go := kp_spec ps os nd pm k (left.take (left.idxOf os[k])) (os[k] :: left.drop (left.idxOf os[k] + 1) ++ rest) (by omega) hp'
      refine (fun h1 h2 h3 => (go h1 h2 h3).elim fun j hj => ⟨j, by omega, hj.2⟩) ?_ ?_ ?_
      · rw [e]
        generalize os[k] = ok at *
        rw [List.cons_append, List.filter_cons_of_pos (by simp), List.filter_append]
        have g1 : (left.drop (left.idxOf ok + 1)).filter (fun b => decide (b ∈ ok :: os.drop (k + 1))) = [] := by
          apply List.filter_eq_nil_iff.mpr
          intro x hx
          have hxl : x ∈ left := List.mem_of_mem_drop hx
          have : x ≠ ok := fun q => n2 (q ▸ hx)
          simp [this, hl x hxl]
        have g2 : rest.filter (fun b => decide (b ∈ ok :: os.drop (k + 1))) = rest.filter (fun b => decide (b ∈ os.drop (k + 1))) := by
          apply List.filter_congr
          intro x hx
          have : x ≠ ok := fun q => ndx _ ho _ hx q.symm
          simp [this]
        rw [g1, g2, hf, List.nil_append]
      · intro x hx
        rw [e, List.mem_cons]
        rintro (q | q)
        · exact n4 x hx os[k] (List.mem_cons_self ..) q
        · exact hl x (List.mem_of_mem_take hx) q
      · exact .inr ⟨os[k], left.drop (left.idxOf os[k] + 1) ++ rest, rfl, by rw [e]; exact List.mem_cons_self ..⟩
    · rw [if_neg ho]
      refine ⟨k + 1, Nat.le_refl _, by rw [et], ?_, fun _ => ?_⟩
      · unfold Good
        rw [hp, List.filter_append, hf, List.filter_eq_nil_iff.mpr (fun x hx => by simpa using hl x hx), List.nil_append]
      · rw [Nat.add_sub_cancel]
        intro hg
        unfold Good at hg
        rcases hh with ⟨h1, h2⟩ | ⟨x, r, h1, h2⟩
        · rw [h2, List.append_nil] at hp
          exact ho (hp ▸ hmem)
        · rw [hp, List.filter_append, List.filter_eq_nil_iff.mpr, List.nil_append, h1, e, List.filter_cons_of_pos (p := fun b => decide (b ∈ os[k] :: List.drop (k + 1) os)) (a := x) (l := r) (decide_eq_true (List.mem_cons_of_mem _ h2))] at hg
          · have : x = os[k] := (List.cons.inj hg).1
            exact ndd.1 (this ▸ h2)
          · intro y hy
            rw [e, decide_eq_true_iff, List.mem_cons]
            rintro (q | q)
            · exact ho (q ▸ hy)
            · exact hl y hy q
/-- how many of the lowest books of the other pile lie in its order in the first one -/
def stay (ps os : List α) : Nat → Nat
  | 0 => 0
  | k + 1 => if ps.filter (fun b => decide (b ∈ os.drop (os.length - k))) = os.drop (os.length - k) then k else stay ps os k
theorem stay_eq {ps os : List α} {j : Nat} (nd : os.Nodup) (hj : j ≤ os.length) (h : Good ps os j) (h2 : 0 < j → ¬ Good ps os (j - 1)) : ∀ k, os.length - j < k → k ≤ os.length + 1 → stay ps os k = os.length - j
  | 0, h3, _ => absurd h3 (Nat.not_lt_zero _)
  | k + 1, h3, h4 => by
    unfold stay
    by_cases e : k = os.length - j
    · subst e
      rw [if_pos]
      have : os.length - (os.length - j) = j := by omega
      rw [this]; exact h
    · rw [if_neg, stay_eq nd hj h h2 k (by omega) (by omega)]
      intro hg
      have hg' : Good ps os (os.length - k) := hg
      have := hg'.mono nd (j - 1 - (os.length - k))
      rw [show os.length - k + (j - 1 - (os.length - k)) = j - 1 by omega] at this
      exact h2 (by omega) this
/-- all that the law asks of the told readings -/
theorem fewest {ps os : List α} (nd : ps.Nodup) (pm : os.Perm ps) :
    bh ps (kp ps os.reverse) = os ∧ (∀ r ∈ kp ps os.reverse, r ∈ ps) ∧ (kp ps os.reverse).length + stay ps os (os.length + 1) = ps.length ∧ (kp ps os.reverse).length ≤ ps.length ∧
    (∀ row : List α, (∀ r ∈ row, r ∈ ps) → bh ps row = os → (kp ps os.reverse).length ≤ row.length ∧ (row.length = (kp ps os.reverse).length → row = kp ps os.reverse)) := by
  have nd2 : os.Nodup := pm.nodup_iff.mpr nd
  obtain ⟨j, h1, h2, h3, h4⟩ := kp_spec ps os nd pm os.length ps [] (Nat.le_refl _) (by simp) (by simp) (by simp) (.inl ⟨rfl, rfl⟩)
  rw [List.take_length] at h2
  have hl : (kp ps os.reverse).length = j := by rw [h2, List.length_reverse, List.length_take, Nat.min_eq_left h1]
  have hst := stay_eq nd2 h1 h3 h4 (os.length + 1) (by omega) (Nat.le_refl _)
  have hmem : ∀ r ∈ kp ps os.reverse, r ∈ ps := fun r hr => by
    rw [h2, List.mem_reverse] at hr
    exact pm.mem_iff.mp (List.mem_of_mem_take hr)
  have hlen := pm.length_eq
  refine ⟨?_, hmem, by rw [hl, hst]; omega, by rw [hl]; omega, fun row hr hb => ?_⟩
  · rw [bh_lies nd hmem, h2]
    have ndt : (os.take j).Nodup := nd2.sublist (List.take_sublist j os)
    have e1 : lw (os.take j).reverse = os.take j := by
      have : ∀ l : List α, l.Nodup → lw l = l.reverse := by
        intro l hl
        induction l with
        | nil => rfl
        | cons a r ih =>
          rw [List.nodup_cons] at hl
          unfold lw
          rw [if_neg hl.1, ih hl.2, List.reverse_cons]
      rw [this _ ((List.reverse_perm _).nodup_iff.mpr ndt), List.reverse_reverse]
    rw [e1]
    have e2 : ps.filter (fun b => !decide (b ∈ (os.take j).reverse)) = ps.filter (fun b => decide (b ∈ os.drop j)) := by
      apply List.filter_congr
      intro x hx
      have hxo : x ∈ os := pm.mem_iff.mpr hx
      have hsp : os = os.take j ++ os.drop j := (List.take_append_drop j os).symm
      have nds := nd2
      rw [hsp, List.nodup_append] at nds
      rw [hsp, List.mem_append] at hxo
      by_cases hx1 : x ∈ os.take j
      · have : x ∉ os.drop j := fun q => nds.2.2 x hx1 x q rfl
        simp [List.mem_reverse, hx1, this]
      · have : x ∈ os.drop j := hxo.resolve_left hx1
        simp [List.mem_reverse, hx1, this]
    rw [e2, h3, List.take_append_drop]
  · have hb' := bh_lies nd hr
    rw [hb] at hb'
    generalize ek : (lw row).length = k at *
    have ekk : os.take k = lw row := by rw [hb', ← ek]; exact List.take_left
    have ed : os.drop k = ps.filter (fun b => !decide (b ∈ row)) := by
      rw [hb', ← ek]; exact List.drop_left
    have hko : k ≤ os.length := by
      have := congrArg List.length hb'
      rw [List.length_append, ek] at this
      omega
    have gk : Good ps os k := by
      unfold Good
      rw [ed]
      apply List.filter_congr
      intro x hx
      by_cases hxr : x ∈ row <;> simp [hxr, hx]
    have hjk : j ≤ k := by
      refine Nat.le_of_not_lt fun hlt => ?_
      have := gk.mono nd2 (j - 1 - k)
      rw [show k + (j - 1 - k) = j - 1 by omega] at this
      exact h4 (by omega) this
    have hkr := lw_length row
    rw [hl]
    refine ⟨by omega, fun he => ?_⟩
    have hk2 : k = row.length := by omega
    have hkj : k = j := by omega
    have := lw_full (rs := row) (by omega)
    rw [h2, ← hkj, ekk, this, List.reverse_reverse]
end
end LT

/-! LTd: the defs of k09. -/
namespace LT
open PySem PySem.Spec PyProof.Rows L2
def sp_law_staying (K : PySem.W.Frag) : Sp := fun vs H Q _ => ∃ (a b : Addr) (ps os : List Str), vs = [.ref a, .ref b] ∧ SqT K H a (ps.map V.str) ∧ SqT K H b (os.map V.str) ∧ ps.length ≤ 100 ∧ os.length ≤ 100 ∧ OkS ps ∧ OkS os ∧
  ∀ H', Same H H' → Q (vNat (stay ps os (os.length + 1))) H'
abbrev N_law_staying : List Str := ["pile", "other", "many", "size", "some", "book"]
def t_law_staying (K : PySem.W.Frag) : TS :=
  (tSeq (tAsg (tC (.int 0)) (gName 2))
    (tSeq (tFor (iRng1 (tCons (tOp rAddI (tCB (rLenSq K) (tCons (tVar 1) tNil)) (tC (.int 1))) tNil)) (gName 3)
    (tSeq (tAsg (tSl (rSlA K) (tVar 1) (tPart (tOp rSubI (tCB (rLenSq K) (tCons (tVar 1) tNil)) (tVar 3))) tNoPart) (gName 4))
    (tIfS (tTest (tOp (rEqD K) (tLc (iTup K (tVar 0)) (gName 5) (tTest (tOp (rIn K false) (tVar 5) (tVar 4))) (tVar 5) [5]) (tCB (rListOf K) (tCons (tVar 4) tNil)))) (tAsg (tVar 3) (gName 2)) tNext)))
    (tRet (tVar 2))))

theorem len_law_staying {K : PySem.W.Frag} {vs : List V} {H : Hp} {Q : VK} {E : XK} (h : sp_law_staying K vs H Q E) : vs.length = 2 := by
  obtain ⟨_, _, _, _, rfl, _⟩ := h
  rfl
theorem sem_law_staying {K : PySem.W.Frag} {vs : List V} {H : Hp} {Q : VK} {E : XK} (h : sp_law_staying K vs H Q E) : t_law_staying K { nx := fun _ H' => Q .non H', rt := Q } (start N_law_staying vs) H := by
  obtain ⟨a, b, ps, os, rfl, hA, hB, hpl, hol, okp, oko, q⟩ := h
  unfold t_law_staying
  refine ⟨_, rfl, b, _, rfl, .inr hB, _, _, rfl, rfl, _, rfl, ?_, ?_, ?_⟩
  · omega
  · rw [List.length_map]; omega
  rw [List.length_map]
  rw [show ((os.length : Int) + 1).toNat = os.length + 1 by omega]
  refine for_it walk_rng (fun i σ H1 => ∃ y3 y4 y5 : Option V, σ = [some (.ref a), some (.ref b), some (vNat (stay ps os i)), y3, y4, y5] ∧ Same H H1) ⟨none, none, none, rfl, Same.refl _⟩ (fun _ _ _ _ _ => trivial) ?_ ?_
  · rintro i x σ H1 H1' hi ⟨y3, y4, y5, rfl, sm⟩ ⟨rfl, rfl⟩
    have hB1 := same_sqt sm hB
    refine ⟨_, rfl, _, rfl, b, _, rfl, .inr hB1, _, rfl, _, _, rfl, rfl, _, rfl, nop_go (r_slA hB1 fun c H2 s2 hC => ?_)⟩
    rw [show (((os.map V.str).length : Int) - (i : Int)) = ((os.length - i : Nat) : Int) by rw [List.length_map]; omega, cut_from, ← List.map_drop] at hC
    generalize eS : os.drop (os.length - i) = S at hC
    have okS : OkS S := fun x hx => oko x (List.mem_of_mem_drop (eS ▸ hx))
    have hA2 := same_sqt (sm.trans s2) hA
    refine ⟨_, rfl, a, rfl, ⟨_, hA2⟩, fun D nD => ?_⟩
    refine lc_it (walk_tup (K := K) (a := a) (xs := ps.map V.str)) (LcP D fun j B acc => Same H2 B ∧ acc = ((ps.take j).filter fun b => decide (b ∈ S)).map V.str)
      (lcp0 nD ⟨Same.refl _, rfl⟩) (fun j H5 hj ⟨acc, h1, h2, _⟩ => same_sqt (h2.trans del_same) hA2) ?_ ?_
    · rintro j x H5 H5' hj ⟨acc, h1, h2, rfl⟩ ⟨rfl, hx⟩
      obtain ⟨z, hz, rfl⟩ := at_str hx
      have s25 : Same H2 H5' := h2.trans del_same
      refine ⟨rfl, ⟨_, rfl, _, rfl, r_in (.inr (same_sqt s25 hC)) ⟨_, rfl, ite2 (fun e => ?_) (fun e => ?_)⟩⟩⟩
      · have hzS : z ∈ S := of_decide_eq_true e
        refine ⟨_, rfl, lcp_push h1 ?_ ⟨h2, ?_⟩⟩
        · rw [List.length_map]
          refine lt_line ?_
          have := List.length_filter_le (fun b => decide (b ∈ S)) (ps.take j)
          rw [List.length_take] at this
          omega
        · rw [filter_take_pos hz (decide_eq_true hzS), List.map_append]
          rfl
      · have hzS : z ∉ S := fun q => e (decide_eq_true q)
        refine ⟨_, h1, h2, ?_⟩
        rw [filter_take_neg hz (decide_eq_false hzS)]
    · rintro H5 ⟨acc, h1, h2, rfl⟩
      rw [List.length_map, List.take_length] at h1
      have s25 : Same H2 H5 := h2.trans del_same
      refine ⟨_, rfl, c, _, rfl, .inr (same_sqt s25 hC), fun l nl => ?_⟩
      have sl := same_upd (o := .lst (S.map V.str)) nl
      refine r_eqL (.of (sl _ _ h1)) (.of upd_same) (fun x hx => okp x (List.mem_filter.mp hx).1) okS ⟨_, rfl, ?_⟩
      have smf := sm.trans (s2.trans (s25.trans sl))
      refine ite2 (fun e => ?_) (fun e => ?_)
      · have e' := of_decide_eq_true e
        have est : stay ps os (i + 1) = i := by
          unfold stay
          rw [eS, if_pos e']
        rw [est]
        exact ⟨_, rfl, _, _, _, rfl, smf⟩
      · have e' : ¬ ps.filter (fun b => decide (b ∈ S)) = S := fun q => e (decide_eq_true q)
        have est : stay ps os (i + 1) = stay ps os i := by
          conv => lhs; unfold stay
          rw [eS, if_neg e']
        rw [est]
        exact ⟨_, _, _, rfl, smf⟩
  · rintro σ H1 ⟨y3, y4, y5, rfl, sm⟩
    exact ⟨_, rfl, q H1 sm⟩
def sp_fewest_to (K : PySem.W.Frag) : Sp := fun vs H Q _ => ∃ (a b : Addr) (ps os : List Str), vs = [.ref a, .ref b] ∧ SqT K H a (ps.map V.str) ∧ SqT K H b (os.map V.str) ∧ ps.length ≤ 100 ∧ os.length ≤ 100 ∧
  ∀ p H', Same H H' → H p = none → H' p = some (.lst ((kp ps os.reverse).map V.str)) → Q (.ref p) H'
abbrev N_fewest_to : List Str := ["pile", "other", "at", "left"]
def t_fewest_to (K : PySem.W.Frag) : TS :=
  (tSeq (tAsg (tCB (rLenSq K) (tCons (tVar 1) tNil)) (gName 2))
    (tSeq (tAsg (tCB (rListOf K) (tCons (tVar 0) tNil)) (gName 3))
    (tSeq (tWhile (tAnd (tTest (tOp rGtI (tVar 2) (tC (.int 0)))) (tTest (tOp (rIn K false) (tOp (rIxT K) (tVar 1) (tOp rSubI (tVar 2) (tC (.int 1)))) (tVar 3))))
    (tSeq (tAsg (tSl (rSlL K) (tVar 3) tNoPart (tPart (tBM K "list" (rIndex K) (tVar 3) (tCons (tOp (rIxT K) (tVar 1) (tOp rSubI (tVar 2) (tC (.int 1)))) tNil)))) (gName 3))
    (tAug 2 (tC (.int 1)) (ipI fun i j => i - j))))
    (tRet (tRevL K (tCB (rListOf K) (tCons (tSl (rSlA K) (tVar 1) tNoPart (tPart (tVar 2))) tNil)))))))

theorem len_fewest_to {K : PySem.W.Frag} {vs : List V} {H : Hp} {Q : VK} {E : XK} (h : sp_fewest_to K vs H Q E) : vs.length = 2 := by
  obtain ⟨_, _, _, _, rfl, _⟩ := h
  rfl
theorem sem_fewest_to {K : PySem.W.Frag} {vs : List V} {H : Hp} {Q : VK} {E : XK} (h : sp_fewest_to K vs H Q E) : t_fewest_to K { nx := fun _ H' => Q .non H', rt := Q } (start N_fewest_to vs) H := by
  obtain ⟨a, b, ps, os, rfl, hA, hB, hpl, hol, q⟩ := h
  unfold t_fewest_to
  refine ⟨_, rfl, b, _, rfl, .inr hB, _, rfl, a, _, rfl, .inr hA, fun l nl => ?_⟩
  refine ⟨fun m σ H1 => ∃ (l : Addr) (left : List Str), σ = [some (.ref a), some (.ref b), some (vNat m), some (.ref l)] ∧ m ≤ os.length ∧ Same H H1 ∧ H1 l = some (.lst (left.map V.str)) ∧ kp left (os.take m).reverse = kp ps os.reverse, ⟨os.length, l, ps, ?_, Nat.le_refl _, same_upd nl, upd_same, by rw [List.take_length]⟩, ?_⟩
  · rw [List.length_map]; rfl
  · rintro m σ H1 ⟨l, left, rfl, hm, sm, hL, hk⟩
    have hB1 := same_sqt sm hB
    have fin : ∀ j : Nat, j = m → kp left (os.take j).reverse = (os.take j).reverse → tRet (tRevL K (tCB (rListOf K) (tCons (tSl (rSlA K) (tVar 1) tNoPart (tPart (tVar 2))) tNil))) { nx := fun _ H' => Q .non H', rt := Q } [some (.ref a), some (.ref b), some (vNat m), some (.ref l)] H1 := by
      rintro j rfl hj
      refine ⟨_, rfl, _, rfl, _, rfl, r_slA hB1 fun c H2 s2 hC => ?_⟩
      rw [cut_to, ← List.map_take] at hC
      refine nil_go ⟨c, _, rfl, .inr hC, fun d nd => ⟨d, _, rfl, .of upd_same, fun p np => ?_⟩⟩
      have sd := same_upd (o := .lst ((os.take j).map V.str)) nd
      have sp := same_upd (o := .lst ((os.take j).map V.str).reverse) np
      refine q p _ (sm.trans (s2.trans (sd.trans sp))) ((sm.trans (s2.trans sd)).free np) ?_
      rw [upd_same, ← hk, hj, List.map_reverse]
    refine ⟨_, rfl, _, _, rfl, rfl, _, rfl, ite2 (fun e => ?_) (fun e => ?_)⟩
    · have hpos : 0 < m := by
        have := of_decide_eq_true e
        omega
      obtain ⟨k, rfl⟩ : ∃ k, m = k + 1 := ⟨m - 1, by omega⟩
      have hko : k < os.length := by omega
      have hat : atI (os.map V.str) (((k + 1 : Nat) : Int) - 1) = some (.str os[k]) := by
        rw [show (((k + 1 : Nat) : Int) - 1) = (k : Int) by omega]
        exact atI_nat (by rw [List.getElem?_map, List.getElem?_eq_getElem hko]; rfl)
      have et : (os.take (k + 1)).reverse = os[k] :: (os.take k).reverse := by
        rw [take_snoc (List.getElem?_eq_getElem hko), List.reverse_append]
        rfl
      refine ⟨_, rfl, _, rfl, _, _, rfl, rfl, b, _, _, _, rfl, rfl, hB1, hat, _, rfl, r_in (.inl (.of hL)) ⟨_, rfl, ite2 (fun e2 => ?_) (fun e2 => ?_)⟩⟩
      · have hin : os[k] ∈ left := of_decide_eq_true e2
        refine ⟨fun σ H2 => ∃ (l : Addr), σ = [some (.ref a), some (.ref b), some (vNat k), some (.ref l)] ∧ Same H H2 ∧ H2 l = some (.lst ((left.take (left.idxOf os[k])).map V.str)), ?_, ?_⟩
        · rintro σ' H' ⟨l', rfl, s', h'⟩
          refine ⟨k, Nat.lt_succ_self k, l', _, rfl, by omega, s', h', ?_⟩
          rw [← hk, et]
          conv => rhs; unfold kp
          rw [if_pos hin]
        · refine ⟨_, rfl, _, rfl, .inl ⟨rfl, _, .of hL⟩, _, rfl, _, rfl, _, _, rfl, rfl, b, _, _, _, rfl, rfl, hB1, hat, nil_go (r_index (.of hL) hin ⟨_, rfl, l, _, rfl, .of hL, fun c nc => ?_⟩)⟩
          rw [cut_to, ← List.map_take]
          refine ⟨_, rfl, _, _, rfl, rfl, c, ?_, sm.trans (same_upd nc), upd_same⟩
          show [some (V.ref a), some (V.ref b), some (V.int (((k + 1 : Nat) : Int) - 1)), some (V.ref c)] = _
          rw [show (((k + 1 : Nat) : Int) - 1) = (k : Int) by omega]
      · have hin : os[k] ∉ left := fun q => e2 (decide_eq_true q)
        refine fin (k + 1) rfl ?_
        rw [et]
        unfold kp
        rw [if_neg hin]
    · have h0 : m = 0 := by
        have : ¬ (0 : Int) < (m : Int) := fun q => e (decide_eq_true q)
        omega
      subst h0
      exact iteF (fin 0 rfl rfl)
end LT

/-! L09: the law k09. -/
namespace LT
open PySem PySem.Spec PyProof.Rows L2
section
variable {α : Type}
/-- all rows of so many books -/
def wd (ps : List α) : Nat → List (List α)
  | 0 => [[]]
  | k + 1 => (wd ps k).flatMap fun r => ps.map fun b => r ++ [b]
def fd (ps : List α) : Nat → List (List α)
  | 0 => []
  | k + 1 => fd ps k ++ wd ps k
theorem wd_mem {ps : List α} : ∀ {k : Nat} {r : List α}, r ∈ wd ps k ↔ r.length = k ∧ ∀ x ∈ r, x ∈ ps
  | 0, r => by
    show r ∈ [[]] ↔ _
    rw [List.mem_singleton]
    refine ⟨fun e => by subst e; exact ⟨rfl, fun x hx => nomatch hx⟩, fun h => List.length_eq_zero_iff.mp h.1⟩
  | k + 1, r => by
    unfold wd
    rw [List.mem_flatMap]
    constructor
    · rintro ⟨r', h1, h2⟩
      obtain ⟨b, hb, rfl⟩ := List.mem_map.mp h2
      obtain ⟨h3, h4⟩ := wd_mem.mp h1
      refine ⟨by rw [List.length_append, h3]; rfl, fun x hx => ?_⟩
      rcases List.mem_append.mp hx with hx | hx
      · exact h4 x hx
      · rw [List.mem_singleton] at hx; subst hx; exact hb
    · rintro ⟨h1, h2⟩
      have hne : r ≠ [] := fun e => by subst e; cases h1
      refine ⟨r.dropLast, wd_mem.mpr ⟨by rw [List.length_dropLast, h1]; rfl, fun x hx => h2 x ((List.dropLast_sublist r).subset hx)⟩, ?_⟩
      rw [List.mem_map]
      exact ⟨r.getLast hne, h2 _ (List.getLast_mem hne), List.dropLast_concat_getLast hne⟩
theorem wd_len (ps : List α) : ∀ k, (wd ps k).length = ps.length ^ k
  | 0 => rfl
  | k + 1 => by
    have : ∀ l : List (List α), (l.flatMap fun r => ps.map fun b => r ++ [b]).length = l.length * ps.length := by
      intro l
      induction l with
      | nil => simp
      | cons a r ih =>
        rw [List.flatMap_cons, List.length_append, ih, List.length_map, List.length_cons, Nat.add_mul, Nat.one_mul, Nat.add_comm]
    unfold wd
    rw [this, wd_len ps k, Nat.pow_succ]
theorem wd_nodup {ps : List α} (nd : ps.Nodup) : ∀ k, (wd ps k).Nodup
  | 0 => by simp [wd]
  | k + 1 => by
    have ih := wd_nodup nd k
    unfold wd
    generalize wd ps k = l at ih
    induction l with
    | nil => simp
    | cons a r ih2 =>
      rw [List.nodup_cons] at ih
      rw [List.flatMap_cons, List.nodup_append]
      refine ⟨?_, ih2 ih.2, ?_⟩
      · refine List.Pairwise.map _ (fun x y hxy e => hxy ?_) nd
        have := List.append_cancel_left e
        simpa using this
      · intro x hx y hy e
        obtain ⟨b, _, rfl⟩ := List.mem_map.mp hx
        obtain ⟨r', hr', hy2⟩ := List.mem_flatMap.mp hy
        obtain ⟨c, _, rfl⟩ := List.mem_map.mp hy2
        have h1 : a = r' := by
          have := congrArg List.dropLast e
          simpa using this
        exact ih.1 (h1 ▸ hr')
theorem fd_mem {ps : List α} : ∀ {k : Nat} {r : List α}, r ∈ fd ps k → r.length < k ∧ ∀ x ∈ r, x ∈ ps
  | 0, r, h => nomatch h
  | k + 1, r, h => by
    rcases List.mem_append.mp h with h | h
    · obtain ⟨h1, h2⟩ := fd_mem h
      exact ⟨by omega, h2⟩
    · obtain ⟨h1, h2⟩ := wd_mem.mp h
      exact ⟨by omega, h2⟩
theorem filter_one {l : List α} {p : α → Bool} {a : α} (nd : l.Nodup) (ha : a ∈ l) (h : ∀ x ∈ l, p x = true ↔ x = a) : l.filter p = [a] := by
  induction l with
  | nil => cases ha
  | cons b r ih =>
    rw [List.nodup_cons] at nd
    by_cases e : b = a
    · subst e
      rw [List.filter_cons, if_pos ((h b (List.mem_cons_self ..)).mpr rfl)]
      rw [List.filter_eq_nil_iff.mpr fun x hx q => nd.1 ((h x (List.mem_cons_of_mem _ hx)).mp q ▸ hx)]
    · have hb : ¬ p b = true := fun q => e ((h b (List.mem_cons_self ..)).mp q)
      rw [List.filter_cons, if_neg hb]
      exact ih nd.2 ((List.mem_cons.mp ha).resolve_left fun q => e q.symm) fun x hx => h x (List.mem_cons_of_mem _ hx)
end
/-- the addresses of the rows that are kept -/
def keepA (p : List Str → Bool) (as : List Addr) (rows : List (List Str)) : List (Addr × List Str) := (as.zip rows).filter fun z => p z.2
theorem rows_zip {H : Hp} {as : List Addr} {rows : List (List Str)} (h : RowsAt H as rows) : ∀ z ∈ as.zip rows, H z.1 = some (.lst (z.2.map V.str)) := by
  induction h with
  | nil => intro z hz; cases hz
  | cons r t ih =>
    intro z hz
    rw [List.zip_cons_cons, List.mem_cons] at hz
    rcases hz with rfl | hz
    · exact r
    · exact ih z hz
def sp_law (K : PySem.W.Frag) : Sp := fun vs H Q _ => ∃ (a : Addr) (ns : List Int), vs = [.ref a] ∧ SqL K H a (ns.map V.int) ∧ ns.length ≤ 63 ∧ ∀ H', Q (.bl true) H'
abbrev N_law : List Str := ["script", "tape", "size", "pile", "other", "told", "rows", "found", "turn", "longer", "row", "some", "at", "book"]
def t_law (K : PySem.W.Frag) : TS :=
  (tSeq (tAsg (tLst (tCons (tCB (rListOf K) (tCons (tVar 0) tNil)) (tCons (tC (.int 0)) (tCons (tC (.int 0)) tNil)))) (gName 1))
    (tSeq (tFor (iList K (tLst (tCons (tC (.int 5)) (tCons (tC (.int 4)) (tCons (tC (.int 7)) tNil))))) (gName 2)
    (tSeq (tAsg (tCall (sp_law_pile K) [] E0 (tCons (tVar 1) (tCons (tVar 2) tNil))) (gName 3))
    (tSeq (tAsg (tCB (rTupOf K) (tCons (tLc (iTup K (tCall (sp_law_any_order K) [] E0 (tCons (tVar 1) (tCons (tCB (rLenSq K) (tCons (tVar 3) tNil)) tNil)))) (gName 12) tYes (tOp (rIxT K) (tVar 3) (tVar 12)) [12]) tNil)) (gName 4))
    (Evl.tCut (tAsg (tIf (tTest (tOp rEq (tCall (sp_law_draw K) [] E0 (tCons (tVar 1) (tCons (tC (.int 2)) tNil))) (tC (.int 0)))) (tOp (rIxT K) (tCall (sp_law_read K) [] E0 (tCons (tVar 3) (tCons (tCall (sp_law_readings K) [] E0 (tCons (tVar 1) (tCons (tVar 3) (tCons (tC (.int 3)) tNil)))) tNil))) (tC (.int 0))) (tVar 4)) (gName 4))
    (tSeq (tAsg (tCall (sp_fewest_to K) [] E0 (tCons (tVar 3) (tCons (tVar 4) tNil))) (gName 5))
    (tSeq (tIfS (tOr (tNot (tB (tCB (rIsi K) (tCons (tVar 5) (tCons (tC (.ty "list")) tNil))))) (tTest (tOp (rNeD K) (tOp (rIxT K) (tCall (sp_law_read K) [] E0 (tCons (tVar 3) (tCons (tVar 5) tNil))) (tC (.int 0))) (tVar 4)))) (tRet (tC (.bl false))) tNext)
    (tSeq (tIfS (tTest (tOp rNe (tCB (rLenSq K) (tCons (tVar 5) tNil)) (tOp rSubI (tCB (rLenSq K) (tCons (tVar 3) tNil)) (tCall (sp_law_staying K) [] E0 (tCons (tVar 3) (tCons (tVar 4) tNil)))))) (tRet (tC (.bl false))) tNext)
    (tSeq (tPar 6 7 (tCons (tLst (tCons (tLst tNil) tNil)) (tCons (tLst tNil) tNil)))
    (tSeq (tFor (iRng1 (tCons (tIf (tTest (tOp rLtI (tVar 2) (tC (.int 7)))) (tCB (rLenSq K) (tCons (tVar 5) tNil)) (tC (.int 0))) tNil)) (gName 8)
    (tSeq (tAsg (tLst tNil) (gName 9))
    (tSeq (tFor (iList K (tVar 6)) (gName 10)
    (tAsg (tOp rCat (tVar 9) (tLc (iTup K (tVar 3)) (gName 13) tYes (tOp rCat (tVar 10) (tLst (tCons (tVar 13) tNil))) [13])) (gName 9)))
    (tPar 7 6 (tCons (tOp rCat (tVar 7) (tVar 6)) (tCons (tVar 9) tNil))))))
    (tSeq (tIfS (tTest (tOp (rNeD K) (tLc (iList K (tVar 7)) (gName 10) (tTest (tOp (rEqD K) (tOp (rIxT K) (tCall (sp_law_read K) [] E0 (tCons (tVar 3) (tCons (tVar 10) tNil))) (tC (.int 0))) (tVar 4))) (tVar 10) [10]) (tLst tNil))) (tRet (tC (.bl false))) tNext)
    (tSeq (tAsg (tLc (iList K (tVar 6)) (gName 10) (tTest (tOp (rEqD K) (tOp (rIxT K) (tCall (sp_law_read K) [] E0 (tCons (tVar 3) (tCons (tVar 10) tNil))) (tC (.int 0))) (tVar 4))) (tVar 10) [10]) (gName 11))
    (tIfS (tAnd (tTest (tOp rLtI (tVar 2) (tC (.int 7)))) (tTest (tOp (rNeD K) (tVar 11) (tLst (tCons (tVar 5) tNil))))) (tRet (tC (.bl false))) tNext))))))))))))
    (tRet (tC (.bl true)))))

theorem len_law {K : PySem.W.Frag} {vs : List V} {H : Hp} {Q : VK} {E : XK} (h : sp_law K vs H Q E) : vs.length = 1 := by
  obtain ⟨_, _, rfl, _⟩ := h
  rfl
/-- the rows whose reading leads to the other pile -/
theorem lc_rows {K : PySem.W.Frag} {σ : L2.St} {H : Hp} {p o w : Addr} {ps os : List Str} {as : List Addr} {rows : List (List Str)} {jw : Nat} {Q : VK} {a0 t x q y6 y7 y8 y9 y10 y11 y12 y13 : Option V}
    (hσ : σ = [a0, t, x, some (.ref p), some (.ref o), q, y6, y7, y8, y9, y10, y11, y12, y13]) (hjw : σ[jw]? = some (some (.ref w))) (hP : SqT K H p (ps.map V.str)) (hO : SqT K H o (os.map V.str)) (okp : OkS ps) (oko : OkS os) (hpl : ps.length ≤ 100)
    (hW : H w = some (.lst (as.map V.ref))) (hR : RowsAt H as rows) (hrow : ∀ r ∈ rows, r.length ≤ 1000 ∧ ∀ x ∈ r, x ∈ ps) (hn : rows.length ≤ 1000000)
    (fin : ∀ (D : Addr) (H' : Hp), Same H H' → H' D = some (.lst (((as.zip rows).filter fun z => decide (bh ps z.2 = os)).map fun z => V.ref z.1)) → Q (.ref D) H') :
    tLc (iList K (tVar jw)) (gName 10) (tTest (tOp (rEqD K) (tOp (rIxT K) (tCall (sp_law_read K) [] E0 (tCons (tVar 3) (tCons (tVar 10) tNil))) (tC (.int 0))) (tVar 4))) (tVar 10) [10] σ H Q := by
  refine ⟨_, hjw, w, rfl, ⟨_, .of hW⟩, fun D nD => ?_⟩
  have hzl : (as.zip rows).length = as.length := by
    have := hR.length
    rw [List.length_zip]; omega
  refine lc_it (walk_list (K := K) (a := w) (xs := as.map V.ref)) (LcP D fun j B acc => Same H B ∧ acc = (((as.zip rows).take j).filter fun z => decide (bh ps z.2 = os)).map fun z => V.ref z.1)
    (lcp0 nD ⟨Same.refl _, rfl⟩) (fun j H5 hj ⟨acc, h1, h2, _⟩ => .of ((h2.trans del_same) _ _ hW)) ?_ ?_
  · rintro j x H5 H5' hj ⟨acc, h1, h2, rfl⟩ ⟨rfl, hx⟩
    obtain ⟨a, ha, rfl⟩ := at_ref hx
    obtain ⟨r, hr, hra⟩ := paired_get hR ha
    have s5 : Same H H5' := h2.trans del_same
    have hrm := hrow r (List.mem_of_getElem? hr)
    have hz : (as.zip rows)[j]? = some (a, r) := by
      rw [List.getElem?_zip_eq_some]
      exact ⟨ha, hr⟩
    subst hσ
    refine ⟨rfl, ?_⟩
    refine ⟨_, rfl, _, rfl, p, a, ps, r, rfl, .inr (same_sqt s5 hP), .inl (.of (s5 _ _ hra)), hpl, hrm.1, hrm.2, fun pp u n' w' as' H6 s6 hpp hu _ _ _ _ _ => ?_⟩
    have okb : OkS (bh ps r) := okp.perm (bh_perm hrm.2)
    refine ⟨pp, _, 0, _, rfl, rfl, .of hpp, rfl, _, rfl, r_eqT hu (same_sqt (s5.trans s6) hO) okb oko ⟨_, rfl, ite2 (fun e => ?_) (fun e => ?_)⟩⟩
    · refine ⟨_, rfl, lcp_push (s6 _ _ h1) ?_ ⟨?_, ?_⟩⟩
      · rw [List.length_map]
        refine lt_line ?_
        have := List.length_filter_le (fun z : Addr × List Str => decide (bh ps z.2 = os)) ((as.zip rows).take j)
        rw [List.length_take] at this
        have h3 := hR.length
        omega
      · exact h2.trans (del_mono s6)
      · rw [filter_take_pos hz (by exact e), List.map_append]
        rfl
    · refine ⟨_, s6 _ _ h1, h2.trans (del_mono s6), ?_⟩
      rw [filter_take_neg hz (by simpa using e)]
  · rintro H5 ⟨acc, h1, h2, rfl⟩
    rw [List.length_map, ← hzl, List.take_length] at h1
    exact fin D H5 (h2.trans del_same) h1
theorem dp_rows {K : PySem.W.Frag} {H : Hp} : ∀ {as : List Addr} {rows : List (List Str)}, RowsAt H as rows → DpAll K H (as.map V.ref) (rows.map fun r => PyData.list (r.map .str))
  | _, _, .nil => .nil
  | _, _, .cons r t => .cons (dp_strL (.of r)) (dp_rows t)
/-- a step: longer = longer + [row + [book] for book in pile] -/
theorem lc_grow {K : PySem.W.Frag} {σ : L2.St} {H : Hp} {p c : Addr} {ps r : List Str} {Q : VK} {a0 t x o q y6 y7 y8 y9 y11 y12 y13 : Option V}
    (hσ : σ = [a0, t, x, some (.ref p), o, q, y6, y7, y8, y9, some (.ref c), y11, y12, y13]) (hP : SqT K H p (ps.map V.str)) (hpl : ps.length ≤ 100) (hC : H c = some (.lst (r.map V.str))) (hrl : r.length ≤ 1000)
    (fin : ∀ (D : Addr) (bs : List Addr) (H' : Hp), Same H H' → H' D = some (.lst (bs.map V.ref)) → RowsAt H' bs (ps.map fun b => r ++ [b]) → Q (.ref D) H') :
    tLc (iTup K (tVar 3)) (gName 13) tYes (tOp rCat (tVar 10) (tLst (tCons (tVar 13) tNil))) [13] σ H Q := by
  subst hσ
  refine ⟨_, rfl, p, rfl, ⟨_, hP⟩, fun D nD => ?_⟩
  refine lc_it (walk_tup (K := K) (a := p) (xs := ps.map V.str)) (LcP D fun j B acc => Same H B ∧ ∃ bs, acc = bs.map V.ref ∧ RowsAt B bs ((ps.take j).map fun b => r ++ [b]))
    (lcp0 nD ⟨Same.refl _, [], rfl, .nil⟩) (fun j H5 hj ⟨acc, h1, h2, _⟩ => same_sqt (h2.trans del_same) hP) ?_ ?_
  · rintro j x H5 H5' hj ⟨acc, h1, h2, bs, rfl, h3⟩ ⟨rfl, hx⟩
    obtain ⟨z, hz, rfl⟩ := at_str hx
    have s5 : Same H H5' := h2.trans del_same
    refine ⟨rfl, t_yes ?_⟩
    refine ⟨_, rfl, _, rfl, by show 1 ≤ sizeLine; decide, fun e ne => ?_⟩
    have se := same_upd (o := .lst [V.str z]) ne
    refine ⟨c, e, _, _, rfl, rfl, se _ _ (s5 _ _ hC), upd_same, ?_, fun d nd => ?_⟩
    · rw [List.length_map]
      show r.length + 1 ≤ sizeLine
      exact le_line (by omega)
    have sd := same_upd (o := .lst (r.map V.str ++ [V.str z])) nd
    have sed := se.trans sd
    have hed : del (upd (upd H5' e (.lst [V.str z])) d (.lst (r.map V.str ++ [V.str z]))) D d = some (.lst ((r ++ [z]).map V.str)) := by
      have : d ≠ D := fun q => by rw [q] at nd; rw [se _ _ h1] at nd; cases nd
      rw [del_ne this, upd_same, List.map_append]
      rfl
    refine lcp_push (acc := bs.map V.ref) (sed _ _ h1) ?_ ⟨h2.trans (del_mono sed), bs ++ [d], by rw [List.map_append]; rfl, ?_⟩
    · have := h3.length
      simp only [List.length_map, List.length_take] at this ⊢
      exact lt_line (by omega)
    · rw [take_push _ _ _ (List.getElem?_eq_some_iff.mp hz).1, (List.getElem?_eq_some_iff.mp hz).2]
      exact (h3.grow (del_mono sed)).snoc hed
  · rintro H5 ⟨acc, h1, h2, bs, rfl, h3⟩
    rw [List.length_map, List.take_length] at h3
    exact fin D bs H5 (h2.trans del_same) h1 (h3.grow del_same)
theorem flat_take {α β : Type} (f : α → List β) (l : List α) (j : Nat) (x : α) (h : l[j]? = some x) : (l.take (j + 1)).flatMap f = (l.take j).flatMap f ++ f x := by
  rw [List.take_add_one, h, List.flatMap_append]
  simp
theorem wd_bound {ps : List Str} {k : Nat} (hp : ps.length ≤ 5) (hk : k ≤ 5) : (wd ps k).length ≤ 3125 := by
  rw [wd_len]
  exact Nat.le_trans (Nat.pow_le_pow_left hp k) (Nat.pow_le_pow_right (by decide) hk)
theorem fd_bound {ps : List Str} (hp : ps.length ≤ 5) : ∀ {k : Nat}, k ≤ 6 → (fd ps k).length ≤ k * 3125
  | 0, _ => Nat.le_refl _
  | k + 1, h => by
    have h1 := fd_bound hp (k := k) (by omega)
    have h2 := wd_bound hp (k := k) (by omega)
    unfold fd
    rw [List.length_append]
    omega
theorem if_len7 {K : PySem.W.Frag} {σ : L2.St} {H : Hp} {Q : VK} {i j : Nat} {m : Int} {b : Addr} {xs : List V} (hi : σ[i]? = some (some (.int m))) (hj : σ[j]? = some (some (.ref b))) (hb : SqA K H b xs) (q : Q (vNat (if m < 7 then xs.length else 0)) H) :
    tIf (tTest (tOp rLtI (tVar i) (tC (.int 7)))) (tCB (rLenSq K) (tCons (tVar j) tNil)) (tC (.int 0)) σ H Q := by
  refine ⟨_, hi, m, 7, rfl, rfl, _, rfl, ite2 (fun e => ?_) (fun e => ?_)⟩
  · have h := of_decide_eq_true e
    rw [if_pos h] at q
    exact ⟨_, hj, b, _, rfl, hb, q⟩
  · have h : ¬ m < 7 := fun z => e (decide_eq_true z)
    rw [if_neg h] at q
    exact q
theorem for_go {ta : TA} {g : TG} {tb : TS} {D : Ends} {σ : L2.St} {H : Hp} (h : ta σ H fun vs H1 => ∃ j : Int, vs = [.int j] ∧ -(2 ^ 62) ≤ j ∧ j < 2 ^ 62 ∧ (∃ W : Nat → Nat → L2.St → Hp → Prop, (∃ m, W 0 m σ H1) ∧ ∀ i m σ H, W i m σ H →
    ((Itr 0 j.toNat).stop i H ∧ D.nx σ H) ∨ ((Itr 0 j.toNat).go i H ∧ ∃ N : L2.St → Hp → Prop, (∀ σ' H', N σ' H' → ∃ m', m' < m ∧ W (i + 1) m' σ' H') ∧ ∀ x H', (Itr 0 j.toNat).yld i H x H' → g x σ H' fun σ2 H2 => tb { D with nx := N, ct := N, bk := D.nx } σ2 H2))) : tFor (iRng1 ta) g tb D σ H := h
theorem sem_law {K : PySem.W.Frag} {vs : List V} {H : Hp} {Q : VK} {E : XK} (h : sp_law K vs H Q E) : t_law K { nx := fun _ H' => Q .non H', rt := Q } (start N_law vs) H := by
  obtain ⟨a, ns, rfl, hA, hns, q⟩ := h
  unfold t_law
  refine law_start rfl hA fun t s H1 hT1 hS1 => ?_
  refine ⟨by show 3 ≤ sizeLine; decide, fun l nl => ⟨l, rfl, ⟨_, .of upd_same⟩, ?_⟩⟩
  have hlt := hT1.ne nl
  refine for_it (walk_list (K := K) (a := l) (xs := [V.int 5, V.int 4, V.int 7]))
    (fun i σ H2 => ∃ y2 y3 y4 y5 y6 y7 y8 y9 y10 y11 y12 y13 : Option V, σ = [some (.ref a), some (.ref t), y2, y3, y4, y5, y6, y7, y8, y9, y10, y11, y12, y13] ∧ Tp H2 t s ∧ Scr (del H2 t) s ∧ del H2 t l = some (.lst [V.int 5, V.int 4, V.int 7]))
    ⟨none, none, none, none, none, none, none, none, none, none, none, none, rfl, hT1.mut hlt, hS1.grow (del_mono (same_upd nl)), by rw [del_ne hlt]; exact upd_same⟩ ?_ ?_ ?_
  · rintro i σ H2 hi ⟨_, _, _, _, _, _, _, _, _, _, _, _, _, _, _, h⟩
    exact .of (del_get h).2
  · rintro i x σ H2 H2' hi ⟨y2, y3, y4, y5, y6, y7, y8, y9, y10, y11, y12, y13, rfl, hT2, hS2, hL2⟩ ⟨rfl, hx⟩
    obtain ⟨m, rfl, hm1, hm2, hm5⟩ : ∃ m : Int, x = .int m ∧ 1 ≤ m ∧ m ≤ 7 ∧ (m < 7 → m ≤ 5) := by
      match i, hi, hx with
      | 0, _, hx => exact ⟨5, (Option.some.inj hx).symm, by decide, by decide, by decide⟩
      | 1, _, hx => exact ⟨4, (Option.some.inj hx).symm, by decide, by decide, by decide⟩
      | 2, _, hx => exact ⟨7, (Option.some.inj hx).symm, by decide, by decide, by decide⟩
    -- pile
    refine ⟨_, rfl, _, rfl, t, s, m, rfl, hm1, hm2, hT2, hS2, fun p n ps H3 hn1 hnm pm hT3 sm3 hP3 => ?_⟩
    have hnm7 : n ≤ 7 := by omega
    obtain ⟨ndp, hpl, okp, _⟩ := pile_facts pm hnm7
    have hS3 := hS2.grow sm3
    -- other
    refine seq_go (asg_go (cb_go (cons_go (lc_perm (it := 1) (j := 3) (i := 12) rfl rfl (by decide) (by simp) (by omega) hT3 hS3 (.inr hP3) (fun H1 k Q hk s1 q => ⟨p, _, _, _, rfl, rfl, same_sqt s1 hP3, atI_nat (by rw [List.getElem?_map, List.getElem?_eq_getElem hk]; rfl), q⟩) fun D os H4 pmo hT4 sm4 nD hD => ?_))))
    refine nil_go ⟨D, _, rfl, .inl ⟨.of hD, fun o no => ?_⟩⟩
    have hot := hT4.ne no
    have so := same_upd (o := .tup (os.map V.str)) no
    refine ⟨fun σ H5 => ∃ (o : Addr) (os : List Str), σ = [some (.ref a), some (.ref t), some (.int m), some (.ref p), some (.ref o), y5, y6, y7, y8, y9, y10, y11, y12, y13] ∧ Tp H5 t s ∧ Same (del H2' t) (del H5 t) ∧ SqT K (del H5 t) p (ps.map V.str) ∧ SqT K (del H5 t) o (os.map V.str) ∧ os.Perm ps, ?_, ?_⟩
    · have hT5 : Tp (upd H4 o (.tup (os.map V.str))) t s := hT4.mut hot
      have sm5 : Same (del H3 t) (del (upd H4 o (.tup (os.map V.str))) t) := sm4.trans (del_mono so)
      refine ⟨_, rfl, t, s, 2, rfl, by decide, by decide, hT5, hS3.grow sm5, fun r H6 _ _ hT6 e6 k6 => ?_⟩
      have sm6 : Same (del H3 t) (del H6 t) := by rw [e6]; exact sm5
      have hP6 := same_sqt sm6 hP3
      refine ⟨rfl, _, rfl, ite2 (fun e => ?_) (fun e => ?_)⟩
      · refine ⟨_, rfl, _, rfl, _, rfl, t, s, p, ps, 3, rfl, fun e => by rw [e] at hpl; simp at hpl; omega, by omega, by decide, hT6, hS3.grow sm6, hP6, fun b rs H7 hrl hrin hT7 sm7 nb hb => ?_⟩
        have hP7 := same_sqt sm7 hP6
        refine ⟨p, b, ps, rs, rfl, .inr (same_sqt del_same hP7), .inl (.of hb), by omega, by omega, hrin, fun pp u n' w as H8 s8 hpp hu _ _ _ _ _ => ?_⟩
        have hT8 := hT7.grow s8
        refine ⟨pp, _, 0, _, rfl, rfl, .of hpp, rfl, u, bh ps rs, rfl, hT8, sm3.trans (sm6.trans (sm7.trans (del_mono s8))), same_sqt (sm7.trans (del_mono s8)) hP6, hT8.sqt hu, bh_perm hrin⟩
      · exact ⟨_, rfl, o, os, rfl, hT6, sm3.trans sm6, hP6, by rw [e6]; exact hT5.sqt (.of upd_same), pmo⟩
    · rintro σ H5 ⟨o, os, rfl, hT5, sm5, hP5, hO5, pmo⟩
      have hP := same_sqt del_same hP5
      have hO := same_sqt del_same hO5
      have oko : OkS os := okp.perm pmo
      have hol : os.length = n := by rw [pmo.length_eq, hpl]
      obtain ⟨f1, f2, f3, f4, f5⟩ := fewest ndp pmo
      generalize eT : kp ps os.reverse = told at f1 f2 f3 f4 f5
      have okt : OkS told := fun x hx => okp x (f2 x hx)
      -- told
      refine ⟨_, rfl, _, rfl, p, o, ps, os, rfl, hP, hO, by omega, by omega, fun b H6 s6 nb hb => ?_⟩
      rw [eT] at hb
      have hP6 := same_sqt s6 hP
      have hO6 := same_sqt s6 hO
      -- is it a list; does it lead there
      refine ⟨_, rfl, cons_go (c_go (nil_go (isi_list hb ⟨_, rfl, iteF ?_⟩)))⟩
      refine ⟨_, rfl, _, rfl, p, b, ps, told, rfl, .inr hP6, .inl (.of hb), by omega, by omega, f2, fun pp u n' w as H7 s7 hpp hu _ _ _ _ _ => ?_⟩
      have hP7 := same_sqt s7 hP6
      have hO7 := same_sqt s7 hO6
      rw [f1] at hu
      refine ⟨pp, _, 0, _, rfl, rfl, .of hpp, rfl, _, rfl, r_neT hu hO7 oko oko ⟨_, rfl, iteNS rfl ?_⟩⟩
      -- its length
      refine ⟨_, rfl, b, _, rfl, .inl (.of (s7 _ _ hb)), _, rfl, p, _, rfl, .inr hP7, _, rfl, _, rfl, p, o, ps, os, rfl, hP7, hO7, by omega, by omega, okp, oko, fun H8 s8 => ?_⟩
      have s68 := s7.trans s8
      have hP8 := same_sqt s8 hP7
      have hO8 := same_sqt s8 hO7
      have hb8 := s68 _ _ hb
      refine ⟨_, _, rfl, rfl, rfl, _, rfl, iteNS ?_ ?_⟩
      · rw [List.length_map, List.length_map]
        congr 1
        omega
      -- rows, found
      refine ⟨Nat.zero_le _, fun r0 nr0 => ⟨by show 1 ≤ sizeLine; decide, fun w0 nw0 => ⟨Nat.zero_le _, fun g0 ng0 => ⟨_, _, rfl, ?_⟩⟩⟩⟩
      have z1 := same_upd (o := .lst []) nr0
      have z2 := same_upd (o := .lst [V.ref r0]) nw0
      have z3 := same_upd (o := .lst []) ng0
      have z13 := z1.trans (z2.trans z3)
      -- how many turns
      refine seq_go (for_go (cons_go (if_len7 rfl rfl (.inl (.of (z13 _ _ hb8))) (nil_go ?_))))
      rw [List.length_map]
      generalize eN : (if m < 7 then told.length else 0) = N
      have hN5 : N ≤ 5 ∧ (N = 0 ∨ ps.length ≤ 5) ∧ N ≤ told.length := by
        by_cases h7 : m < 7
        · rw [if_pos h7] at eN
          have := hm5 h7
          omega
        · rw [if_neg h7] at eN
          omega
      have hwb : ∀ k, k ≤ N → (wd ps k).length ≤ 3125 := fun k hk => by
        rcases hN5.2.1 with h0 | h5
        · have : k = 0 := by omega
          subst this
          show 1 ≤ 3125
          decide
        · exact wd_bound h5 (by omega)
      have hfb : ∀ k, k ≤ N → (fd ps k).length ≤ k * 3125 := by
        intro k
        induction k with
        | zero => intro _; exact Nat.le_refl _
        | succ k ih =>
          intro hk
          have h1 := ih (by omega)
          have h2 := hwb k (by omega)
          unfold fd
          rw [List.length_append]
          omega
      refine ⟨(N : Int), rfl, by omega, by omega, ?_⟩
      rw [Int.toNat_natCast]
      refine for_it walk_rng (fun k σ H9 => ∃ (w f : Addr) (as bs : List Addr) (y8 y9 y10 y11 y12 y13 : Option V), σ = [some (.ref a), some (.ref t), some (.int m), some (.ref p), some (.ref o), some (.ref b), some (.ref w), some (.ref f), y8, y9, y10, y11, y12, y13] ∧
          Same H8 H9 ∧ H9 w = some (.lst (as.map V.ref)) ∧ RowsAt H9 as (wd ps k) ∧ H9 f = some (.lst (bs.map V.ref)) ∧ RowsAt H9 bs (fd ps k))
        ⟨w0, g0, [r0], [], y8, y9, y10, y11, y12, y13, rfl, z13, z3 _ _ upd_same, .cons (z3 _ _ (z2 _ _ upd_same)) .nil, upd_same, .nil⟩ (fun _ _ _ _ _ => trivial) ?_ ?_
      · rintro k x σ H9 H9' hk ⟨w, f, as, bs, y8, y9, y10, y11, y12, y13, rfl, s9, hW, hR, hF, hG⟩ ⟨rfl, rfl⟩
        have hP9 := same_sqt s9 hP8
        have hal : as.length ≤ 3125 := by rw [hR.length]; exact hwb k (by omega)
        -- longer = []
        refine ⟨Nat.zero_le _, fun l0 nl0 => ?_⟩
        have sl := same_upd (o := .lst []) nl0
        refine ⟨_, rfl, w, rfl, ⟨_, .of (sl _ _ hW)⟩, ?_⟩
        refine for_it (walk_list (K := K) (a := w) (xs := as.map V.ref)) (fun j σ Ha => ∃ (l : Addr) (cs : List Addr) (y10 y13 : Option V), σ = [some (.ref a), some (.ref t), some (.int m), some (.ref p), some (.ref o), some (.ref b), some (.ref w), some (.ref f), some (vNat k), some (.ref l), y10, y11, y12, y13] ∧
            Same H9' Ha ∧ Ha l = some (.lst (cs.map V.ref)) ∧ RowsAt Ha cs (((wd ps k).take j).flatMap fun r => ps.map fun b => r ++ [b]))
          ⟨l0, [], y10, y13, rfl, sl, upd_same, .nil⟩ (fun j σ Ha hj ⟨l, cs, _, _, _, sa, _, _⟩ => .of (sa _ _ hW)) ?_ ?_
        · rintro j x σ Ha Ha' hj ⟨l, cs, y10, y13, rfl, sa, hL, hC⟩ ⟨rfl, hx⟩
          obtain ⟨c, hc, rfl⟩ := at_ref hx
          obtain ⟨r, hr, hrc⟩ := paired_get hR hc
          have hrk := wd_mem.mp (List.mem_of_getElem? hr)
          have hjw : j < (wd ps k).length := (List.getElem?_eq_some_iff.mp hr).1
          refine asg_go (op_go (var_go rfl (lc_grow rfl (same_sqt sa hP9) (by omega) (sa _ _ hrc) (by omega) fun D ds Hb sb hD hds => ?_)))
          refine ⟨l, D, _, _, rfl, rfl, sb _ _ hL, hD, ?_, fun l' nl' => ?_⟩
          · have e1 := hC.length
            have e2 := hds.length
            have e3 : (((wd ps k).take j).flatMap fun r => ps.map fun b => r ++ [b]).length ≤ 3125 * 100 := by
              have : ∀ l : List (List Str), (l.flatMap fun r => ps.map fun b => r ++ [b]).length = l.length * ps.length := by
                intro l
                induction l with
                | nil => simp
                | cons a r ih =>
                  rw [List.flatMap_cons, List.length_append, ih, List.length_map, List.length_cons, Nat.add_mul, Nat.one_mul, Nat.add_comm]
              rw [this, List.length_take]
              have := hwb k (by omega)
              exact Nat.mul_le_mul (by omega) (by omega)
            simp only [List.length_map] at e2 ⊢
            exact le_line (by omega)
          rw [← List.map_append]
          have sl' := same_upd (o := .lst ((cs ++ ds).map V.ref)) nl'
          refine ⟨l', cs ++ ds, _, _, rfl, sa.trans (sb.trans sl'), upd_same, ?_⟩
          rw [flat_take _ _ _ _ hr]
          exact paired_append ((hC.grow sb).grow sl') (hds.grow sl')
        · rintro σ Ha ⟨l, cs, y10, y13, rfl, sa, hL, hC⟩
          have ecs : ((wd ps k).take ((as.map V.ref).length)).flatMap (fun r => ps.map fun b => r ++ [b]) = wd ps (k + 1) := by
            rw [List.length_map, hR.length, List.take_length]
            rfl
          rw [ecs] at hC
          refine ⟨_, rfl, _, rfl, f, w, _, _, rfl, rfl, sa _ _ hF, sa _ _ hW, ?_, fun f' nf' => ?_⟩
          · have e1 := hG.length
            have e2 := hfb k (by omega)
            simp only [List.length_map]
            exact le_line (by omega)
          rw [← List.map_append]
          have sf' := same_upd (o := .lst ((bs ++ as).map V.ref)) nf'
          refine ⟨_, rfl, _, _, rfl, l, f', cs, bs ++ as, _, _, _, _, _, _, rfl, s9.trans (sa.trans sf'), sf' _ _ hL, hC.grow sf', upd_same, ?_⟩
          exact paired_append (hG.grow (sa.trans sf')) (hR.grow (sa.trans sf'))
      · rintro σ H9 ⟨w, f, as, bs, y8, y9, y10, y11, y12, y13, rfl, s9, hW, hR, hF, hG⟩
        have hP9 := same_sqt s9 hP8
        have hO9 := same_sqt s9 hO8
        -- no shorter ones
        refine seq_go (ifs_go (test_go (op_go (lc_rows (jw := 7) rfl rfl hP9 hO9 okp oko (by omega) hF hG (fun r hr => ⟨by have := (fd_mem hr).1; omega, (fd_mem hr).2⟩) (by have := hfb N (Nat.le_refl _); omega) fun D Ha sa hD => ?_))))
        have enil : ((bs.zip (fd ps N)).filter fun z => decide (bh ps z.2 = os)) = [] := by
          apply List.filter_eq_nil_iff.mpr
          intro z hz q
          have hz2 := fd_mem (List.of_mem_zip hz).2
          have := (f5 z.2 hz2.2 (of_decide_eq_true q)).1
          omega
        rw [enil] at hD
        refine ⟨Nat.zero_le _, fun e ne => ?_⟩
        have se := same_upd (o := .lst []) ne
        refine ⟨.list [], .list [], .lst (.of (se _ _ hD)) .nil, .lst (.of upd_same) .nil, by decide, by decide, _, rfl, ?_⟩
        refine iteF ?_
        -- just the told one
        have sae := sa.trans se
        refine seq_go (asg_go (lc_rows (jw := 6) rfl rfl (same_sqt sae hP9) (same_sqt sae hO9) okp oko (by omega) (sae _ _ hW) (hR.grow sae) (fun r hr => ⟨by have := (wd_mem.mp hr).1; omega, (wd_mem.mp hr).2⟩) (by have := hwb N (Nat.le_refl _); omega) fun D2 Hb sb hD2 => ?_))
        have hb9 := (sae.trans sb) _ _ (s9 _ _ hb8)
        have fin : ∀ Hc, Same Hb Hc → ∃ u2 u3 u4 u5 u6 u7 u8 u9 u10 u11 u12 u13 : Option V, [some (V.ref a), some (.ref t), some (.int m), some (.ref p), some (.ref o), some (.ref b), some (.ref w), some (.ref f), y8, y9, y10, some (.ref D2), y12, y13] = [some (.ref a), some (.ref t), u2, u3, u4, u5, u6, u7, u8, u9, u10, u11, u12, u13] ∧ Tp Hc t s ∧ Scr (del Hc t) s ∧ del Hc t l = some (.lst [V.int 5, V.int 4, V.int 7]) := fun Hc sc => by
          have s5c : Same H5 Hc := s6.trans (s68.trans (s9.trans (sae.trans (sb.trans sc))))
          exact ⟨_, _, _, _, _, _, _, _, _, _, _, _, rfl, hT5.grow s5c, hS2.grow (sm5.trans (del_mono s5c)), del_mono s5c _ _ (sm5 _ _ hL2)⟩
        refine ⟨_, rfl, m, 7, rfl, rfl, _, rfl, ite2 (fun e7 => ?_) (fun e7 => ?_)⟩
        · have h7 : m < 7 := of_decide_eq_true e7
          rw [if_pos h7] at eN
          have hRb := hR.grow (sae.trans sb)
          have hmem : told ∈ wd ps N := wd_mem.mpr ⟨eN, f2⟩
          have eone : (wd ps N).filter (fun r => decide (bh ps r = os)) = [told] := by
            refine filter_one (wd_nodup ndp N) hmem fun r hr => ?_
            obtain ⟨g1, g2⟩ := wd_mem.mp hr
            rw [decide_eq_true_iff]
            exact ⟨fun q => (f5 r g2 q).2 (by omega), fun q => by rw [q]; exact f1⟩
          have ez : ((as.zip (wd ps N)).filter fun z => decide (bh ps z.2 = os)).map (·.2) = [told] := by
            rw [← eone]
            have h1 : (as.zip (wd ps N)).map (·.2) = wd ps N := List.map_snd_zip (by rw [hR.length]; exact Nat.le_refl _)
            conv => rhs; rw [← h1]
            rw [List.filter_map]
            rfl
          obtain ⟨z, hz⟩ : ∃ z, ((as.zip (wd ps N)).filter fun z => decide (bh ps z.2 = os)) = [z] := by
            have := congrArg List.length ez
            rw [List.length_map] at this
            exact List.length_eq_one_iff.mp this
          have hz2 : z.2 = told := by
            rw [hz] at ez
            simpa using ez
          have hzm : z ∈ as.zip (wd ps N) := by
            have : z ∈ (as.zip (wd ps N)).filter fun z => decide (bh ps z.2 = os) := by rw [hz]; exact List.mem_singleton.mpr rfl
            exact (List.mem_filter.mp this).1
          have hza : Hb z.1 = some (.lst (told.map V.str)) := by
            have := rows_zip hRb z hzm
            rw [hz2] at this
            exact this
          rw [hz] at hD2
          refine ⟨_, rfl, _, rfl, by show 1 ≤ sizeLine; decide, fun g ng => ?_⟩
          have sg := same_upd (o := .lst [V.ref b]) ng
          have okl : SeqAt.shaped (.list [.list (told.map .str)]) = true := by
            refine shaped_of ?_ ?_
            · simp only [PyData.canLay0, PyData.canLayAll0, Bool.and_true]
              exact lay_all fun d hd => by
                obtain ⟨x, hx, rfl⟩ := List.mem_map.mp hd
                exact okt x hx
            · simp only [PyData.depth, PyData.depthAll]
              rw [depth_flat fun d hd => by obtain ⟨x, hx, rfl⟩ := List.mem_map.mp hd; rfl]
              decide
          refine ⟨.list [.list (told.map .str)], .list [.list (told.map .str)], .lst (.of (sg _ _ hD2)) (.cons (dp_strL (.of (sg _ _ hza))) .nil), .lst (.of upd_same) (.cons (dp_strL (.of (sg _ _ hb9))) .nil), okl, okl, _, rfl, ?_⟩
          have : PyData.eqv (.list [.list (told.map .str)]) (.list [.list (told.map .str)]) = true := by
            simp only [PyData.eqv, PyData.eqvAll, Bool.and_true]
            rw [eqvAll_strs]
            exact decide_eq_true rfl
          rw [this]
          exact iteF (fin _ sg)
        · exact iteF (fin _ (Same.refl _))
  · rintro σ H2 ⟨y2, y3, y4, y5, y6, y7, y8, y9, y10, y11, y12, y13, rfl, hT2, hS2, hL2⟩
    exact q H2
end LT

namespace LT
open PySem PySem.Spec PyProof.Rows L2
def topS (i : Nat) : Stmt := PySem.Challenge.pw_laidontop_k09_whole_fewest_readings_to_a.main.body.getD i (.Pass ⟨0, 0, 0, 0⟩)
abbrev s_fewest_to : Stmt := topS 1
theorem sc_fewest_to : FnScope N_fewest_to ["pile", "other"] (defScope s_fewest_to) := ⟨rfl, rfl, rfl, by decide +kernel, rfl, by decide +kernel, by decide +kernel⟩
abbrev s_law_draw : Stmt := topS 3
theorem sc_law_draw : FnScope N_law_draw ["tape", "many"] (defScope s_law_draw) := ⟨rfl, rfl, rfl, by decide +kernel, rfl, by decide +kernel, by decide +kernel⟩
abbrev s_law_any_order : Stmt := topS 4
theorem sc_law_any_order : FnScope N_law_any_order ["tape", "many"] (defScope s_law_any_order) := ⟨rfl, rfl, rfl, by decide +kernel, rfl, by decide +kernel, by decide +kernel⟩
abbrev s_law_books : Stmt := topS 5
theorem sc_law_books : FnScope N_law_books [] (defScope s_law_books) := ⟨rfl, rfl, rfl, by decide +kernel, rfl, by decide +kernel, by decide +kernel⟩
abbrev s_law_pile : Stmt := topS 6
theorem sc_law_pile : FnScope N_law_pile ["tape", "size"] (defScope s_law_pile) := ⟨rfl, rfl, rfl, by decide +kernel, rfl, by decide +kernel, by decide +kernel⟩
abbrev s_law_readings : Stmt := topS 7
theorem sc_law_readings : FnScope N_law_readings ["tape", "books", "size"] (defScope s_law_readings) := ⟨rfl, rfl, rfl, by decide +kernel, rfl, by decide +kernel, by decide +kernel⟩
abbrev s_law_read : Stmt := topS 8
theorem sc_law_read : FnScope N_law_read ["pile", "readings"] (defScope s_law_read) := ⟨rfl, rfl, rfl, by decide +kernel, rfl, by decide +kernel, by decide +kernel⟩
abbrev s_law_staying : Stmt := topS 9
theorem sc_law_staying : FnScope N_law_staying ["pile", "other"] (defScope s_law_staying) := ⟨rfl, rfl, rfl, by decide +kernel, rfl, by decide +kernel, by decide +kernel⟩
abbrev s_law : Stmt := topS 10
theorem sc_law : FnScope N_law ["script"] (defScope s_law) := ⟨rfl, rfl, rfl, by decide +kernel, rfl, by decide +kernel, by decide +kernel⟩
theorem ok_fewest_to {P : Program} {w : World} {K : PySem.W.Frag} {mg : Str → Option Value} {base : Heap} {f : Addr} {fd : FuncData} (F : Fun K "fewest_to" "fewest_to" s_fewest_to f fd) (B : Bn mg)  : FnOk P w K mg base CX0 1 f fd ["pile", "other"] (sp_fewest_to K) := by
  refine F.ok sc_fewest_to (fun vs H Q E h => len_fewest_to h) (fun cdv A outer s H vs Q E hr h => ⟨t_fewest_to K, ?_, sem_fewest_to h⟩)
  exact (pss_cons (ps_set (i := 2) sc_fewest_to.nd rfl (.inl rfl) (pe_callB call_len_seq (by rfl) B.m_len PySem.boot_len (pa_cons (pv 1) pa_nil)))
      (pss_cons (ps_set (i := 3) sc_fewest_to.nd rfl (.inl rfl) (pe_callTy call_list_of (by rfl) B.m_list (by decide +kernel) (pa_cons (pv 0) pa_nil)))
      (pss_cons (ps_while PassesOwn.never (PW.pt (pw_and (pt_cmpR op_gt (pv 2) pe_int (nomark _)) (pw_and1 (pt_cmpR op_in_seq (pe_ix ix_tup (pv 1) (pe_op op_sub (pv 2) pe_int) (fun _ _ => rfl)) (pv 3) (by rfl)))))
        (pss_cons (ps_set (i := 3) sc_fewest_to.nd rfl (.inl rfl) (pe_slice sl_list (pv 3) po_none (po_some (pe_bm PySem.F.plainAttrs_list PySem.F.slot_list_index PySem.F.type_list_index mt_index (pv 3) (pa_cons (pe_ix ix_tup (pv 1) (pe_op op_sub (pv 2) pe_int) (fun _ _ => rfl)) pa_nil)))))
      (pss_one (ps_aug (i := 2) sc_fewest_to.nd rfl (.inl rfl) pe_int ip_sub))))
      (pss_one (ps_ret (pe_revL (pe_callTy call_list_of (by rfl) B.m_list (by decide +kernel) (pa_cons (pe_slice sl_tupA (pv 1) po_none (po_some (pv 2))) pa_nil))))))))

theorem ok_law_draw {P : Program} {w : World} {K : PySem.W.Frag} {mg : Str → Option Value} {base : Heap} {f : Addr} {fd : FuncData} (F : Fun K "_law_draw" "_law_draw" s_law_draw f fd) (B : Bn mg)  : FnOk P w K mg base CX0 1 f fd ["tape", "many"] (sp_law_draw K) := by
  refine F.ok sc_law_draw (fun vs H Q E h => len_law_draw h) (fun cdv A outer s H vs Q E hr h => ⟨t_law_draw K, ?_, sem_law_draw h⟩)
  exact (pss_cons (ps_set (i := 2) sc_law_draw.nd rfl (.inl rfl) pe_int)
      (Evl.pss_cut (ps_if (pt_cmpR op_lt (pe_ix ix_list (pv 0) pe_int (fun _ _ => rfl)) (pv 1) (nomark _)) (pss_cons (ps_set (i := 3) sc_law_draw.nd rfl (.inl rfl) pe_int)
      (Evl.pss_cut (ps_if (pt_cmpR op_gt (pe_callB call_len_seq (by rfl) B.m_len PySem.boot_len (pa_cons (pe_ix ix_list (pv 0) pe_int (fun _ _ => rfl)) pa_nil)) pe_int (nomark _)) (pss_one (ps_set (i := 3) sc_law_draw.nd rfl (.inl rfl) (pe_ix ix_list (pe_ix ix_list (pv 0) pe_int (fun _ _ => rfl)) (pe_op op_mod (pe_ix ix_list (pv 0) pe_int (fun _ _ => rfl)) (pe_callB call_len_seq (by rfl) B.m_len PySem.boot_len (pa_cons (pe_ix ix_list (pv 0) pe_int (fun _ _ => rfl)) pa_nil))) (fun _ _ => rfl)))) pss_nil)
      (Evl.pss_cut (ps_if (PW.pt (pw_or (pt_cmpR op_ge (pe_ix ix_list (pv 0) pe_int (fun _ _ => rfl)) (pe_callB call_len_seq (by rfl) B.m_len PySem.boot_len (pa_cons (pe_ix ix_list (pv 0) pe_int (fun _ _ => rfl)) pa_nil)) (nomark _)) (pw_or1 (pt_cmpR op_lt (pv 3) (pe_op op_pow pe_int pe_int) (nomark _))))) (pss_cons (ps_set (i := 3) sc_law_draw.nd rfl (.inl rfl) (pe_op op_mod (pe_op op_add (pv 3) (pe_op op_mul pe_int (pe_ix ix_list (pv 0) pe_int (fun _ _ => rfl)))) (pv 2)))
      (pss_cons (ps_set (i := 3) sc_law_draw.nd rfl (.inl rfl) (pe_op op_mod (pe_op op_add (pe_op op_add (pe_op op_mul (pv 3) (pv 3)) (pe_op op_mul pe_int (pv 3))) pe_int) (pv 2)))
      (pss_one (ps_set (i := 3) sc_law_draw.nd rfl (.inl rfl) (pe_op op_mod (pe_op op_add (pe_op op_mul (pv 3) (pv 3)) pe_int) (pv 2)))))) pss_nil)
      (pss_cons (ps_asg (pe_op op_add (pe_ix ix_list (pv 0) pe_int (fun _ _ => rfl)) pe_int) (pg_sub (pv 0) pe_int set_list))
      (pss_one (ps_asg (pv 3) (pg_sub (pv 0) pe_int set_list))))))) pss_nil)
      (pss_cons (ps_set (i := 4) sc_law_draw.nd rfl (.inl rfl) (pe_op op_mod (pe_ix ix_list (pv 0) pe_int (fun _ _ => rfl)) (pv 1)))
      (pss_cons (ps_asg (pe_op op_fdivW (pe_ix ix_list (pv 0) pe_int (fun _ _ => rfl)) (pv 1)) (pg_sub (pv 0) pe_int set_list))
      (pss_one (ps_ret (pv 4)))))))

theorem ok_law_any_order {P : Program} {w : World} {K : PySem.W.Frag} {mg : Str → Option Value} {base : Heap} {f : Addr} {fd : FuncData} (F : Fun K "_law_any_order" "_law_any_order" s_law_any_order f fd) (B : Bn mg) (c_law_draw : Cal P w K mg base 1 "_law_draw" ["tape", "many"] (sp_law_draw K)) : FnOk P w K mg base CX0 2 f fd ["tape", "many"] (sp_law_any_order K) := by
  refine F.ok sc_law_any_order (fun vs H Q E h => len_law_any_order h) (fun cdv A outer s H vs Q E hr h => ⟨t_law_any_order K, ?_, sem_law_any_order h⟩)
  exact (pss_cons (ps_set (i := 2) sc_law_any_order.nd rfl (.inl rfl) (pe_lst pa_nil))
      (pss_cons (ps_for PassesOwn.never rfl (pi_range1 (by rfl) B.m_range (pa_cons (pv 1) pa_nil)) (pg_name (i := 3) sc_law_any_order.nd rfl (.inl rfl))
        (pss_one (ps_expr (pe_bm PySem.F.plainAttrs_list PySem.F.slot_list_insert PySem.F.type_list_insert mt_insert (pv 2) (pa_cons (pe_cal c_law_draw hr (by decide) (by rfl) (pa_cons (pv 0) (pa_cons (pe_op op_add (pv 3) pe_int) pa_nil))) (pa_cons (pv 3) pa_nil))))))
      (pss_one (ps_ret (pe_callTy call_tuple_of (by rfl) B.m_tuple (by decide +kernel) (pa_cons (pv 2) pa_nil))))))

theorem ok_law_books {P : Program} {w : World} {K : PySem.W.Frag} {mg : Str → Option Value} {base : Heap} {f : Addr} {fd : FuncData} (F : Fun K "_law_books" "_law_books" s_law_books f fd) (B : Bn mg)  : FnOk P w K mg base CX0 1 f fd [] (sp_law_books K) := by
  refine F.ok sc_law_books (fun vs H Q E h => len_law_books h) (fun cdv A outer s H vs Q E hr h => ⟨t_law_books K, ?_, sem_law_books h⟩)
  exact (pss_one (ps_ret (pe_lst (pa_cons pe_str (pa_cons pe_str (pa_cons pe_str (pa_cons pe_str (pa_cons pe_str (pa_cons pe_str (pa_cons pe_str pa_nil))))))))))

theorem ok_law_pile {P : Program} {w : World} {K : PySem.W.Frag} {mg : Str → Option Value} {base : Heap} {f : Addr} {fd : FuncData} (F : Fun K "_law_pile" "_law_pile" s_law_pile f fd) (B : Bn mg) (c_law_books : Cal P w K mg base 1 "_law_books" [] (sp_law_books K)) (c_law_draw : Cal P w K mg base 1 "_law_draw" ["tape", "many"] (sp_law_draw K)) (c_law_any_order : Cal P w K mg base 2 "_law_any_order" ["tape", "many"] (sp_law_any_order K)) : FnOk P w K mg base CX0 3 f fd ["tape", "size"] (sp_law_pile K) := by
  refine F.ok sc_law_pile (fun vs H Q E h => len_law_pile h) (fun cdv A outer s H vs Q E hr h => ⟨t_law_pile K, ?_, sem_law_pile h⟩)
  exact (pss_cons (ps_set (i := 2) sc_law_pile.nd rfl (.inr rfl) (pe_slice sl_list (pe_cal0 c_law_books hr (by decide) (by rfl)) po_none (po_some (pe_op op_add pe_int (pe_cal c_law_draw hr (by decide) (by rfl) (pa_cons (pv 0) (pa_cons (pv 1) pa_nil)))))))
      (pss_one (ps_ret (pe_callTy call_tuple_of (by rfl) B.m_tuple (by decide +kernel) (pa_cons (pe_lc (own := [("at", 3)]) (g := (gName 3)) (tt := tYes) rfl sc_law_pile.nd (pi_tup (pe_cal c_law_any_order hr (by decide) (by rfl) (pa_cons (pv 0) (pa_cons (pe_callB call_len_seq (by rfl) B.m_len PySem.boot_len (pa_cons (pv 2) pa_nil)) pa_nil)))) (blkOk_by (own := [("at", 3)]) (N := N_law_pile) (sc := defScope s_law_pile) (by decide +kernel)) (fun _ _ _ _ _ => (pg_name (i := 3) sc_law_pile.nd rfl (.inl rfl))) (fun _ _ _ _ _ => pts_nil) (fun _ _ _ _ _ => (pe_ix ix_list (pv 2) (pv 3) (fun _ _ => rfl)))) pa_nil)))))

theorem ok_law_readings {P : Program} {w : World} {K : PySem.W.Frag} {mg : Str → Option Value} {base : Heap} {f : Addr} {fd : FuncData} (F : Fun K "_law_readings" "_law_readings" s_law_readings f fd) (B : Bn mg) (c_law_draw : Cal P w K mg base 1 "_law_draw" ["tape", "many"] (sp_law_draw K)) : FnOk P w K mg base CX0 2 f fd ["tape", "books", "size"] (sp_law_readings K) := by
  refine F.ok sc_law_readings (fun vs H Q E h => len_law_readings h) (fun cdv A outer s H vs Q E hr h => ⟨t_law_readings K, ?_, sem_law_readings h⟩)
  exact (pss_cons (ps_set (i := 3) sc_law_readings.nd rfl (.inr rfl) (pe_slice sl_list (pe_callTy call_list_of (by rfl) B.m_list (by decide +kernel) (pa_cons (pv 1) pa_nil)) po_none (po_some (pe_op op_add pe_int (pe_cal c_law_draw hr (by decide) (by rfl) (pa_cons (pv 0) (pa_cons (pe_callB call_len_seq (by rfl) B.m_len PySem.boot_len (pa_cons (pv 1) pa_nil)) pa_nil)))))))
      (pss_one (ps_ret (pe_lc (own := [("k", 4)]) (g := (gName 4)) (tt := tYes) rfl sc_law_readings.nd (pi_range1 (by rfl) B.m_range (pa_cons (pe_cal c_law_draw hr (by decide) (by rfl) (pa_cons (pv 0) (pa_cons (pe_op op_add (pv 2) pe_int) pa_nil))) pa_nil)) (blkOk_by (own := [("k", 4)]) (N := N_law_readings) (sc := defScope s_law_readings) (by decide +kernel)) (fun _ _ _ _ _ => (pg_name (i := 4) sc_law_readings.nd rfl (.inl rfl))) (fun _ _ _ _ _ => pts_nil) (fun _ _ _ _ _ => (pe_ix ix_list (pv 3) (pe_cal c_law_draw hr (by decide) (by rfl) (pa_cons (pv 0) (pa_cons (pe_callB call_len_seq (by rfl) B.m_len PySem.boot_len (pa_cons (pv 3) pa_nil)) pa_nil))) (fun _ _ => rfl)))))))

theorem ok_law_read {P : Program} {w : World} {K : PySem.W.Frag} {mg : Str → Option Value} {base : Heap} {f : Addr} {fd : FuncData} (F : Fun K "_law_read" "_law_read" s_law_read f fd) (B : Bn mg)  : FnOk P w K mg base CX0 1 f fd ["pile", "readings"] (sp_law_read K) := by
  refine F.ok sc_law_read (fun vs H Q E h => len_law_read h) (fun cdv A outer s H vs Q E hr h => ⟨t_law_read K, ?_, sem_law_read h⟩)
  exact (pss_cons (ps_par3 (i := 2) (j := 3) (l := 4) (by rfl) sc_law_read.nd rfl rfl rfl (by decide) (by decide) (by decide) rfl rfl rfl (pa_cons (pe_callTy call_list_of (by rfl) B.m_list (by decide +kernel) (pa_cons (pv 0) pa_nil)) (pa_cons (pe_lst pa_nil) (pa_cons (pe_lst pa_nil) pa_nil))) (by rfl))
      (pss_cons (ps_for PassesOwn.never rfl (pi_seq (pv 1)) (pg_name (i := 5) sc_law_read.nd rfl (.inr rfl))
        (pss_cons (ps_set (i := 6) sc_law_read.nd rfl (.inl rfl) (pe_slice sl_list (pv 2) po_none (po_some (pe_bm PySem.F.plainAttrs_list PySem.F.slot_list_index PySem.F.type_list_index mt_index (pv 2) (pa_cons (pv 5) pa_nil)))))
      (pss_cons (ps_expr (pe_bm PySem.F.plainAttrs_list PySem.F.slot_list_append PySem.F.type_list_append mt_append (pv 3) (pa_cons (pe_callB call_len_seq (by rfl) B.m_len PySem.boot_len (pa_cons (pv 6) pa_nil)) pa_nil)))
      (pss_cons (ps_set (i := 4) sc_law_read.nd rfl (.inl rfl) (pe_op op_cat (pv 4) (pe_lc (own := [("other", 7)]) (g := (gName 7)) (tt := tYes) rfl sc_law_read.nd (pi_list (pv 6)) (blkOk_by (own := [("other", 7)]) (N := N_law_read) (sc := defScope s_law_read) (by decide +kernel)) (fun _ _ _ _ _ => (pg_name (i := 7) sc_law_read.nd rfl (.inl rfl))) (fun _ _ _ _ _ => pts_nil) (fun _ _ _ _ _ => (pe_tup (pa_cons (pv 5) (pa_cons (pv 7) pa_nil)))))))
      (pss_cons (ps_expr (pe_bm PySem.F.plainAttrs_list PySem.F.slot_list_remove PySem.F.type_list_remove mt_removeS (pv 2) (pa_cons (pv 5) pa_nil)))
      (pss_one (ps_expr (pe_bm PySem.F.plainAttrs_list PySem.F.slot_list_insert PySem.F.type_list_insert mt_insert (pv 2) (pa_cons pe_int (pa_cons (pv 5) pa_nil))))))))))
      (pss_one (ps_ret (pe_tup (pa_cons (pe_callTy call_tuple_of (by rfl) B.m_tuple (by decide +kernel) (pa_cons (pv 2) pa_nil)) (pa_cons (pv 3) (pa_cons (pv 4) pa_nil))))))))

theorem ok_law_staying {P : Program} {w : World} {K : PySem.W.Frag} {mg : Str → Option Value} {base : Heap} {f : Addr} {fd : FuncData} (F : Fun K "_law_staying" "_law_staying" s_law_staying f fd) (B : Bn mg)  : FnOk P w K mg base CX0 1 f fd ["pile", "other"] (sp_law_staying K) := by
  refine F.ok sc_law_staying (fun vs H Q E h => len_law_staying h) (fun cdv A outer s H vs Q E hr h => ⟨t_law_staying K, ?_, sem_law_staying h⟩)
  exact (pss_cons (ps_set (i := 2) sc_law_staying.nd rfl (.inl rfl) pe_int)
      (pss_cons (ps_for PassesOwn.never rfl (pi_range1 (by rfl) B.m_range (pa_cons (pe_op op_add (pe_callB call_len_seq (by rfl) B.m_len PySem.boot_len (pa_cons (pv 1) pa_nil)) pe_int) pa_nil)) (pg_name (i := 3) sc_law_staying.nd rfl (.inl rfl))
        (pss_cons (ps_set (i := 4) sc_law_staying.nd rfl (.inr rfl) (pe_slice sl_tupA (pv 1) (po_some (pe_op op_sub (pe_callB call_len_seq (by rfl) B.m_len PySem.boot_len (pa_cons (pv 1) pa_nil)) (pv 3))) po_none))
      (pss_one (ps_if (pt_cmpR (op_eqD hr.units) (pe_lc (own := [("book", 5)]) (g := (gName 5)) (tt := (tTest (tOp (rIn K false) (tVar 5) (tVar 4)))) rfl sc_law_staying.nd (pi_tup (pv 0)) (blkOk_by (own := [("book", 5)]) (N := N_law_staying) (sc := defScope s_law_staying) (by decide +kernel)) (fun _ _ _ _ _ => (pg_name (i := 5) sc_law_staying.nd rfl (.inl rfl))) (fun _ _ _ _ _ => (pts_one (pt_cmpR op_in_seq (pv 5) (pv 4) (by rfl)))) (fun _ _ _ _ _ => (pv 5))) (pe_callTy call_list_of (by rfl) B.m_list (by decide +kernel) (pa_cons (pv 4) pa_nil)) (nomark _)) (pss_one (ps_set (i := 2) sc_law_staying.nd rfl (.inl rfl) (pv 3))) pss_nil))))
      (pss_one (ps_ret (pv 2)))))

theorem ok_law {P : Program} {w : World} {K : PySem.W.Frag} {mg : Str → Option Value} {base : Heap} {f : Addr} {fd : FuncData} (F : Fun K "law" "law" s_law f fd) (B : Bn mg) (c_law_pile : Cal P w K mg base 3 "_law_pile" ["tape", "size"] (sp_law_pile K)) (c_law_any_order : Cal P w K mg base 2 "_law_any_order" ["tape", "many"] (sp_law_any_order K)) (c_law_draw : Cal P w K mg base 1 "_law_draw" ["tape", "many"] (sp_law_draw K)) (c_law_read : Cal P w K mg base 1 "_law_read" ["pile", "readings"] (sp_law_read K)) (c_law_readings : Cal P w K mg base 2 "_law_readings" ["tape", "books", "size"] (sp_law_readings K)) (c_fewest_to : Cal P w K mg base 1 "fewest_to" ["pile", "other"] (sp_fewest_to K)) (c_law_staying : Cal P w K mg base 1 "_law_staying" ["pile", "other"] (sp_law_staying K)) : FnOk P w K mg base CX0 4 f fd ["script"] (sp_law K) := by
  refine F.ok sc_law (fun vs H Q E h => len_law h) (fun cdv A outer s H vs Q E hr h => ⟨t_law K, ?_, sem_law h⟩)
  exact (pss_cons (ps_set (i := 1) sc_law.nd rfl (.inl rfl) (pe_lst (pa_cons (pe_callTy call_list_of (by rfl) B.m_list (by decide +kernel) (pa_cons (pv 0) pa_nil)) (pa_cons pe_int (pa_cons pe_int pa_nil)))))
      (pss_cons (ps_for PassesOwn.never rfl (pi_list (pe_lst (pa_cons pe_int (pa_cons pe_int (pa_cons pe_int pa_nil))))) (pg_name (i := 2) sc_law.nd rfl (.inl rfl))
        (pss_cons (ps_set (i := 3) sc_law.nd rfl (.inr rfl) (pe_cal c_law_pile hr (by decide) (by rfl) (pa_cons (pv 1) (pa_cons (pv 2) pa_nil))))
      (pss_cons (ps_set (i := 4) sc_law.nd rfl (.inr rfl) (pe_callTy call_tuple_of (by rfl) B.m_tuple (by decide +kernel) (pa_cons (pe_lc (own := [("at", 12)]) (g := (gName 12)) (tt := tYes) rfl sc_law.nd (pi_tup (pe_cal c_law_any_order hr (by decide) (by rfl) (pa_cons (pv 1) (pa_cons (pe_callB call_len_seq (by rfl) B.m_len PySem.boot_len (pa_cons (pv 3) pa_nil)) pa_nil)))) (blkOk_by (own := [("at", 12)]) (N := N_law) (sc := defScope s_law) (by decide +kernel)) (fun _ _ _ _ _ => (pg_name (i := 12) sc_law.nd rfl (.inl rfl))) (fun _ _ _ _ _ => pts_nil) (fun _ _ _ _ _ => (pe_ix ix_tup (pv 3) (pv 12) (fun _ _ => rfl)))) pa_nil)))
      (Evl.pss_cut (ps_set (i := 4) sc_law.nd rfl (.inr rfl) (pe_ifExp (pt_cmpR op_eq (pe_cal c_law_draw hr (by decide) (by rfl) (pa_cons (pv 1) (pa_cons pe_int pa_nil))) pe_int (nomark _)) (pe_ix ix_tup (pe_cal c_law_read hr (by decide) (by rfl) (pa_cons (pv 3) (pa_cons (pe_cal c_law_readings hr (by decide) (by rfl) (pa_cons (pv 1) (pa_cons (pv 3) (pa_cons pe_int pa_nil)))) pa_nil))) pe_int (fun _ _ => rfl)) (pv 4)))
      (pss_cons (ps_set (i := 5) sc_law.nd rfl (.inl rfl) (pe_cal c_fewest_to hr (by decide) (by rfl) (pa_cons (pv 3) (pa_cons (pv 4) pa_nil))))
      (pss_cons (ps_if (PW.pt (pw_or (pt_not (pt_val (pe_callB call_isi (by rfl) B.m_isinstance (by decide +kernel) (pa_cons (pv 5) (pa_cons (pe_bltn (v := .ty "list") (by rfl) B.m_list (by decide +kernel) rfl) pa_nil))))) (pw_or1 (pt_cmpR (op_neD hr.units) (pe_ix ix_tup (pe_cal c_law_read hr (by decide) (by rfl) (pa_cons (pv 3) (pa_cons (pv 5) pa_nil))) pe_int (fun _ _ => rfl)) (pv 4) (nomark _))))) (pss_one (ps_ret pe_bl)) pss_nil)
      (pss_cons (ps_if (pt_cmpR op_ne (pe_callB call_len_seq (by rfl) B.m_len PySem.boot_len (pa_cons (pv 5) pa_nil)) (pe_op op_sub (pe_callB call_len_seq (by rfl) B.m_len PySem.boot_len (pa_cons (pv 3) pa_nil)) (pe_cal c_law_staying hr (by decide) (by rfl) (pa_cons (pv 3) (pa_cons (pv 4) pa_nil)))) (nomark _)) (pss_one (ps_ret pe_bl)) pss_nil)
      (pss_cons (ps_par (i := 6) (j := 7) (by rfl) sc_law.nd rfl rfl (by decide) rfl rfl (pa_cons (pe_lst (pa_cons (pe_lst pa_nil) pa_nil)) (pa_cons (pe_lst pa_nil) pa_nil)) (by rfl))
      (pss_cons (ps_for PassesOwn.never rfl (pi_range1 (by rfl) B.m_range (pa_cons (pe_ifExp (pt_cmpR op_lt (pv 2) pe_int (nomark _)) (pe_callB call_len_seq (by rfl) B.m_len PySem.boot_len (pa_cons (pv 5) pa_nil)) pe_int) pa_nil)) (pg_name (i := 8) sc_law.nd rfl (.inl rfl))
        (pss_cons (ps_set (i := 9) sc_law.nd rfl (.inl rfl) (pe_lst pa_nil))
      (pss_cons (ps_for PassesOwn.never rfl (pi_list (pv 6)) (pg_name (i := 10) sc_law.nd rfl (.inr rfl))
        (pss_one (ps_set (i := 9) sc_law.nd rfl (.inl rfl) (pe_op op_cat (pv 9) (pe_lc (own := [("book", 13)]) (g := (gName 13)) (tt := tYes) rfl sc_law.nd (pi_tup (pv 3)) (blkOk_by (own := [("book", 13)]) (N := N_law) (sc := defScope s_law) (by decide +kernel)) (fun _ _ _ _ _ => (pg_name (i := 13) sc_law.nd rfl (.inl rfl))) (fun _ _ _ _ _ => pts_nil) (fun _ _ _ _ _ => (pe_op op_cat (pv 10) (pe_lst (pa_cons (pv 13) pa_nil)))))))))
      (pss_one (ps_par (i := 7) (j := 6) (by rfl) sc_law.nd rfl rfl (by decide) rfl rfl (pa_cons (pe_op op_cat (pv 7) (pv 6)) (pa_cons (pv 9) pa_nil)) (by rfl))))))
      (pss_cons (ps_if (pt_cmpR (op_neD hr.units) (pe_lc (own := [("row", 10)]) (g := (gName 10)) (tt := (tTest (tOp (rEqD K) (tOp (rIxT K) (tCall (sp_law_read K) [] E0 (tCons (tVar 3) (tCons (tVar 10) tNil))) (tC (.int 0))) (tVar 4)))) rfl sc_law.nd (pi_list (pv 7)) (blkOk_by (own := [("row", 10)]) (N := N_law) (sc := defScope s_law) (by decide +kernel)) (fun _ _ _ _ _ => (pg_name (i := 10) sc_law.nd rfl (.inl rfl))) (fun _ _ _ _ _ => (pts_one (pt_cmpR (op_eqD hr.units) (pe_ix ix_tup (pe_cal c_law_read hr (by decide) (by rfl) (pa_cons (pv 3) (pa_cons (pv 10) pa_nil))) pe_int (fun _ _ => rfl)) (pv 4) (nomark _)))) (fun _ _ _ _ _ => (pv 10))) (pe_lst pa_nil) (nomark _)) (pss_one (ps_ret pe_bl)) pss_nil)
      (pss_cons (ps_setLc (i := 11) (own := [("row", 10)]) (g := (gName 10)) (tt := (tTest (tOp (rEqD K) (tOp (rIxT K) (tCall (sp_law_read K) [] E0 (tCons (tVar 3) (tCons (tVar 10) tNil))) (tC (.int 0))) (tVar 4)))) rfl sc_law.nd rfl rfl (sw_true rfl rfl rfl (by decide +kernel)) (pi_list (pv 6)) (blkOk_by (own := [("row", 10)]) (N := N_law) (sc := defScope s_law) (by decide +kernel)) (fun _ _ _ _ _ => (pg_name (i := 10) sc_law.nd rfl (.inl rfl))) (fun _ _ _ _ _ => (pts_one (pt_cmpR (op_eqD hr.units) (pe_ix ix_tup (pe_cal c_law_read hr (by decide) (by rfl) (pa_cons (pv 3) (pa_cons (pv 10) pa_nil))) pe_int (fun _ _ => rfl)) (pv 4) (nomark _)))) (fun _ _ _ _ _ => (pv 10)))
      (pss_one (ps_if (PW.pt (pw_and (pt_cmpR op_lt (pv 2) pe_int (nomark _)) (pw_and1 (pt_cmpR (op_neD hr.units) (pv 11) (pe_lst (pa_cons (pv 5) pa_nil)) (nomark _))))) (pss_one (ps_ret pe_bl)) pss_nil)))))))))))))
      (pss_one (ps_ret pe_bl))))
theorem all_mk {l : PySem.W.OpenLaw} {w : World} {K : PySem.W.Frag} {h : Heap} {mg : Str → Option Value} {fa : Addr} (X : K.In h) (G : h.Ns mainGlobals mg) (hfa : mg "law" = some (.ref fa))
    {f0 : Addr} {od0 an0 : Option Addr} {sl0 : Array (Option Value)} {oc0 kV0 dc0 pm0 cd0 ct0 : Value}
    (a0 : PySem.W.nsIn K mainGlobals "fewest_to" = some (some (.ref f0))) (l0 : K.lookup f0 = some ⟨oc0, od0, .func (PySem.W.fnOf "fewest_to" "fewest_to" (defArgs s_fewest_to) (defBody s_fewest_to) (defScope s_fewest_to) .none kV0 dc0 pm0 an0 cd0 ct0), sl0⟩) (h0 : PySem.W.codeIn K cd0 "fewest_to" = true) (k0 : PySem.W.keepIn K (.ref f0) = true)
    {f1 : Addr} {od1 an1 : Option Addr} {sl1 : Array (Option Value)} {oc1 kV1 dc1 pm1 cd1 ct1 : Value}
    (a1 : PySem.W.nsIn K mainGlobals "_law_draw" = some (some (.ref f1))) (l1 : K.lookup f1 = some ⟨oc1, od1, .func (PySem.W.fnOf "_law_draw" "_law_draw" (defArgs s_law_draw) (defBody s_law_draw) (defScope s_law_draw) .none kV1 dc1 pm1 an1 cd1 ct1), sl1⟩) (h1 : PySem.W.codeIn K cd1 "_law_draw" = true) (k1 : PySem.W.keepIn K (.ref f1) = true)
    {f2 : Addr} {od2 an2 : Option Addr} {sl2 : Array (Option Value)} {oc2 kV2 dc2 pm2 cd2 ct2 : Value}
    (a2 : PySem.W.nsIn K mainGlobals "_law_any_order" = some (some (.ref f2))) (l2 : K.lookup f2 = some ⟨oc2, od2, .func (PySem.W.fnOf "_law_any_order" "_law_any_order" (defArgs s_law_any_order) (defBody s_law_any_order) (defScope s_law_any_order) .none kV2 dc2 pm2 an2 cd2 ct2), sl2⟩) (h2 : PySem.W.codeIn K cd2 "_law_any_order" = true) (k2 : PySem.W.keepIn K (.ref f2) = true)
    {f3 : Addr} {od3 an3 : Option Addr} {sl3 : Array (Option Value)} {oc3 kV3 dc3 pm3 cd3 ct3 : Value}
    (a3 : PySem.W.nsIn K mainGlobals "_law_books" = some (some (.ref f3))) (l3 : K.lookup f3 = some ⟨oc3, od3, .func (PySem.W.fnOf "_law_books" "_law_books" (defArgs s_law_books) (defBody s_law_books) (defScope s_law_books) .none kV3 dc3 pm3 an3 cd3 ct3), sl3⟩) (h3 : PySem.W.codeIn K cd3 "_law_books" = true) (k3 : PySem.W.keepIn K (.ref f3) = true)
    {f4 : Addr} {od4 an4 : Option Addr} {sl4 : Array (Option Value)} {oc4 kV4 dc4 pm4 cd4 ct4 : Value}
    (a4 : PySem.W.nsIn K mainGlobals "_law_pile" = some (some (.ref f4))) (l4 : K.lookup f4 = some ⟨oc4, od4, .func (PySem.W.fnOf "_law_pile" "_law_pile" (defArgs s_law_pile) (defBody s_law_pile) (defScope s_law_pile) .none kV4 dc4 pm4 an4 cd4 ct4), sl4⟩) (h4 : PySem.W.codeIn K cd4 "_law_pile" = true) (k4 : PySem.W.keepIn K (.ref f4) = true)
    {f5 : Addr} {od5 an5 : Option Addr} {sl5 : Array (Option Value)} {oc5 kV5 dc5 pm5 cd5 ct5 : Value}
    (a5 : PySem.W.nsIn K mainGlobals "_law_readings" = some (some (.ref f5))) (l5 : K.lookup f5 = some ⟨oc5, od5, .func (PySem.W.fnOf "_law_readings" "_law_readings" (defArgs s_law_readings) (defBody s_law_readings) (defScope s_law_readings) .none kV5 dc5 pm5 an5 cd5 ct5), sl5⟩) (h5 : PySem.W.codeIn K cd5 "_law_readings" = true) (k5 : PySem.W.keepIn K (.ref f5) = true)
    {f6 : Addr} {od6 an6 : Option Addr} {sl6 : Array (Option Value)} {oc6 kV6 dc6 pm6 cd6 ct6 : Value}
    (a6 : PySem.W.nsIn K mainGlobals "_law_read" = some (some (.ref f6))) (l6 : K.lookup f6 = some ⟨oc6, od6, .func (PySem.W.fnOf "_law_read" "_law_read" (defArgs s_law_read) (defBody s_law_read) (defScope s_law_read) .none kV6 dc6 pm6 an6 cd6 ct6), sl6⟩) (h6 : PySem.W.codeIn K cd6 "_law_read" = true) (k6 : PySem.W.keepIn K (.ref f6) = true)
    {f7 : Addr} {od7 an7 : Option Addr} {sl7 : Array (Option Value)} {oc7 kV7 dc7 pm7 cd7 ct7 : Value}
    (a7 : PySem.W.nsIn K mainGlobals "_law_staying" = some (some (.ref f7))) (l7 : K.lookup f7 = some ⟨oc7, od7, .func (PySem.W.fnOf "_law_staying" "_law_staying" (defArgs s_law_staying) (defBody s_law_staying) (defScope s_law_staying) .none kV7 dc7 pm7 an7 cd7 ct7), sl7⟩) (h7 : PySem.W.codeIn K cd7 "_law_staying" = true) (k7 : PySem.W.keepIn K (.ref f7) = true)
    {f8 : Addr} {od8 an8 : Option Addr} {sl8 : Array (Option Value)} {oc8 kV8 dc8 pm8 cd8 ct8 : Value}
    (a8 : PySem.W.nsIn K mainGlobals "law" = some (some (.ref f8))) (l8 : K.lookup f8 = some ⟨oc8, od8, .func (PySem.W.fnOf "law" "law" (defArgs s_law) (defBody s_law) (defScope s_law) .none kV8 dc8 pm8 an8 cd8 ct8), sl8⟩) (h8 : PySem.W.codeIn K cd8 "law" = true) (k8 : PySem.W.keepIn K (.ref f8) = true)
    (z_len : PySem.W.nsIn K mainGlobals "len" = some none)
    (z_range : PySem.W.nsIn K mainGlobals "range" = some none)
    (z_sorted : PySem.W.nsIn K mainGlobals "sorted" = some none)
    (z_enumerate : PySem.W.nsIn K mainGlobals "enumerate" = some none)
    (z_tuple : PySem.W.nsIn K mainGlobals "tuple" = some none)
    (z_list : PySem.W.nsIn K mainGlobals "list" = some none)
    (z_dict : PySem.W.nsIn K mainGlobals "dict" = some none)
    (z_set : PySem.W.nsIn K mainGlobals "set" = some none)
    (z_min : PySem.W.nsIn K mainGlobals "min" = some none)
    (z_max : PySem.W.nsIn K mainGlobals "max" = some none)
    (z_sum : PySem.W.nsIn K mainGlobals "sum" = some none)
    (z_isinstance : PySem.W.nsIn K mainGlobals "isinstance" = some none)
    (z_int : PySem.W.nsIn K mainGlobals "int" = some none)
    (z_bool : PySem.W.nsIn K mainGlobals "bool" = some none)
    (z_str : PySem.W.nsIn K mainGlobals "str" = some none)
    (z_all : PySem.W.nsIn K mainGlobals "all" = some none)
    (z_zip : PySem.W.nsIn K mainGlobals "zip" = some none)
    : ∃ fd : FuncData, (∀ (s : Shared) (v : Value), BindsTo s fd ⟨[v], []⟩ [("script", v)]) ∧ ∀ base : Heap, K.In base → base.Ns mainGlobals mg → FnOk l.prog w K mg base CX0 4 fa fd ["script"] (sp_law K) := by
  have e := hfa.symm.trans (PySem.W.mg_of X G a8)
  cases e
  have B : Bn mg := ⟨PySem.W.mg_none_of X G z_len, PySem.W.mg_none_of X G z_range, PySem.W.mg_none_of X G z_sorted, PySem.W.mg_none_of X G z_enumerate, PySem.W.mg_none_of X G z_tuple, PySem.W.mg_none_of X G z_list, PySem.W.mg_none_of X G z_dict, PySem.W.mg_none_of X G z_set, PySem.W.mg_none_of X G z_min, PySem.W.mg_none_of X G z_max, PySem.W.mg_none_of X G z_sum, PySem.W.mg_none_of X G z_isinstance, PySem.W.mg_none_of X G z_int, PySem.W.mg_none_of X G z_bool, PySem.W.mg_none_of X G z_str, PySem.W.mg_none_of X G z_all, PySem.W.mg_none_of X G z_zip⟩
  refine ⟨PySem.W.fnOf "law" "law" (defArgs s_law) (defBody s_law) (defScope s_law) .none kV8 dc8 pm8 an8 cd8 ct8, fun s v => .of_eq rfl, fun base _ _ => ?_⟩
  have F_fewest_to := fun_mk (st := s_fewest_to) l0 h0 k0
  have c_fewest_to : Cal l.prog w K mg base 1 "fewest_to" ["pile", "other"] (sp_fewest_to K) := ⟨_, _, ok_fewest_to F_fewest_to B , PySem.W.mg_of X G a0, k0, F_fewest_to.binds fun _ _ _ _ _ _ us hl => match us, hl with | [_, _], _ => rfl⟩
  have F_law_draw := fun_mk (st := s_law_draw) l1 h1 k1
  have c_law_draw : Cal l.prog w K mg base 1 "_law_draw" ["tape", "many"] (sp_law_draw K) := ⟨_, _, ok_law_draw F_law_draw B , PySem.W.mg_of X G a1, k1, F_law_draw.binds fun _ _ _ _ _ _ us hl => match us, hl with | [_, _], _ => rfl⟩
  have F_law_books := fun_mk (st := s_law_books) l3 h3 k3
  have c_law_books : Cal l.prog w K mg base 1 "_law_books" [] (sp_law_books K) := ⟨_, _, ok_law_books F_law_books B , PySem.W.mg_of X G a3, k3, F_law_books.binds fun _ _ _ _ _ _ us hl => match us, hl with | [], _ => rfl⟩
  have F_law_read := fun_mk (st := s_law_read) l6 h6 k6
  have c_law_read : Cal l.prog w K mg base 1 "_law_read" ["pile", "readings"] (sp_law_read K) := ⟨_, _, ok_law_read F_law_read B , PySem.W.mg_of X G a6, k6, F_law_read.binds fun _ _ _ _ _ _ us hl => match us, hl with | [_, _], _ => rfl⟩
  have F_law_staying := fun_mk (st := s_law_staying) l7 h7 k7
  have c_law_staying : Cal l.prog w K mg base 1 "_law_staying" ["pile", "other"] (sp_law_staying K) := ⟨_, _, ok_law_staying F_law_staying B , PySem.W.mg_of X G a7, k7, F_law_staying.binds fun _ _ _ _ _ _ us hl => match us, hl with | [_, _], _ => rfl⟩
  have F_law_any_order := fun_mk (st := s_law_any_order) l2 h2 k2
  have c_law_any_order : Cal l.prog w K mg base 2 "_law_any_order" ["tape", "many"] (sp_law_any_order K) := ⟨_, _, ok_law_any_order F_law_any_order B c_law_draw, PySem.W.mg_of X G a2, k2, F_law_any_order.binds fun _ _ _ _ _ _ us hl => match us, hl with | [_, _], _ => rfl⟩
  have F_law_readings := fun_mk (st := s_law_readings) l5 h5 k5
  have c_law_readings : Cal l.prog w K mg base 2 "_law_readings" ["tape", "books", "size"] (sp_law_readings K) := ⟨_, _, ok_law_readings F_law_readings B c_law_draw, PySem.W.mg_of X G a5, k5, F_law_readings.binds fun _ _ _ _ _ _ us hl => match us, hl with | [_, _, _], _ => rfl⟩
  have F_law_pile := fun_mk (st := s_law_pile) l4 h4 k4
  have c_law_pile : Cal l.prog w K mg base 3 "_law_pile" ["tape", "size"] (sp_law_pile K) := ⟨_, _, ok_law_pile F_law_pile B c_law_books c_law_draw c_law_any_order, PySem.W.mg_of X G a4, k4, F_law_pile.binds fun _ _ _ _ _ _ us hl => match us, hl with | [_, _], _ => rfl⟩
  exact ok_law (fun_mk (st := s_law) l8 h8 k8) B c_law_pile c_law_any_order c_law_draw c_law_read c_law_readings c_fewest_to c_law_staying
end LT
open PySem PySem.W PyProof.Rows
set_option maxHeartbeats 0 in
theorem PySem.Challenge.cw_laidontop_k09_whole_fewest_readings_to_a_holds : PySem.Challenge.rw_laidontop_k09_whole_fewest_readings_to_a.Holds := by
  w_on; o_law; k_head; (case hw => w_witness2)
  k_fill
  refine L2.walk_of (l := PySem.Challenge.rw_laidontop_k09_whole_fewest_readings_to_a) (n := 63) (k := 4) (x := "script") (CX := fun _ => L2.CX0) (sp := fun w => LT.sp_law _) rfl (by decide) rfl ⟨rfl, by decide, by decide⟩ (fun w h Y => PySem.W.kIn_of Y) ?F (fun _ _ a ns hl _ hS => ⟨a, ns, rfl, hS, hl, fun _ => rfl⟩) (fun _ _ _ _ _ h => h)
  case F =>
    intro w mg fa h KX G hmg
    refine' LT.all_mk KX G hmg ?a0 ?l0 ?h0 ?k0 ?a1 ?l1 ?h1 ?k1 ?a2 ?l2 ?h2 ?k2 ?a3 ?l3 ?h3 ?k3 ?a4 ?l4 ?h4 ?k4 ?a5 ?l5 ?h5 ?k5 ?a6 ?l6 ?h6 ?k6 ?a7 ?l7 ?h7 ?k7 ?a8 ?l8 ?h8 ?k8 ?z_len ?z_range ?z_sorted ?z_enumerate ?z_tuple ?z_list ?z_dict ?z_set ?z_min ?z_max ?z_sum ?z_isinstance ?z_int ?z_bool ?z_str ?z_all ?z_zip
    (case a0 => k_is); (case l0 => k_is); (case h0 => k_is); (case k0 => k_is); (case a1 => k_is); (case l1 => k_is); (case h1 => k_is); (case k1 => k_is); (case a2 => k_is); (case l2 => k_is); (case h2 => k_is); (case k2 => k_is); (case a3 => k_is); (case l3 => k_is); (case h3 => k_is); (case k3 => k_is); (case a4 => k_is); (case l4 => k_is); (case h4 => k_is); (case k4 => k_is); (case a5 => k_is); (case l5 => k_is); (case h5 => k_is); (case k5 => k_is); (case a6 => k_is); (case l6 => k_is); (case h6 => k_is); (case k6 => k_is); (case a7 => k_is); (case l7 => k_is); (case h7 => k_is); (case k7 => k_is); (case a8 => k_is); (case l8 => k_is); (case h8 => k_is); (case k8 => k_is); (case z_len => k_is); (case z_range => k_is); (case z_sorted => k_is); (case z_enumerate => k_is); (case z_tuple => k_is); (case z_list => k_is); (case z_dict => k_is); (case z_set => k_is); (case z_min => k_is); (case z_max => k_is); (case z_sum => k_is); (case z_isinstance => k_is); (case z_int => k_is); (case z_bool => k_is); (case z_str => k_is); (case z_all => k_is); (case z_zip => k_is)
