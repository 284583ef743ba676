import PyProof.Rows.All
import Wide.All
import OpenK.AllK
import Wide.FinOn
import HandS.ForMost
import HandS.TupAny
import HandS.Strs
import HandS.Wide
import HandS.Style
import HandS.More
import HandS.Conv
import HandS.SetFor
import HandS.Walk
import HandS.IsInst
import HandS.Deep
import HandS.Evl
import HandS.DictComp
import HandS.WordsDict
import HandS.Words
import PyProof.AttrMissHeap
import HandS.SortOrd
import HandS.SortRule
import KE.KDictList
import KE.KDictCopyH
import PyProof.DictWalks
import PyProof.SumWalk
import PyProof.MinMaxWalk
import PyProof.WalkInts
import HandS.ExcValue
import PyProof.ListOps
import HandS.TupMul
import HandS.Call
import HandS.Text
import PySem.Challenge.RW_laidontop_k01_piles_and_wants_known
set_option Elab.async false
set_option linter.all false
set_option maxRecDepth 100000
set_option maxHeartbeats 4000000
/-! LTa: the shared ground: readings' short names, further rules, heaps. -/
namespace LT
open PySem PySem.Spec PyProof.Rows L2
/-! ### readings by short names -/
abbrev rAddI : R2 := rI0 fun i j => .int (i + j)
abbrev rSubI : R2 := rI0 fun i j => .int (i - j)
abbrev rMulI : R2 := rI CMul fun i j => .int (i * j)
abbrev rModI : R2 := rI (fun _ j => 0 < j) fun i j => .int (i % j)
abbrev rFdivI : R2 := rI CDivW fun i j => .int (i / j)
abbrev rPowI : R2 := rI CPow fun i j => .int (i ^ j.toNat)
abbrev rLtI : R2 := rI0 fun i j => .bl (decide (i < j))
abbrev rLeI : R2 := rI0 fun i j => .bl (decide (i ≤ j))
abbrev rGtI : R2 := rI0 fun i j => .bl (decide (j < i))
abbrev rGeI : R2 := rI0 fun i j => .bl (decide (j ≤ i))
abbrev rLtS : R2 := fun x y H Q => ∃ i j, x = .str i ∧ y = .str j ∧ Q (.bl (decide (i.cps.toList < j.cps.toList))) H
abbrev rAddSt : R2 := fun x y H Q => ∃ i j, x = .str i ∧ y = .str j ∧ i.length + j.length ≤ sizeLine ∧ Q (.str (i ++ j)) H
abbrev rInSg : R2 := fun x y H Q => ∃ (c : Nat) (z : Str), x = .str ⟨#[c]⟩ ∧ y = .str z ∧ Q (.bl (decide (c ∈ z.cps.toList))) H
abbrev rNotInSg : R2 := fun x y H Q => ∃ (c : Nat) (z : Str), x = .str ⟨#[c]⟩ ∧ y = .str z ∧ Q (.bl (!decide (c ∈ z.cps.toList))) H
abbrev rLenSt : List V → Hp → VK → Prop := fun xs H Q => ∃ z, xs = [.str z] ∧ z.length ≤ sizeLine ∧ Q (.int z.length) H
abbrev rLenSq (K : PySem.W.Frag) : List V → Hp → VK → Prop := fun xs H Q => ∃ p ys, xs = [.ref p] ∧ (SqL K H p ys ∨ SqT K H p ys) ∧ Q (.int ys.length) H
abbrev rLenDk : List V → Hp → VK → Prop := fun xs H Q => ∃ a kvs, xs = [V.ref a] ∧ H a = some (.dK kvs) ∧ Q (.int kvs.length) H
abbrev rListOf (K : PySem.W.Frag) : List V → Hp → VK → Prop := fun xs H Q => ∃ p ys, xs = [.ref p] ∧ (SqL K H p ys ∨ SqT K H p ys) ∧ ∀ l, H l = none → Q (.ref l) (upd H l (.lst ys))
abbrev rTupOf (K : PySem.W.Frag) : List V → Hp → VK → Prop := fun xs H Q => ∃ p ys, xs = [.ref p] ∧ ((SqL K H p ys ∧ ∀ l, H l = none → Q (.ref l) (upd H l (.tup ys))) ∨ (SqT K H p ys ∧ Q (.ref p) H))
abbrev rListDk : List V → Hp → VK → Prop := fun xs H Q => ∃ (a : Addr) (kvs : List (Key × V)), xs = [.ref a] ∧ Rd H a (.dK kvs) ∧ ∀ p, H p = none → Q (.ref p) (upd H p (.lst (kvs.map fun kv => kV kv.1)))
abbrev rDictDk : List V → Hp → VK → Prop := fun xs H Q => ∃ (a : Addr) (kvs : List (Key × V)), xs = [.ref a] ∧ Rd H a (.dK kvs) ∧ ∀ p, H p = none → Q (.ref p) (upd H p (.dK kvs))
abbrev rMax2I : List V → Hp → VK → Prop := fun xs H Q => ∃ i j, xs = [.int i, .int j] ∧ Q (.int (if j > i then j else i)) H
abbrev rMin2I : List V → Hp → VK → Prop := fun xs H Q => ∃ i j, xs = [.int i, .int j] ∧ Q (.int (if j < i then j else i)) H
abbrev rInsertL : V → List V → Hp → VK → Prop := fun x vs H Q => ∃ (l : Addr) (xs : List V) (i : Int) (y : V), x = .ref l ∧ vs = [.int i, y] ∧ H l = some (.lst xs) ∧ xs.length < sizeLine ∧ 0 ≤ i ∧ i < 2 ^ 63 ∧ Q .non (upd H l (.lst (xs.take i.toNat ++ [y] ++ xs.drop i.toNat)))
abbrev rTupIx (K : PySem.W.Frag) : V → List V → Hp → VK → Prop := fun x xs H Q => ∃ p, ∃ ys : List Str, ∃ z j, x = .ref p ∧ xs = [.str z] ∧ SqT K H p (ys.map V.str) ∧ ys[j]? = some z ∧ (∀ m, m < j → ys[m]? ≠ some z) ∧ Q (.int (j : Nat)) H

/-! ### what a for walks: a list or a tuple -/
def iSeq (K : PySem.W.Frag) (tl : TE) : TI := fun σ H R => iList K tl σ H R ∨ iTup K tl σ H R
theorem pi_seq {X : Cx} {tg l : Expr} {tl : TE} (hl : PE X l tl) : PI X tg l (iSeq X.K tl) :=
  ⟨fun pins s σ H R I h => h.elim (fun q => (pi_list hl).run pins s σ H R I q) (fun q => (pi_tup hl).run pins s σ H R I q)⟩

/-! ### a def that is called by its name -/
structure Cal (P : Program) (w : World) (K : PySem.W.Frag) (mg : Str → Option Value) (base : Heap) (k : Nat) (x : Str) (ps : List Str) (sp : Sp) : Prop where
  ex : ∃ (f : Addr) (fd : FuncData), FnOk P w K mg base CX0 k f fd ps sp ∧ mg x = some (.ref f) ∧ PySem.W.keepIn K (.ref f) = true ∧ Binds K fd ps []
theorem pe_cal {X : Cx} {k j : Nat} {x : Str} {ps : List Str} {sp : Sp} {p pos : Pos} {e : Expr} {es : List Expr} {t : TA} (c : Cal X.prog X.w X.K X.mg X.base k x ps sp) (hr : Room j X.A) (hk : k ≤ j) (hg : Gl X x) (ha : PA X (e :: es) t)
    (hdb : (x == ("__debug__" : Str)) = false := by decide) (he : starEach (e :: es) X.env = (false, eval e X.env) :: starEach es X.env := by rfl) (hpl : (backTo pos (starEach es X.env)).any (·.1) = false := by rfl) :
    PE X (.Call (.Name x p) (e :: es) [] pos) (tCall sp [] E0 t) := by
  obtain ⟨f, fd, F, hm, kp, b⟩ := c.ex
  exact pe_call F (hr.mono hk) hg hm kp b .nil pass0 ha hdb he hpl
theorem pe_cal0 {X : Cx} {k j : Nat} {x : Str} {ps : List Str} {sp : Sp} {p pos : Pos} (c : Cal X.prog X.w X.K X.mg X.base k x ps sp) (hr : Room j X.A) (hk : k ≤ j) (hg : Gl X x)
    (hdb : (x == ("__debug__" : Str)) = false := by decide) : PE X (.Call (.Name x p) [] [] pos) (tCall sp [] E0 tNil) := by
  obtain ⟨f, fd, F, hm, kp, b⟩ := c.ex
  exact pe_call0 F (hr.mono hk) hg hm kp b .nil pass0 hdb

/-! ### built-ins' names that the text leaves alone -/
structure Bn (mg : Str → Option Value) : Prop where
  m_len : mg "len" = none
  m_range : mg "range" = none
  m_sorted : mg "sorted" = none
  m_enumerate : mg "enumerate" = none
  m_tuple : mg "tuple" = none
  m_list : mg "list" = none
  m_dict : mg "dict" = none
  m_set : mg "set" = none
  m_min : mg "min" = none
  m_max : mg "max" = none
  m_sum : mg "sum" = none
  m_isinstance : mg "isinstance" = none
  m_int : mg "int" = none
  m_bool : mg "bool" = none
  m_str : mg "str" = none
  m_all : mg "all" = none
  m_zip : mg "zip" = none

/-! ### heaps -/
theorem same_sqt {K : PySem.W.Frag} {H H' : Hp} {a : Addr} {xs : List V} (e : Same H H') (h : SqT K H a xs) : SqT K H' a xs := by
  rcases h with (h | ⟨o, h⟩) | h
  · exact .inl (.inl (e _ _ h))
  · exact .inl (.inr ⟨o, e _ _ h⟩)
  · exact .inr h
theorem same_upd {H : Hp} {p : Addr} {o : HO} (h : H p = none) : Same H (upd H p o) := fun b x e => by
  rw [upd_ne (ne_of_none e h)]
  exact e
/-- an object that the base does not know may change -/
theorem same_mut {H H' : Hp} {p : Addr} {o : HO} (e : Same H H') (h : H p = none) : Same H (upd H' p o) := fun a u ha => by
  rw [upd_ne (ne_of_none ha h)]
  exact e a u ha
def del (H : Hp) (a : Addr) : Hp := fun b => if b = a then none else H b
theorem del_at {H : Hp} {a : Addr} : del H a a = none := by unfold del; rw [if_pos rfl]
theorem del_ne {H : Hp} {a b : Addr} (h : b ≠ a) : del H a b = H b := by unfold del; rw [if_neg h]
theorem del_same {H : Hp} {a : Addr} : Same (del H a) H := fun b o h => by
  by_cases e : b = a
  · subst e; rw [del_at] at h; cases h
  · rw [del_ne e] at h; exact h
theorem del_mono {H H' : Hp} {a : Addr} (s : Same H H') : Same (del H a) (del H' a) := fun b o h => by
  by_cases e : b = a
  · subst e; rw [del_at] at h; cases h
  · rw [del_ne e] at h ⊢; exact s b o h
theorem del_upd {H : Hp} {a : Addr} {o : HO} : del (upd H a o) a = del H a := by
  funext b
  by_cases e : b = a
  · subst e; rw [del_at, del_at]
  · rw [del_ne e, del_ne e, upd_ne e]
theorem del_upd_ne {H : Hp} {a b : Addr} {o : HO} (h : b ≠ a) : del (upd H b o) a = upd (del H a) b o := by
  funext c
  by_cases e : c = b
  · subst e; rw [del_ne h, upd_same, upd_same]
  · by_cases e2 : c = a
    · subst e2; rw [del_at, upd_ne e, del_at]
    · rw [del_ne e2, upd_ne e, upd_ne e, del_ne e2]
theorem del_none {H : Hp} {a : Addr} (h : H a = none) : del H a = H := by
  funext b
  by_cases e : b = a
  · subst e; rw [del_at, h]
  · rw [del_ne e]
theorem del_get {H : Hp} {a b : Addr} {o : HO} (h : del H a b = some o) : b ≠ a ∧ H b = some o := by
  by_cases e : b = a
  · subst e; rw [del_at] at h; cases h
  · rw [del_ne e] at h; exact ⟨e, h⟩
/-- a tuple is no list -/
theorem sqt_del {K : PySem.W.Frag} {H : Hp} {t a : Addr} {ys xs : List V} (ht : H t = some (.lst ys)) (h : SqT K H a xs) : SqT K (del H t) a xs := by
  rcases h with (h | ⟨o, h⟩) | h
  · exact .inl (.inl (by rw [del_ne (ne_of h ht (fun z => nomatch z))]; exact h))
  · exact .inl (.inr ⟨o, by rw [del_ne (ne_of h ht (fun z => nomatch z))]; exact h⟩)
  · exact .inr h
theorem sqt_mut {K : PySem.W.Frag} {H : Hp} {t a : Addr} {ys xs : List V} {o : HO} (ht : H t = some (.lst ys)) (h : SqT K H a xs) : SqT K (upd H t o) a xs := by
  have h2 := sqt_del ht h
  rw [← del_upd (o := o)] at h2
  exact same_sqt del_same h2
theorem sqt_frz {K : PySem.W.Frag} {H : Hp} {t a : Addr} {u o : HO} {xs : List V} (ht : H t = some u) (hu : ∀ o v, u ≠ .frz o v) (hv : ∀ v, u ≠ .tup v) (h : SqT K H a xs) : SqT K (upd H t o) a xs := by
  rcases h with (h | ⟨o, h⟩) | h
  · exact .inl (.inl (by rw [upd_ne (ne_of h ht (fun z => hv _ z.symm))]; exact h))
  · exact .inl (.inr ⟨o, by rw [upd_ne (ne_of h ht (fun z => hu _ _ z.symm))]; exact h⟩)
  · exact .inr h
theorem ne_lst {H : Hp} {a b : Addr} {xs ys : List V} (h : H a = some (.lst xs)) (h' : H b = some (.lst ys)) (d : xs ≠ ys) : a ≠ b := ne_of h h' fun z => d (HO.lst.inj z)
theorem lt_line {n : Nat} (h : n ≤ 1000000) : n < sizeLine := Nat.lt_of_le_of_lt h (by decide)
theorem le_line {n : Nat} (h : n ≤ 1000000) : n ≤ sizeLine := Nat.le_of_lt (lt_line h)

theorem del_kp {H H' : Hp} {t b : Addr} {o : HO} (s : Same (del H t) (del H' t)) (hb : b ≠ t) (e : H b = some o) : H' b = some o :=
  (del_get (s b o (by rw [del_ne hb]; exact e))).2
/-! ### comprehensions: the list made so far stands at D, all else of the call is below -/
def LcP (D : Addr) (Iv : Nat → Hp → List V → Prop) (i : Nat) (H : Hp) : Prop := ∃ acc, H D = some (.lst acc) ∧ Iv i (del H D) acc
theorem lcp0 {D : Addr} {Iv : Nat → Hp → List V → Prop} {H1 : Hp} (hD : H1 D = none) (h0 : Iv 0 H1 []) : LcP D Iv 0 (upd H1 D (.lst [])) :=
  ⟨[], upd_same, by rw [del_upd, del_none hD]; exact h0⟩
theorem lcp_push {D : Addr} {Iv : Nat → Hp → List V → Prop} {i : Nat} {H4 : Hp} {acc : List V} {y : V} (h : H4 D = some (.lst acc)) (hl : acc.length < sizeLine) (q : Iv (i + 1) (del H4 D) (acc ++ [y])) :
    ∃ acc, H4 D = some (.lst acc) ∧ acc.length < sizeLine ∧ LcP D Iv (i + 1) (upd H4 D (.lst (acc ++ [y]))) := ⟨acc, h, hl, _, upd_same, by rw [del_upd]; exact q⟩
theorem take_push {α β : Type} (f : α → β) (l : List α) (i : Nat) (h : i < l.length) : (l.take (i + 1)).map f = (l.take i).map f ++ [f l[i]] := by
  rw [List.take_succ, List.getElem?_eq_getElem h, List.map_append]
  rfl
theorem t_yes {σ : L2.St} {H : Hp} {A B : Hp → Prop} (h : A H) : tYes σ H fun b H3 => if b = true then A H3 else B H3 := by
  show if true = true then A H else B H
  exact iteT h
theorem sql_del {K : PySem.W.Frag} {H : Hp} {t a : Addr} {xs : List V} {o : HO} (ht : H t = some o) (h1 : o ≠ .lst xs) (h2 : ∀ u v, o ≠ .frz u v) (h : SqL K H a xs) : SqL K (del H t) a xs := by
  rcases h with (h | ⟨o, h⟩) | h
  · exact .inl (.inl (by rw [del_ne (ne_of h ht (fun z => h1 z.symm))]; exact h))
  · exact .inl (.inr ⟨o, by rw [del_ne (ne_of h ht (fun z => h2 _ _ z.symm))]; exact h⟩)
  · exact .inr h

/-! ### slices and sums of tuples: the same object or a new one -/
theorem r_slA {K : PySem.W.Frag} {H : Hp} {a : Addr} {xs : List V} {lo hi : Option Int} {Q : VK} (h : SqT K H a xs) (q : ∀ p H', Same H H' → SqT K H' p (cutV xs lo hi) → Q (.ref p) H') : rSlA K (.ref a) lo hi H Q := by
  refine ⟨a, xs, rfl, h, fun e => ?_, fun e p hp => q p _ (same_upd hp) (.of upd_same)⟩
  refine q a H (Same.refl H) ?_
  have : cutV xs lo hi = xs := by
    unfold cutV
    rw [e.1, e.2]
    simp
  rw [this]; exact h
theorem r_catA {K : PySem.W.Frag} {H : Hp} {a b : Addr} {xs ys : List V} {Q : VK} (ha : SqT K H a xs) (hb : SqT K H b ys) (hl : xs.length + ys.length ≤ sizeLine) (q : ∀ p H', Same H H' → SqT K H' p (xs ++ ys) → Q (.ref p) H') : rCatA K (.ref a) (.ref b) H Q := by
  refine ⟨a, b, xs, ys, rfl, rfl, ha, hb, hl, fun e => ?_, fun _ e => ?_, fun _ _ p hp => q p _ (same_upd hp) (.of upd_same)⟩
  · subst e; exact q b H (Same.refl H) hb
  · subst e; exact q a H (Same.refl H) (by rw [List.append_nil]; exact ha)
theorem r_tup {H : Hp} {xs : List V} {K : PySem.W.Frag} {Q : VK} (q : ∀ p H', Same H H' → H p = none → H' p = some (.tup xs) → Q (.ref p) H') : ∀ p, H p = none → Q (.ref p) (upd H p (.tup xs)) := fun p hp => q p _ (same_upd hp) hp upd_same
theorem r_new {H : Hp} {o : HO} {Q : VK} (q : ∀ p H', Same H H' → H p = none → H' p = some o → Q (.ref p) H') : ∀ p, H p = none → Q (.ref p) (upd H p o) := fun p hp => q p _ (same_upd hp) hp upd_same
/-! ### cuts -/
theorem cut_to {xs : List V} (k : Nat) : cutV xs none (some (k : Int)) = xs.take k := by
  unfold cutV
  rw [HT.sIx_none, HT.sIx_nat, List.drop_zero, Nat.sub_zero]
  rw [List.take_eq_take_iff]; omega
theorem cut_from {xs : List V} (k : Nat) : cutV xs (some (k : Int)) none = xs.drop k := by
  unfold cutV
  rw [HT.sIx_none, HT.sIx_nat]
  by_cases h : k ≤ xs.length
  · rw [Nat.min_eq_left h]
    exact List.take_of_length_le (by rw [List.length_drop]; omega)
  · rw [Nat.min_eq_right (by omega), Nat.sub_self, List.take_zero, List.drop_eq_nil_of_le (by omega)]
theorem cut_all {xs : List V} : cutV xs none none = xs := by
  unfold cutV
  rw [HT.sIx_none, HT.sIx_none]; simp

/-! ### list.remove of a text -/
theorem erase_mapS : ∀ (l : List Str) (j : Nat), (l.map V.str).eraseIdx j = (l.eraseIdx j).map V.str
  | [], j => by simp
  | a :: r, 0 => by simp
  | a :: r, j + 1 => by
    have ih := erase_mapS r j
    simp [ih]
def eqs (k : Str) (v : Value) : Bool := match v with
  | .str n _ => n.cps.toList == k.cps.toList
  | _ => false
theorem str_ext {a b : Str} (h : a.cps.toList = b.cps.toList) : a = b := by
  cases a; cases b
  have : (_ : Array Nat) = _ := Array.toList_inj.mp h
  simpa using this
def rRemoveS : V → List V → Hp → VK → Prop := fun x xs H Q => ∃ (l : Addr) (ns : List Str) (k : Str) (j : Nat), x = .ref l ∧ xs = [.str k] ∧ H l = some (.lst (ns.map V.str)) ∧ ns[j]? = some k ∧ (∀ m : Nat, m < j → ns[m]? ≠ some k) ∧ Q .non (upd H l (.lst ((ns.eraseIdx j).map V.str)))
theorem strs_at {its : List Value} {ns : List Str} (r : Vals (ns.map V.str) its) (m : Nat) (hm : m < ns.length) (hm' : m < its.length) : ∃ t, its[m] = Value.str ns[m] t := by
  obtain ⟨w, hw, t', hw'⟩ := r.get (i := m) (x := .str ns[m]) (by simp [hm])
  exact ⟨t', by rw [← hw', ← (List.getElem?_eq_some_iff.mp hw).2]⟩
theorem mt_removeS {X : Cx} : MtM X "list.remove" rRemoveS := by
  intro pins s σ H x xs v us Q I rx rxs h
  obtain ⟨l, ns, k, j, rfl, rfl, hH, hj, hno, q⟩ := h
  cases rx
  obtain ⟨u, rfl, ru⟩ := rxs.one
  obtain ⟨t, rfl⟩ := ru
  obtain ⟨z, its, n, r, hl, e⟩ := I.lstM hH
  rw [List.length_map] at hl z
  have hjn : j < ns.length := (List.getElem?_eq_some_iff.mp hj).1
  have hjl : j < its.toArray.size := by rw [List.size_toArray]; omega
  refine call_meets PySem.F.slot_list_remove ⟨_, e, rfl⟩ PySem.F.entry_list_remove (PySem.F.args_list_remove_2 _ _)
    (MeetsSeq.list_remove l its.toArray n (.str k t) (eqs k) (fun y hy => ?_) j hjl ?_ ?_ (by rw [List.size_toArray]; omega)) ⟨e, ?_⟩
  · have hy' : y ∈ its := by simpa using hy
    obtain ⟨m, hm, rfl⟩ := List.getElem_of_mem hy'
    obtain ⟨t', e'⟩ := strs_at r m (by omega) hm
    rw [e']
    exact SeqRoads2.EqGives.str _ _ _ _
  · obtain ⟨t', e'⟩ := strs_at r j hjn (by omega)
    have e1 : its.toArray[j] = .str ns[j] t' := by simpa using e'
    rw [e1, (List.getElem?_eq_some_iff.mp hj).2]
    exact beq_self_eq_true k.cps.toList
  · intro m hm hmj
    have hmn : m < ns.length := by omega
    obtain ⟨t', e'⟩ := strs_at r m hmn (by omega)
    have e1 : its.toArray[m] = .str ns[m] t' := by simpa using e'
    rw [e1]
    refine beq_eq_false_iff_ne.mpr fun e2 => hno m hmj ?_
    rw [List.getElem?_eq_getElem hmn, str_ext e2]
  · have rr := r.eraseIdx j
    rw [erase_mapS] at rr
    refine ⟨.non, _, I.lset (its' := its.eraseIdx j) (t' := s.toks) hH e ?_ rr ?_, rfl, q⟩
    · show its.toArray.eraseIdxIfInBounds j = (its.eraseIdx j).toArray
      rw [List.eraseIdxIfInBounds_toArray]
    · have z2 := len_erase ns j
      rw [List.length_map]
      omega
end LT

/-! LQb: draws from the tape. -/
namespace LT
open PySem PySem.Spec PyProof.Rows L2
/-- the tape at t: the script's copy, the place, what is left of a cell -/
def Tp (H : Hp) (t s : Addr) : Prop := ∃ (i c : Int), H t = some (.lst [.ref s, .int i, .int c]) ∧ 0 ≤ i ∧ 0 ≤ c
def Scr (B : Hp) (s : Addr) : Prop := ∃ ns : List Int, B s = some (.lst (ns.map V.int))
theorem Scr.grow {B B' : Hp} {s : Addr} (h : Scr B s) (e : Same B B') : Scr B' s := by
  obtain ⟨ns, h1⟩ := h
  exact ⟨ns, e _ _ h1⟩
theorem Tp.grow {H H' : Hp} {t s : Addr} (h : Tp H t s) (e : Same H H') : Tp H' t s := by
  obtain ⟨i, c, h1, h3, h4⟩ := h
  exact ⟨i, c, e _ _ h1, h3, h4⟩
theorem Tp.get {H : Hp} {t s : Addr} (h : Tp H t s) : ∃ xs, H t = some (.lst xs) := by
  obtain ⟨i, c, h1, _⟩ := h
  exact ⟨_, h1⟩
theorem Tp.sqt {K : PySem.W.Frag} {H : Hp} {t s a : Addr} {xs : List V} (h : Tp H t s) (q : SqT K H a xs) : SqT K (del H t) a xs := by
  obtain ⟨ys, e⟩ := h.get
  exact sqt_del e q
theorem Tp.ne {H : Hp} {t s p : Addr} (h : Tp H t s) (q : H p = none) : p ≠ t := by
  obtain ⟨ys, e⟩ := h.get
  exact fun z => by rw [z, e] at q; cases q
/-- a cell of the call's own, changed: the tape stands -/
theorem Tp.mut {H : Hp} {t s p : Addr} {o : HO} (h : Tp H t s) (q : p ≠ t) : Tp (upd H p o) t s := by
  obtain ⟨i, c, h1, h3, h4⟩ := h
  exact ⟨i, c, by rw [upd_ne (Ne.symm q)]; exact h1, h3, h4⟩

def sp_law_draw (K : PySem.W.Frag) : Sp := fun vs H Q _ => ∃ (t s : Addr) (m : Int), vs = [.ref t, .int m] ∧ 0 < m ∧ m ≤ 10 ^ 18 ∧ Tp H t s ∧ Scr (del H t) s ∧
  ∀ (r : Int) (H' : Hp), 0 ≤ r → r < m → Tp H' t s → del H' t = del H t → (∀ b, b ≠ t → H' b = H b) → Q (.int r) H'
abbrev N_law_draw : List Str := ["tape", "many", "prime", "cell", "found"]
def t_law_draw (K : PySem.W.Frag) : TS :=
  (tSeq (tAsg (tC (.int 2305843009213693951)) (gName 2))
    (Evl.tCut (tIfS (tTest (tOp rLtI (tOp (rIxL K) (tVar 0) (tC (.int 2))) (tVar 1))) (tSeq (tAsg (tC (.int 0)) (gName 3))
    (Evl.tCut (tIfS (tTest (tOp rGtI (tCB (rLenSq K) (tCons (tOp (rIxL K) (tVar 0) (tC (.int 0))) tNil)) (tC (.int 0)))) (tAsg (tOp (rIxL K) (tOp (rIxL K) (tVar 0) (tC (.int 0))) (tOp rModI (tOp (rIxL K) (tVar 0) (tC (.int 1))) (tCB (rLenSq K) (tCons (tOp (rIxL K) (tVar 0) (tC (.int 0))) tNil)))) (gName 3)) tNext)
    (Evl.tCut (tIfS (tOr (tTest (tOp rGeI (tOp (rIxL K) (tVar 0) (tC (.int 1))) (tCB (rLenSq K) (tCons (tOp (rIxL K) (tVar 0) (tC (.int 0))) tNil)))) (tTest (tOp rLtI (tVar 3) (tOp rPowI (tC (.int 10)) (tC (.int 18)))))) (tSeq (tAsg (tOp rModI (tOp rAddI (tVar 3) (tOp rMulI (tC (.int 1000003)) (tOp (rIxL K) (tVar 0) (tC (.int 1))))) (tVar 2)) (gName 3))
    (tSeq (tAsg (tOp rModI (tOp rAddI (tOp rAddI (tOp rMulI (tVar 3) (tVar 3)) (tOp rMulI (tC (.int 1181783497276652981)) (tVar 3))) (tC (.int 2049848353892358983))) (tVar 2)) (gName 3))
    (tAsg (tOp rModI (tOp rAddI (tOp rMulI (tVar 3) (tVar 3)) (tC (.int 1442695040888963407))) (tVar 2)) (gName 3)))) tNext)
    (tSeq (tAsg (tOp rAddI (tOp (rIxL K) (tVar 0) (tC (.int 1))) (tC (.int 1))) (gSub (tVar 0) (tC (.int 1)) rSetL))
    (tAsg (tVar 3) (gSub (tVar 0) (tC (.int 2)) rSetL)))))) tNext)
    (tSeq (tAsg (tOp rModI (tOp (rIxL K) (tVar 0) (tC (.int 2))) (tVar 1)) (gName 4))
    (tSeq (tAsg (tOp rFdivI (tOp (rIxL K) (tVar 0) (tC (.int 2))) (tVar 1)) (gSub (tVar 0) (tC (.int 2)) rSetL))
    (tRet (tVar 4))))))

theorem len_law_draw {K : PySem.W.Frag} {vs : List V} {H : Hp} {Q : VK} {E : XK} (h : sp_law_draw K vs H Q E) : vs.length = 2 := by
  obtain ⟨_, _, _, rfl, _⟩ := h
  rfl
theorem sem_law_draw {K : PySem.W.Frag} {vs : List V} {H : Hp} {Q : VK} {E : XK} (h : sp_law_draw K vs H Q E) : t_law_draw K { nx := fun _ H' => Q .non H', rt := Q } (start N_law_draw vs) H := by
  obtain ⟨t, s, m, rfl, hm, hm2, ⟨i, c, hT, hi, hc⟩, ⟨ns, hS⟩, q⟩ := h
  obtain ⟨hst, hS'⟩ := del_get hS
  unfold t_law_draw
  -- prime
  refine ⟨fun σ H1 => ∃ (x3 : Option V) (i' c' : Int), σ = [some (.ref t), some (.int m), some (.int 2305843009213693951), x3, none] ∧ H1 = upd H t (.lst [.ref s, .int i', .int c']) ∧ 0 ≤ i' ∧ 0 ≤ c', ?_, ?_⟩
  · refine ⟨_, rfl, t, _, 2, .int c, rfl, rfl, .of hT, rfl, _, rfl, c, m, rfl, rfl, _, rfl, ite2 (fun e => ?_) (fun e => ?_)⟩
    · -- cell = 0
      refine ⟨fun σ H1 => ∃ v : Int, σ = [some (.ref t), some (.int m), some (.int 2305843009213693951), some (.int v), none] ∧ H = H1, ?_, ?_⟩
      · refine ⟨_, rfl, t, _, 0, .ref s, rfl, rfl, .of hT, rfl, s, ns.map V.int, rfl, .inl (.of hS'), _, 0, rfl, rfl, _, rfl, ite2 (fun e2 => ?_) (fun e2 => ?_)⟩
        · have e3 : (0 : Int) < ((ns.map V.int).length : Int) := of_decide_eq_true e2
          have hl : i % ((ns.map V.int).length : Int) < ((ns.map V.int).length : Int) := Int.emod_lt_of_pos _ e3
          have hl0 : 0 ≤ i % ((ns.map V.int).length : Int) := Int.emod_nonneg _ (by omega)
          have hk : (i % ((ns.map V.int).length : Int)).toNat < ns.length := by
            rw [List.length_map] at hl ⊢
            rw [List.length_map] at hl0
            omega
          refine ⟨_, rfl, t, _, 0, .ref s, rfl, rfl, .of hT, rfl, _, rfl, t, _, 1, .int i, rfl, rfl, .of hT, rfl, _, rfl, t, _, 0, .ref s, rfl, rfl, .of hT, rfl, s, ns.map V.int, rfl, .inl (.of hS'), i, _, rfl, rfl, e3, s, ns.map V.int, _, .int (ns[(i % ((ns.map V.int).length : Int)).toNat]), rfl, rfl, .of hS', ?_, ?_⟩
          · have := atI_nat (xs := ns.map V.int) (j := (i % ((ns.map V.int).length : Int)).toNat) (v := .int (ns[(i % ((ns.map V.int).length : Int)).toNat])) (by simp [hk])
            rw [Int.toNat_of_nonneg hl0] at this
            exact this
          · exact ⟨_, rfl, rfl⟩
        · exact ⟨0, rfl, rfl⟩
      · rintro σ H1 ⟨v, rfl, rfl⟩
        refine ⟨fun σ H1 => ∃ v : Int, σ = [some (.ref t), some (.int m), some (.int 2305843009213693951), some (.int v), none] ∧ H = H1 ∧ 0 ≤ v, ?_, ?_⟩
        · have go : ∀ v : Int, (tSeq (tAsg (tOp rModI (tOp rAddI (tVar 3) (tOp rMulI (tC (.int 1000003)) (tOp (rIxL K) (tVar 0) (tC (.int 1))))) (tVar 2)) (gName 3))
              (tSeq (tAsg (tOp rModI (tOp rAddI (tOp rAddI (tOp rMulI (tVar 3) (tVar 3)) (tOp rMulI (tC (.int 1181783497276652981)) (tVar 3))) (tC (.int 2049848353892358983))) (tVar 2)) (gName 3))
              (tAsg (tOp rModI (tOp rAddI (tOp rMulI (tVar 3) (tVar 3)) (tC (.int 1442695040888963407))) (tVar 2)) (gName 3)))) { nx := fun σ H1 => ∃ v : Int, σ = [some (.ref t), some (.int m), some (.int 2305843009213693951), some (.int v), none] ∧ H = H1 ∧ 0 ≤ v, rt := Q } [some (.ref t), some (.int m), some (.int 2305843009213693951), some (.int v), none] H := by
            intro v
            have hp : (0 : Int) < 2305843009213693951 := by decide
            have b1 := Int.emod_nonneg (v + 1000003 * i) (show (2305843009213693951 : Int) ≠ 0 by decide)
            have b2 := Int.emod_lt_of_pos (v + 1000003 * i) hp
            generalize ew : (v + 1000003 * i) % 2305843009213693951 = w1 at b1 b2
            refine ⟨_, rfl, _, rfl, t, _, 1, .int i, rfl, rfl, .of hT, rfl, 1000003, i, rfl, rfl, .inl ⟨by decide, by decide⟩, v, _, rfl, rfl, _, rfl, _, _, rfl, rfl, hp, ?_⟩
            dsimp only
            rw [ew]
            refine ⟨_, rfl, _, rfl, w1, w1, rfl, rfl, .inl ⟨by omega, by omega⟩, _, rfl, _, w1, rfl, rfl, .inl ⟨by decide, by decide⟩, _, _, rfl, rfl, _, _, rfl, rfl, _, rfl, _, _, rfl, rfl, hp, ?_⟩
            have b3 := Int.emod_nonneg (w1 * w1 + 1181783497276652981 * w1 + 2049848353892358983) (show (2305843009213693951 : Int) ≠ 0 by decide)
            have b4 := Int.emod_lt_of_pos (w1 * w1 + 1181783497276652981 * w1 + 2049848353892358983) hp
            generalize ew2 : (w1 * w1 + 1181783497276652981 * w1 + 2049848353892358983) % 2305843009213693951 = w2 at b3 b4
            dsimp only
            rw [ew2]
            refine ⟨_, rfl, _, rfl, w2, w2, rfl, rfl, .inl ⟨by omega, by omega⟩, _, _, rfl, rfl, _, rfl, _, _, rfl, rfl, hp, ?_⟩
            exact ⟨_, rfl, rfl, Int.emod_nonneg _ (by decide)⟩
          refine ⟨_, rfl, t, _, 1, .int i, rfl, rfl, .of hT, rfl, _, rfl, t, _, 0, .ref s, rfl, rfl, .of hT, rfl, s, ns.map V.int, rfl, .inl (.of hS'), i, _, rfl, rfl, _, rfl, ite2 (fun e2 => ?_) (fun e2 => ?_)⟩
          · exact iteT (go v)
          · refine ⟨_, rfl, 10, 18, rfl, rfl, ⟨by decide, by decide, by decide⟩, v, _, rfl, rfl, _, rfl, ite2 (fun e3 => go v) (fun e3 => ⟨v, rfl, rfl, ?_⟩)⟩
            have e4 : ¬ v < (10 : Int) ^ (18 : Int).toNat := fun z => e3 (decide_eq_true z)
            have e5 : (10 : Int) ^ (18 : Int).toNat = 1000000000000000000 := by decide
            rw [e5] at e4
            omega
        · rintro σ H1 ⟨v, rfl, rfl, hv⟩
          refine ⟨_, rfl, t, _, 1, .int i, rfl, rfl, .of hT, rfl, i, 1, rfl, rfl, _, rfl, t, _, 1, 1, rfl, rfl, hT, rfl, ?_⟩
          refine ⟨_, rfl, _, rfl, t, _, 2, 2, rfl, rfl, upd_same, rfl, ?_⟩
          refine ⟨_, i + 1, v, rfl, ?_, by omega, hv⟩
          rw [upd_upd]
          rfl
    · refine ⟨none, i, c, rfl, ?_, hi, hc⟩
      funext b
      by_cases hb : b = t
      · subst hb; rw [upd_same]; exact hT
      · rw [upd_ne hb]
  · rintro σ H1 ⟨x3, i', c', rfl, rfl, hi', hc'⟩
    have hT' : (upd H t (.lst [.ref s, .int i', .int c'])) t = some (.lst [.ref s, .int i', .int c']) := upd_same
    refine ⟨_, rfl, t, _, 2, .int c', rfl, rfl, .of hT', rfl, _, rfl, c', m, rfl, rfl, hm, ?_⟩
    refine ⟨_, rfl, t, _, 2, .int c', rfl, rfl, .of hT', rfl, _, rfl, c', m, rfl, rfl, ?_, _, rfl, t, _, 2, 2, rfl, rfl, hT', rfl, ?_⟩
    · exact wide_div (b := 64) hm (by omega) (by decide) (by decide)
    · refine ⟨_, rfl, ?_⟩
      refine q _ _ (Int.emod_nonneg _ (by omega)) (Int.emod_lt_of_pos _ hm) ?_ ?_ ?_
      · exact ⟨i', c' / m, upd_same, hi', Int.ediv_nonneg hc' (by omega)⟩
      · rw [del_upd, del_upd]
      · intro b hb
        rw [upd_ne hb, upd_ne hb]

abbrev vNat (j : Nat) : V := .int (j : Int)
end LT

/-! LTm: the mathematics of piles, in plain Lean. -/
namespace LT
section
variable {α : Type} [DecidableEq α]
/-- taken and laid on top -/
def tk (ps : List α) (z : α) : List α := z :: ps.erase z
def bh (ps rs : List α) : List α := rs.foldl tk ps
def lf : List α → List α → List Nat
  | _, [] => []
  | ps, r :: rs => ps.idxOf r :: lf (tk ps r) rs
/-- who passed whom -/
def pw : List α → List α → List (α × α)
  | _, [] => []
  | ps, r :: rs => (ps.take (ps.idxOf r)).map (fun o => (r, o)) ++ pw (tk ps r) rs
theorem bh_nil (ps : List α) : bh ps [] = ps := rfl
theorem bh_cons (ps : List α) (r : α) (rs : List α) : bh ps (r :: rs) = bh (tk ps r) rs := rfl
theorem bh_snoc (ps rs : List α) (r : α) : bh ps (rs ++ [r]) = tk (bh ps rs) r := by simp [bh]
theorem bh_append (ps rs qs : List α) : bh ps (rs ++ qs) = bh (bh ps rs) qs := by simp [bh]
theorem lf_append : ∀ (rs ps qs : List α), lf ps (rs ++ qs) = lf ps rs ++ lf (bh ps rs) qs
  | [], _, _ => rfl
  | r :: rs, ps, qs => by
    show ps.idxOf r :: lf (tk ps r) (rs ++ qs) = _
    rw [lf_append rs (tk ps r) qs]
    rfl
theorem pw_append : ∀ (rs ps qs : List α), pw ps (rs ++ qs) = pw ps rs ++ pw (bh ps rs) qs
  | [], _, _ => rfl
  | r :: rs, ps, qs => by
    show _ ++ pw (tk ps r) (rs ++ qs) = _
    rw [pw_append rs (tk ps r) qs, ← List.append_assoc]
    rfl
theorem lf_snoc (ps rs : List α) (r : α) : lf ps (rs ++ [r]) = lf ps rs ++ [(bh ps rs).idxOf r] := lf_append rs ps [r]
theorem pw_snoc (ps rs : List α) (r : α) : pw ps (rs ++ [r]) = pw ps rs ++ ((bh ps rs).take ((bh ps rs).idxOf r)).map (fun o => (r, o)) := by
  rw [pw_append]
  show _ ++ (_ ++ []) = _
  rw [List.append_nil]
theorem lf_length : ∀ (rs ps : List α), (lf ps rs).length = rs.length
  | [], _ => rfl
  | r :: rs, ps => by
    show (lf (tk ps r) rs).length + 1 = rs.length + 1
    rw [lf_length rs]
theorem tk_perm {ps : List α} {z : α} (h : z ∈ ps) : (tk ps z).Perm ps := (List.perm_cons_erase h).symm
theorem bh_perm : ∀ {rs ps : List α}, (∀ r ∈ rs, r ∈ ps) → (bh ps rs).Perm ps
  | [], ps, _ => List.Perm.refl ps
  | r :: rs, ps, h => by
    have h1 := tk_perm (h r (List.mem_cons_self ..))
    have h2 : (bh (tk ps r) rs).Perm (tk ps r) := bh_perm fun x hx => h1.mem_iff.mpr (h x (List.mem_cons_of_mem _ hx))
    exact h2.trans h1
theorem idx_ne {a z : α} {r : List α} (e : a ≠ z) : (a :: r).idxOf z = r.idxOf z + 1 := by
  rw [List.idxOf_cons, beq_eq_false_iff_ne.mpr e]
  rfl
theorem idx_at {ps : List α} {z : α} (h : z ∈ ps) : ps[ps.idxOf z]? = some z ∧ ∀ m, m < ps.idxOf z → ps[m]? ≠ some z := by
  induction ps with
  | nil => cases h
  | cons a r ih =>
    by_cases e : a = z
    · subst e
      rw [List.idxOf_cons_self]
      exact ⟨rfl, fun m hm => absurd hm (Nat.not_lt_zero _)⟩
    · have h' : z ∈ r := by
        rcases List.mem_cons.mp h with q | q
        · exact absurd q.symm e
        · exact q
      obtain ⟨i1, i2⟩ := ih h'
      rw [idx_ne e]
      refine ⟨i1, fun m hm => ?_⟩
      cases m with
      | zero => simpa using e
      | succ m => simpa using i2 m (by omega)
theorem erase_idx {ps : List α} (z : α) : ps.eraseIdx (ps.idxOf z) = ps.erase z := by
  induction ps with
  | nil => rfl
  | cons a r ih =>
    by_cases e : a = z
    · subst e
      rw [List.idxOf_cons_self, List.erase_cons_head]
      rfl
    · rw [idx_ne e, List.erase_cons_tail (by simpa using e)]
      show a :: r.eraseIdx (r.idxOf z) = _
      rw [ih]
theorem take_snoc {l : List α} {i : Nat} {x : α} (h : l[i]? = some x) : l.take (i + 1) = l.take i ++ [x] := by
  rw [List.take_add_one, h]
  rfl
theorem filter_take_pos {p : α → Bool} {l : List α} {j : Nat} {z : α} (h : l[j]? = some z) (hp : p z = true) : (l.take (j + 1)).filter p = (l.take j).filter p ++ [z] := by
  rw [take_snoc h, List.filter_append, List.filter_cons, if_pos hp, List.filter_nil]
theorem filter_take_neg {p : α → Bool} {l : List α} {j : Nat} {z : α} (h : l[j]? = some z) (hp : p z = false) : (l.take (j + 1)).filter p = (l.take j).filter p := by
  rw [take_snoc h, List.filter_append, List.filter_cons, if_neg (by rw [hp]; exact Bool.false_ne_true), List.filter_nil, List.append_nil]
end
end LT

/-! LQc: texts in lists, a for over either kind, readings gone through by the law itself. -/
namespace LT
open PySem PySem.Spec PyProof.Rows L2
section
variable {K : PySem.W.Frag} {H : Hp} {Q : VK}
abbrev SqA (K : PySem.W.Frag) (H : Hp) (a : Addr) (xs : List V) : Prop := SqL K H a xs ∨ SqT K H a xs
theorem SqA.grow {a : Addr} {xs : List V} {H' : Hp} (h : SqA K H a xs) (e : Same H H') : SqA K H' a xs := h.elim (fun q => .inl (e.seq q)) fun q => .inr (same_sqt e q)
theorem seq_go {t u : TS} {D : Ends} {σ : L2.St} {H : Hp} (h : t { D with nx := u D } σ H) : tSeq t u D σ H := h
theorem asg_go {te : TE} {g : TG} {D : Ends} {σ : L2.St} {H : Hp} (h : te σ H fun x H1 => g x σ H1 D.nx) : tAsg te g D σ H := h
theorem drop_go {te : TE} {D : Ends} {σ : L2.St} {H : Hp} (h : te σ H fun _ H1 => D.nx σ H1) : tDrop te D σ H := h
theorem ret_go {te : TE} {D : Ends} {σ : L2.St} {H : Hp} (h : te σ H D.rt) : tRet te D σ H := h
theorem cb_go {r : List V → Hp → VK → Prop} {t : TA} {σ : L2.St} {H : Hp} {Q : VK} (h : t σ H fun vs H1 => r vs H1 Q) : tCB r t σ H Q := h
theorem cons_go {ta : TE} {tr : TA} {σ : L2.St} {H : Hp} {Q : List V → Hp → Prop} (h : ta σ H fun x H1 => tr σ H1 fun xs H2 => Q (x :: xs) H2) : tCons ta tr σ H Q := h
theorem op_go {r : R2} {ta tb : TE} {σ : L2.St} {H : Hp} {Q : VK} (h : ta σ H fun x H1 => tb σ H1 fun y H2 => r x y H2 Q) : tOp r ta tb σ H Q := h
theorem test_go {t : TE} {σ : L2.St} {H : Hp} {Q : Bool → Hp → Prop} (h : t σ H fun x H' => ∃ k, x = .bl k ∧ Q k H') : tTest t σ H Q := h
theorem ifs_go {c : TT} {t u : TS} {D : Ends} {σ : L2.St} {H : Hp} (h : c σ H fun b H1 => if b = true then t D σ H1 else u D σ H1) : tIfS c t u D σ H := h
theorem call_go {sp : Sp} {dvs : List V} {E : XK} {t : TA} {σ : L2.St} {H : Hp} {Q : VK} (h : t σ H fun vs H1 => sp (vs ++ dvs) H1 Q E) : tCall sp dvs E t σ H Q := h
theorem var_go {i : Nat} {σ : L2.St} {H : Hp} {Q : VK} {v : V} (h : σ[i]? = some (some v)) (q : Q v H) : tVar i σ H Q := ⟨v, h, q⟩
theorem c_go {v : V} {σ : L2.St} {H : Hp} {Q : VK} (h : Q v H) : tC v σ H Q := h
theorem nop_go {σ : L2.St} {H : Hp} {Q : Option Int → Hp → Prop} (h : Q none H) : tNoPart σ H Q := h
theorem nil_go {σ : L2.St} {H : Hp} {Q : List V → Hp → Prop} (h : Q [] H) : tNil σ H Q := h
theorem r_index {a : Addr} {ps : List Str} {z : Str} (h : SqL K H a (ps.map V.str)) (hz : z ∈ ps) (q : Q (vNat (ps.idxOf z)) H) : rIndex K (.ref a) [.str z] H Q := by
  obtain ⟨h1, h2⟩ := idx_at hz
  refine ⟨a, _, .str z, ps.idxOf z, .str z, rfl, rfl, h, rfl, flat_strs ps, by rw [List.getElem?_map, h1]; rfl, beq_self_eq_true z, fun m z' hm e => ?_, q⟩
  rw [List.getElem?_map] at e
  cases e2 : ps[m]? with
  | none => rw [e2] at e; cases e
  | some y =>
    rw [e2] at e
    cases e
    show (y == z) = false
    exact beq_eq_false_iff_ne.mpr fun e3 => h2 m hm (e3 ▸ e2)
theorem r_tindex {a : Addr} {ps : List Str} {z : Str} (h : SqT K H a (ps.map V.str)) (hz : z ∈ ps) (q : Q (vNat (ps.idxOf z)) H) : rTupIx K (.ref a) [.str z] H Q := by
  obtain ⟨h1, h2⟩ := idx_at hz
  exact ⟨a, ps, z, ps.idxOf z, rfl, rfl, h, h1, h2, q⟩
theorem r_remove {a : Addr} {ps : List Str} {z : Str} (h : H a = some (.lst (ps.map V.str))) (hz : z ∈ ps) (q : Q .non (upd H a (.lst ((ps.erase z).map V.str)))) : rRemoveS (.ref a) [.str z] H Q := by
  obtain ⟨h1, h2⟩ := idx_at hz
  exact ⟨a, ps, z, ps.idxOf z, rfl, rfl, h, h1, h2, by rw [erase_idx]; exact q⟩
theorem r_insert0 {a : Addr} {xs : List V} {y : V} (h : H a = some (.lst xs)) (hl : xs.length < sizeLine) (q : Q .non (upd H a (.lst (y :: xs)))) : rInsertL (.ref a) [.int 0, y] H Q :=
  ⟨a, xs, 0, y, rfl, rfl, h, hl, by decide, by decide, q⟩
theorem f_seq {i : Nat} {g : TG} {tb : TS} {D : Ends} {σ : L2.St} {b : Addr} {xs : List V} (hb : σ[i]? = some (some (.ref b))) {Hb : Hp} (h : SqA K Hb b xs) (Pv : Nat → L2.St → Hp → Prop) (h0 : Pv 0 σ H) (hG : ∀ j σ H', Pv j σ H' → Same Hb H')
    (hs : ∀ j x σ H1, xs[j]? = some x → Pv j σ H1 → g x σ H1 fun σ2 H2 => tb { D with nx := Pv (j + 1), ct := Pv (j + 1), bk := D.nx } σ2 H2) (hd : ∀ σ H1, Pv xs.length σ H1 → D.nx σ H1) : tFor (iSeq K (tVar i)) g tb D σ H := by
  rcases h with h | h
  · exact .inl ⟨_, hb, b, rfl, ⟨_, (hG _ _ _ h0).seq h⟩, for_it (walk_list (K := K) (a := b) (xs := xs)) Pv h0 (fun j σ H' _ p => (hG j σ H' p).seq h) (fun j x σ H1 H1' hj p y => by obtain ⟨rfl, e⟩ := y; exact hs j x σ _ e p) hd⟩
  · exact .inr ⟨_, hb, b, rfl, ⟨_, same_sqt (hG _ _ _ h0) h⟩, for_it (walk_tup (K := K) (a := b) (xs := xs)) Pv h0 (fun j σ H' _ p => same_sqt (hG j σ H' p) h) (fun j x σ H1 H1' hj p y => by obtain ⟨rfl, e⟩ := y; exact hs j x σ _ e p) hd⟩
theorem at_str {rs : List Str} {j : Nat} {x : V} (h : (rs.map V.str)[j]? = some x) : ∃ z, rs[j]? = some z ∧ x = .str z := by
  rw [List.getElem?_map] at h
  cases e : rs[j]? with
  | none => rw [e] at h; cases h
  | some z => rw [e] at h; cases h; exact ⟨z, rfl, rfl⟩
/-- tuples of two texts each -/
abbrev Twos (H : Hp) (as : List Addr) (rows : List (Str × Str)) : Prop := Paired (fun (a : Addr) (r : Str × Str) => H a = some (.tup [.str r.1, .str r.2])) as rows
theorem Twos.grow {H' : Hp} {as : List Addr} {rows : List (Str × Str)} (h : Twos H as rows) (e : Same H H') : Twos H' as rows := Paired.mapP h fun a r q => e _ _ q
theorem paired_append {α β : Type} {F : α → β → Prop} : ∀ {l₁ : List α} {l₂ : List β} {m₁ : List α} {m₂ : List β}, Paired F l₁ l₂ → Paired F m₁ m₂ → Paired F (l₁ ++ m₁) (l₂ ++ m₂)
  | _, _, _, _, .nil, s => s
  | _, _, _, _, .cons r t, s => .cons r (paired_append t s)
/-- tuples stay when a list is changed -/
theorem Twos.mut {as : List Addr} {rows : List (Str × Str)} {l : Addr} {xs : List V} {o : HO} (h : Twos H as rows) (hl : H l = some (.lst xs)) : Twos (upd H l o) as rows :=
  Paired.mapP h fun a r q => by rw [upd_ne (ne_of q hl fun z => nomatch z)]; exact q
end
end LT

/-! LQe: data compared. -/
namespace LT
open PySem PySem.Spec PyProof.Rows L2
abbrev OkS (xs : List Str) : Prop := ∀ x ∈ xs, PyData.canLay0 (.str x) = true
theorem inV_strs (z : Str) (ps : List Str) : inV (.str z) (ps.map V.str) = decide (z ∈ ps) := by
  unfold inV
  induction ps with
  | nil => rfl
  | cons a r ih =>
    rw [List.map_cons, List.any_cons, ih]
    show ((a == z) || decide (z ∈ r)) = decide (z ∈ a :: r)
    by_cases e : a = z
    · subst e; simp
    · have : (a == z) = false := beq_eq_false_iff_ne.mpr e
      rw [this, Bool.false_or]
      apply decide_eq_decide.mpr
      rw [List.mem_cons]
      exact ⟨.inr, fun q => q.elim (fun q => absurd q.symm e) id⟩
theorem eqvAll_strs : ∀ xs ys : List Str, PyData.eqvAll (xs.map PyData.str) (ys.map PyData.str) = decide (xs = ys)
  | [], [] => by simp [PyData.eqvAll]
  | [], y :: ys => by simp [PyData.eqvAll]
  | x :: xs, [] => by simp [PyData.eqvAll]
  | x :: xs, y :: ys => by
    simp only [List.map_cons, PyData.eqvAll, PyData.eqv, eqvAll_strs xs ys, List.cons.injEq, Bool.decide_and]
    congr 1
theorem eqvAll_ints : ∀ xs ys : List Int, PyData.eqvAll (xs.map PyData.int) (ys.map PyData.int) = decide (xs = ys)
  | [], [] => by simp [PyData.eqvAll]
  | [], y :: ys => by simp [PyData.eqvAll]
  | x :: xs, [] => by simp [PyData.eqvAll]
  | x :: xs, y :: ys => by
    simp only [List.map_cons, PyData.eqvAll, PyData.eqv, eqvAll_ints xs ys, List.cons.injEq, Bool.decide_and]
    congr 1
theorem depth_flat {ds : List PyData} (h : ∀ d ∈ ds, d.depth = 0) : PyData.depthAll ds = 0 := by
  induction ds with
  | nil => rfl
  | cons d r ih =>
    simp only [PyData.depthAll, h d (List.mem_cons_self ..), ih fun x hx => h x (List.mem_cons_of_mem _ hx)]
    rfl
theorem lay_all {ds : List PyData} (h : ∀ d ∈ ds, d.canLay0 = true) : PyData.canLayAll0 ds = true := by
  induction ds with
  | nil => rfl
  | cons d r ih =>
    simp only [PyData.canLayAll0, h d (List.mem_cons_self ..), ih fun x hx => h x (List.mem_cons_of_mem _ hx)]
    rfl
theorem shaped_of {d : PyData} (h1 : d.canLay0 = true) (h2 : d.depth ≤ 64) : SeqAt.shaped d = true := by
  unfold SeqAt.shaped
  rw [h1, decide_eq_true h2]
  rfl
theorem shaped_strT {xs : List Str} (h : OkS xs) : SeqAt.shaped (.tuple (xs.map .str)) = true := by
  refine shaped_of ?_ ?_
  · simp only [PyData.canLay0]
    exact lay_all fun d hd => by
      obtain ⟨x, hx, rfl⟩ := List.mem_map.mp hd
      exact h x hx
  · simp only [PyData.depth]
    rw [depth_flat fun d hd => by obtain ⟨x, hx, rfl⟩ := List.mem_map.mp hd; rfl]
    decide
theorem shaped_strL {xs : List Str} (h : OkS xs) : SeqAt.shaped (.list (xs.map .str)) = true := by
  refine shaped_of ?_ ?_
  · simp only [PyData.canLay0]
    exact lay_all fun d hd => by
      obtain ⟨x, hx, rfl⟩ := List.mem_map.mp hd
      exact h x hx
  · simp only [PyData.depth]
    rw [depth_flat fun d hd => by obtain ⟨x, hx, rfl⟩ := List.mem_map.mp hd; rfl]
    decide
theorem shaped_intL (xs : List Int) : SeqAt.shaped (.list (xs.map .int)) = true := by
  refine shaped_of ?_ ?_
  · simp only [PyData.canLay0]
    exact lay_all fun d hd => by
      obtain ⟨x, hx, rfl⟩ := List.mem_map.mp hd
      rfl
  · simp only [PyData.depth]
    rw [depth_flat fun d hd => by obtain ⟨x, hx, rfl⟩ := List.mem_map.mp hd; rfl]
    decide
section
variable {K : PySem.W.Frag} {H : Hp}
theorem dpAll_strs : ∀ xs : List Str, DpAll K H (xs.map V.str) (xs.map PyData.str)
  | [] => .nil
  | x :: xs => .cons (.str x) (dpAll_strs xs)
theorem dpAll_ints : ∀ xs : List Int, DpAll K H (xs.map V.int) (xs.map PyData.int)
  | [] => .nil
  | x :: xs => .cons (.int x) (dpAll_ints xs)
theorem dp_strT {a : Addr} {xs : List Str} (h : SqT K H a (xs.map V.str)) : Dp K H (.ref a) (.tuple (xs.map .str)) := .tup h (dpAll_strs xs)
theorem dp_strL {a : Addr} {xs : List Str} (h : SqL K H a (xs.map V.str)) : Dp K H (.ref a) (.list (xs.map .str)) := .lst h (dpAll_strs xs)
theorem dp_intL {a : Addr} {xs : List Int} (h : SqL K H a (xs.map V.int)) : Dp K H (.ref a) (.list (xs.map .int)) := .lst h (dpAll_ints xs)
theorem eqv_strT (xs ys : List Str) : PyData.eqv (.tuple (xs.map .str)) (.tuple (ys.map .str)) = decide (xs = ys) := by
  simp only [PyData.eqv]; exact eqvAll_strs xs ys
theorem eqv_strL (xs ys : List Str) : PyData.eqv (.list (xs.map .str)) (.list (ys.map .str)) = decide (xs = ys) := by
  simp only [PyData.eqv]; exact eqvAll_strs xs ys
theorem eqv_intL (xs ys : List Int) : PyData.eqv (.list (xs.map .int)) (.list (ys.map .int)) = decide (xs = ys) := by
  simp only [PyData.eqv]; exact eqvAll_ints xs ys
theorem r_eqT {a b : Addr} {xs ys : List Str} {Q : VK} (ha : SqT K H a (xs.map V.str)) (hb : SqT K H b (ys.map V.str)) (ox : OkS xs) (oy : OkS ys) (q : Q (.bl (decide (xs = ys))) H) : rEqD K (.ref a) (.ref b) H Q :=
  ⟨_, _, dp_strT ha, dp_strT hb, shaped_strT ox, shaped_strT oy, by rw [eqv_strT]; exact q⟩
theorem r_neT {a b : Addr} {xs ys : List Str} {Q : VK} (ha : SqT K H a (xs.map V.str)) (hb : SqT K H b (ys.map V.str)) (ox : OkS xs) (oy : OkS ys) (q : Q (.bl (!decide (xs = ys))) H) : rNeD K (.ref a) (.ref b) H Q :=
  ⟨_, _, dp_strT ha, dp_strT hb, shaped_strT ox, shaped_strT oy, by rw [eqv_strT]; exact q⟩
theorem r_eqL {a b : Addr} {xs ys : List Str} {Q : VK} (ha : SqL K H a (xs.map V.str)) (hb : SqL K H b (ys.map V.str)) (ox : OkS xs) (oy : OkS ys) (q : Q (.bl (decide (xs = ys))) H) : rEqD K (.ref a) (.ref b) H Q :=
  ⟨_, _, dp_strL ha, dp_strL hb, shaped_strL ox, shaped_strL oy, by rw [eqv_strL]; exact q⟩
theorem r_neL {a b : Addr} {xs ys : List Str} {Q : VK} (ha : SqL K H a (xs.map V.str)) (hb : SqL K H b (ys.map V.str)) (ox : OkS xs) (oy : OkS ys) (q : Q (.bl (!decide (xs = ys))) H) : rNeD K (.ref a) (.ref b) H Q :=
  ⟨_, _, dp_strL ha, dp_strL hb, shaped_strL ox, shaped_strL oy, by rw [eqv_strL]; exact q⟩
theorem r_eqI {a b : Addr} {xs ys : List Int} {Q : VK} (ha : SqL K H a (xs.map V.int)) (hb : SqL K H b (ys.map V.int)) (q : Q (.bl (decide (xs = ys))) H) : rEqD K (.ref a) (.ref b) H Q :=
  ⟨_, _, dp_intL ha, dp_intL hb, shaped_intL xs, shaped_intL ys, by rw [eqv_intL]; exact q⟩
theorem r_neI {a b : Addr} {xs ys : List Int} {Q : VK} (ha : SqL K H a (xs.map V.int)) (hb : SqL K H b (ys.map V.int)) (q : Q (.bl (!decide (xs = ys))) H) : rNeD K (.ref a) (.ref b) H Q :=
  ⟨_, _, dp_intL ha, dp_intL hb, shaped_intL xs, shaped_intL ys, by rw [eqv_intL]; exact q⟩
/-- a text in a row of texts -/
theorem r_in {x : Str} {a : Addr} {ps : List Str} {neg : Bool} {Q : VK} (h : SqA K H a (ps.map V.str)) (q : Q (.bl (if neg then !decide (x ∈ ps) else decide (x ∈ ps))) H) : rIn K neg (.str x) (.ref a) H Q :=
  ⟨a, _, rfl, h, rfl, flat_strs ps, by rw [inV_strs]; exact q⟩
end
end LT

/-! LTs: tuples that are known to have no dict of their own, so that their methods may be called. -/
namespace LT
open PySem PySem.Spec PyProof.Rows L2
section
variable {X : Cx}
def tupO (H : Hp) (xs : List V) (Q : VK) : Prop := ∀ (p : Addr) (o : Obj), H p = none → o.dict = none → Q (.ref p) (upd H p (.frz o (.tup xs)))
def tTupS (t : TA) : TE := fun σ H Q => t σ H fun xs H1 => xs.length ≤ sizeLine ∧ tupO H1 xs Q
theorem pe_tupS {es : List Expr} {t : TA} {pos : Pos} {x1} (h : PA X es t) : PE X (.Tuple es x1 pos) (tTupS t) := by
  refine ⟨fun pins s σ H Q I hq => ?_⟩
  refine wpAny_Tuple_spliced (thn (h.run pos pins s σ H _ I hq) fun us s1 ⟨xs, H1, I1, r, z, q⟩ => ⟨by rw [← r.length]; exact z, ?_⟩)
  have hf : H1 s1.heap.objs.size = none := I1.hok.fresh (Nat.le_refl _)
  refine ⟨.ref s1.heap.objs.size, upd H1 s1.heap.objs.size (.frz { cls := .type "tuple", data := .seq us.toArray } (.tup xs)), I1.laid (t' := s1.toks) (fun b u e => Heap.get?_push_of_some _ e) (Nat.le_refl _) ?_, rfl, q _ _ hf rfl⟩
  exact ⟨Heap.get?_push_size _ rfl, z, us, r, ⟨_, Heap.get?_push_size _ rfl, rfl, _, rfl⟩⟩
def rTupS (K : PySem.W.Frag) : List V → Hp → VK → Prop := fun xs H Q => ∃ p ys, xs = [.ref p] ∧ ((SqL K H p ys ∧ tupO H ys Q) ∨ (SqT K H p ys ∧ Q (.ref p) H))
theorem call_tupS : CallR X (.type "tuple") (rTupS X.K) := by
  intro pins s σ H xs us Q I r h
  obtain ⟨p, ys, rfl, h⟩ := h
  obtain ⟨u, rfl, rx⟩ := vals1 r
  cases rx
  rcases h with ⟨hq, q⟩ | ⟨hq, q⟩
  · obtain ⟨its, r', pl, hz⟩ := I.list hq
    have hlen := r'.length
    refine call_tuple_list pl.isList (fun h' kp => ?_) (by simp only [List.size_toArray] <;> omega)
    have I1 : Inv X pins σ H { s with heap := h' } := I.kept (t' := s.toks) kp
    have I2 : Inv X pins σ (upd H h'.objs.size (.frz { cls := .type "tuple", data := .seq its.toArray } (.tup ys))) { s with heap := h'.push { cls := .type "tuple", data := .seq its.toArray } } :=
      I1.laid (t' := s.toks) (fun b o e => Heap.get?_push_of_some _ e) (Nat.le_refl _) (show ObjOk X.prog X.w _ _ _ (.frz _ (.tup ys)) from ⟨Heap.get?_push_size _ rfl, hz, its, r', IsTup.new _ _⟩)
    exact ⟨.ref h'.objs.size, _, I2, rfl, q _ _ (I1.hok.fresh (Nat.le_refl _)) rfl⟩
  · obtain ⟨its, r', pl, hz⟩ := I.tuple hq
    exact call_tuple_same pl ⟨.ref p, H, I, rfl, q⟩
def rCatS (K : PySem.W.Frag) : R2 := fun x y H Q => ∃ a b xs ys, x = .ref a ∧ y = .ref b ∧ SqT K H a xs ∧ SqT K H b ys ∧ xs.length + ys.length ≤ sizeLine ∧
  (xs = [] → Q (.ref b) H) ∧ (xs ≠ [] → ys = [] → Q (.ref a) H) ∧ (xs ≠ [] → ys ≠ [] → tupO H (xs ++ ys) Q)
theorem op_catS : OpR X (binaryOp .Add) (rCatS X.K) := by
  intro pins s σ H x y v u Q I rx ry h
  obtain ⟨a, b, xs, ys, rfl, rfl, ha, hb, hz, q0, q1, q2⟩ := h
  cases rx
  cases ry
  obtain ⟨its, r1, p1, _⟩ := I.tuple ha
  obtain ⟨its2, r2, p2, _⟩ := I.tuple hb
  by_cases hx : xs = []
  · subst hx
    cases r1
    exact cat_tup0 p1 p2 ⟨.ref b, H, I, rfl, q0 rfl⟩
  · refine HT.cat_tup p1 p2 (fun z => hx (r1.nil_iff.mp z)) (fun z => ⟨.ref a, H, I, rfl, q1 hx (r2.nil_iff.mp z)⟩) (fun z => ?_) (by rw [← r1.length, ← r2.length]; exact hz)
    refine ⟨.ref s.heap.objs.size, _, I.laid (t' := s.toks) (o := .frz { cls := .type "tuple", data := .seq (its ++ its2).toArray } (.tup (xs ++ ys))) (fun b ob q => Heap.get?_push_of_some _ q) (Nat.le_refl _) ?_, rfl, q2 hx (fun w => z (r2.nil_iff.mpr w)) _ _ (I.hok.fresh (Nat.le_refl _)) rfl⟩
    exact ⟨Heap.get?_push_size _ rfl, by rw [List.length_append]; exact hz, _, r1.append r2, IsTup.new _ _⟩
def rSlS2 (K : PySem.W.Frag) : V → Option Int → Option Int → Hp → VK → Prop := fun x lo hi H Q => ∃ a xs, x = .ref a ∧ SqT K H a xs ∧
  (HT.sIx xs.length 0 lo = 0 ∧ HT.sIx xs.length xs.length hi = xs.length → Q (.ref a) H) ∧ (¬ (HT.sIx xs.length 0 lo = 0 ∧ HT.sIx xs.length xs.length hi = xs.length) → tupO H (cutV xs lo hi) Q)
theorem sl_tupS : SlR X (rSlS2 X.K) := by
  intro pins s σ H x v vl vu lo hi sl Q I rx hs pl pu h
  obtain ⟨a, xs, rfl, hx, q1, q2⟩ := h
  cases rx
  obtain ⟨its, r, ht, hz⟩ := I.tuple hx
  have hlen : its.toArray.size = xs.length := by rw [List.size_toArray]; exact r.length.symm
  refine ⟨"tuple", _, PyProof.Rows.slot_tuple_getitem.lookup, ht.typeIs, ?_⟩
  by_cases hw : HT.sIx xs.length 0 lo = 0 ∧ HT.sIx xs.length xs.length hi = xs.length
  · exact getItem_tuple_whole ht hs pl pu (by rw [hlen]; exact hw) ⟨.ref a, H, I, rfl, q1 hw⟩
  · refine HT.getItem_tuple_cut ht hs pl pu (by rw [hlen]; exact hw) ?_ (by rw [hlen]; exact hz)
    rw [hlen]
    refine ⟨.ref s.heap.objs.size, _, I.laid (t' := s.toks) (o := .frz { cls := .type "tuple", data := .seq ((its.drop (HT.sIx xs.length 0 lo)).take (HT.sIx xs.length xs.length hi - HT.sIx xs.length 0 lo)).toArray } (.tup (cutV xs lo hi))) (fun b ob q => Heap.get?_push_of_some _ q) (Nat.le_refl _) ?_, rfl, q2 hw _ _ (I.hok.fresh (Nat.le_refl _)) rfl⟩
    exact ⟨Heap.get?_push_size _ rfl, Nat.le_trans (cutV_length xs lo hi) hz, _, (r.drop (HT.sIx xs.length 0 lo)).take (HT.sIx xs.length xs.length hi - HT.sIx xs.length 0 lo), IsTup.new _ _⟩
/-- a method of such a tuple -/
def tBT (r : V → List V → Hp → VK → Prop) (to : TE) (t : TA) : TE := fun σ H Q => to σ H fun x H1 => (∃ p o xs, x = .ref p ∧ H1 p = some (.frz o (.tup xs)) ∧ o.dict = none) ∧ t σ H1 fun xs H2 => r x xs H2 Q
theorem pe_bt {o e : Expr} {es : List Expr} {to : TE} {t : TA} {name : Str} {apos cpos : Pos} {id : String} {r : V → List V → Hp → VK → Prop} (pa : PlainAttrs "tuple") (slot : Slot "tuple" name id) (hty : typeOf (.builtin id) = pure (.type "method_descriptor")) (hm : MtR X id r) (ho : PE X o to) (ha : PA X (e :: es) t)
    (hbase : attributeBase o name X.env (eval o X.env) = eval o X.env := by rfl)
    (hfew : ((backTo cpos (starEach (e :: es) X.env)).all (fun x => !x.1) && (backToKw cpos (keywordEach [] X.env)).all (fun x => x.1.isSome)
      && decide ((e :: es).length + ([] : List Keyword).length + (if ([] : List Keyword).isEmpty then 0 else 1) < 30)) = true := by rfl)
    (hline : (apos.endLine == cpos.line) = true := by rfl) (hs : starEach (e :: es) X.env = (false, eval e X.env) :: starEach es X.env := by rfl) (hplain : (backTo cpos (starEach es X.env)).any (·.1) = false := by rfl) :
    PE X (.Call (.Attribute o name apos) (e :: es) [] cpos) (tBT r to t) := by
  refine ⟨fun pins s σ H Q I h => ?_⟩
  refine wpAny_Call_method_late hbase hfew hline rfl (thn (ho.run pins s σ H _ I h) fun v s1 ⟨x, H1, I1, r1, ⟨p, ob, xs, hx, hp, hd⟩, q1⟩ => ?_)
  subst hx
  have r1' := r1
  cases r1'
  obtain ⟨h1, h2⟩ := I1.hok p _ hp
  have hc : ob.cls = .type "tuple" := by
    obtain ⟨_, its, _, o', ho', hc', _⟩ := h2
    rw [h1] at ho'; cases ho'; exact hc'
  refine ⟨"tuple", id, pa, slot, hty, ⟨ob, h1, hc⟩, fun a e => by cases e; exact ⟨ob, h1, hd⟩, ?_⟩
  have hA := ha.run cpos pins s1 σ H1 _ I1 q1
  rw [hs] at hA ⊢
  refine Calls.callWith_builtin (by show (false || (backTo cpos (starEach es X.env)).any (·.1)) = false; rw [hplain] <;> rfl) (Calls.evalArgs_plain ?_)
  exact thn hA fun us s2 ⟨vs, H2, I2, r2, q2⟩ => hm pins s2 σ H2 _ vs _ us Q I2 r1 r2 q2
end
end LT

/-! LP1: programs over plain data: what a value stands for, how heaps grow, slots. -/
namespace LT
open PySem PySem.Spec PyProof.Rows L2
abbrev Sc := Sum Int Bool
def scV : Sc → V
  | .inl i => .int i
  | .inr b => .bl b
def scD : Sc → PyData
  | .inl i => .int i
  | .inr b => .bool b
def kyD : Key → PyData
  | .inl i => .int i
  | .inr s => .str s
def dkv (kvs : List (Key × Sc)) : List (Key × V) := kvs.map fun p => (p.1, scV p.2)
def dD (kvs : List (Key × Sc)) : PyData := .dict (kvs.map fun p => (kyD p.1, scD p.2))
theorem kyD_inj {a b : Key} (h : kyD a = kyD b) : a = b := by
  cases a <;> cases b <;> simp [kyD] at h <;> simp [h]
theorem scD_inj {a b : Sc} (h : scD a = scD b) : a = b := by
  cases a <;> cases b <;> simp [scD] at h <;> simp [h]
theorem dD_inj {a b : List (Key × Sc)} (h : dD a = dD b) : a = b := by
  unfold dD at h
  have h' := PyData.dict.inj h
  clear h
  induction a generalizing b with
  | nil => cases b with
    | nil => rfl
    | cons y b => simp at h'
  | cons x a ih => cases b with
    | nil => simp at h'
    | cons y b =>
      simp only [List.map_cons, List.cons.injEq, Prod.mk.injEq] at h'
      rw [ih h'.2]
      cases x; cases y
      simp only at h'
      rw [kyD_inj h'.1.1, scD_inj h'.1.2]
mutual
/-- v stands for the data d, all of it in B -/
inductive Rp (B : Hp) : V → PyData → Prop
  | non : Rp B .non .none
  | bl (b : Bool) : Rp B (.bl b) (.bool b)
  | int (i : Int) : Rp B (.int i) (.int i)
  | str (x : Str) : Rp B (.str x) (.str x)
  | lst {a : Addr} {xs : List V} {ds : List PyData} : B a = some (.lst xs) → RpA B xs ds → Rp B (.ref a) (.list ds)
  | tup {a : Addr} {o : Obj} {xs : List V} {ds : List PyData} : B a = some (.frz o (.tup xs)) → o.dict = none → RpA B xs ds → Rp B (.ref a) (.tuple ds)
  | wpr {a : Addr} {x y : Str} : B a = some (.tup [.str x, .str y]) → Rp B (.ref a) (.dict [(.str x, .str y)])
  | dic {a : Addr} {kvs : List (Key × Sc)} : Rd B a (.dK (dkv kvs)) → Rp B (.ref a) (.dict (kvs.map fun p => (kyD p.1, scD p.2)))
inductive RpA (B : Hp) : List V → List PyData → Prop
  | nil : RpA B [] []
  | cons {v : V} {vs : List V} {d : PyData} {ds : List PyData} : Rp B v d → RpA B vs ds → RpA B (v :: vs) (d :: ds)
end
theorem rd_grow {B B' : Hp} {a : Addr} {u : HO} (s : Same B B') (h : Rd B a u) : Rd B' a u := h.elim (fun q => .inl (s _ _ q)) fun ⟨o, q⟩ => .inr ⟨o, s _ _ q⟩
mutual
theorem Rp.grow {B B' : Hp} (s : Same B B') : ∀ {v : V} {d : PyData}, Rp B v d → Rp B' v d
  | _, _, .non => .non
  | _, _, .bl b => .bl b
  | _, _, .int i => .int i
  | _, _, .str x => .str x
  | _, _, .lst h r => .lst (s _ _ h) (RpA.grow s r)
  | _, _, .tup h n r => .tup (s _ _ h) n (RpA.grow s r)
  | _, _, .wpr h => .wpr (s _ _ h)
  | _, _, .dic h => .dic (rd_grow s h)
theorem RpA.grow {B B' : Hp} (s : Same B B') : ∀ {v : List V} {d : List PyData}, RpA B v d → RpA B' v d
  | _, _, .nil => .nil
  | _, _, .cons h r => .cons (Rp.grow s h) (RpA.grow s r)
end
section
variable {B : Hp} {v : V} {vs : List V} {ds : List PyData}
theorem Rp.int_inv {i : Int} (h : Rp B v (.int i)) : v = .int i := by cases h; rfl
theorem Rp.bl_inv {i : Bool} (h : Rp B v (.bool i)) : v = .bl i := by cases h; rfl
theorem Rp.str_inv {i : Str} (h : Rp B v (.str i)) : v = .str i := by cases h; rfl
theorem Rp.lst_inv (h : Rp B v (.list ds)) : ∃ a xs, v = .ref a ∧ B a = some (.lst xs) ∧ RpA B xs ds := by
  cases h with | lst h r => exact ⟨_, _, rfl, h, r⟩
theorem Rp.tup_inv (h : Rp B v (.tuple ds)) : ∃ a o xs, v = .ref a ∧ B a = some (.frz o (.tup xs)) ∧ o.dict = none ∧ RpA B xs ds := by
  cases h with | tup h n r => exact ⟨_, _, _, rfl, h, n, r⟩
/-- a pair of texts that may be a dict's key -/
def wpD (x y : Str) : PyData := .dict [(.str x, .str y)]
theorem wpD_ne {x y : Str} {kvs : List (Key × Sc)} : wpD x y ≠ dD kvs := fun e => by
  unfold wpD dD at e
  have e' := PyData.dict.inj e
  cases kvs with
  | nil => simp at e'
  | cons p r =>
    simp only [List.map_cons, List.cons.injEq, Prod.mk.injEq] at e'
    obtain ⟨⟨_, h⟩, _⟩ := e'
    cases hp : p.2 <;> rw [hp] at h <;> cases h
theorem Rp.wp_inv {d : PyData} {x y : Str} (h : Rp B v d) (e : d = wpD x y) : ∃ a, v = .ref a ∧ B a = some (.tup [.str x, .str y]) := by
  cases h with
  | wpr h =>
    unfold wpD at e
    simp only [PyData.dict.injEq, List.cons.injEq, Prod.mk.injEq, PyData.str.injEq, and_true] at e
    obtain ⟨rfl, rfl⟩ := e
    exact ⟨_, rfl, h⟩
  | dic h => exact absurd e.symm wpD_ne
  | _ => cases e
theorem Rp.dic_inv {d : PyData} {kvs : List (Key × Sc)} (h : Rp B v d) (e : d = dD kvs) : ∃ a, v = .ref a ∧ Rd B a (.dK (dkv kvs)) := by
  cases h with
  | dic h =>
    have := dD_inj e
    subst this
    exact ⟨_, rfl, h⟩
  | wpr h => exact absurd e wpD_ne
  | _ => cases e
theorem RpA.length (h : RpA B vs ds) : vs.length = ds.length := by
  induction vs generalizing ds with
  | nil => cases h; rfl
  | cons x r ih => cases h with | cons h1 h2 => simp [ih h2]
theorem RpA.get {i : Nat} {x : V} (h : RpA B vs ds) (e : vs[i]? = some x) : ∃ d, ds[i]? = some d ∧ Rp B x d := by
  induction vs generalizing ds i with
  | nil => simp at e
  | cons y r ih =>
    cases h with
    | cons h1 h2 =>
      cases i with
      | zero => simp at e; subst e; exact ⟨_, rfl, h1⟩
      | succ i => simpa using ih h2 (i := i) (by simpa using e)
theorem RpA.get' {i : Nat} {d : PyData} (h : RpA B vs ds) (e : ds[i]? = some d) : ∃ x, vs[i]? = some x ∧ Rp B x d := by
  have hl := h.length
  obtain ⟨hi, _⟩ := List.getElem?_eq_some_iff.mp e
  have : vs[i]? = some (vs[i]'(by omega)) := List.getElem?_eq_getElem _
  obtain ⟨d', h1, h2⟩ := h.get this
  rw [e] at h1; cases h1
  exact ⟨_, this, h2⟩
theorem RpA.append {us : List V} {es : List PyData} (h : RpA B vs ds) (h' : RpA B us es) : RpA B (vs ++ us) (ds ++ es) := by
  induction vs generalizing ds with
  | nil => cases h; exact h'
  | cons x r ih => cases h with | cons h1 h2 => exact .cons h1 (ih h2)
theorem RpA.snoc {d : PyData} (h : RpA B vs ds) (h' : Rp B v d) : RpA B (vs ++ [v]) (ds ++ [d]) := h.append (.cons h' .nil)
theorem RpA.drop (n : Nat) (h : RpA B vs ds) : RpA B (vs.drop n) (ds.drop n) := by
  induction n generalizing vs ds with
  | zero => exact h
  | succ n ih => cases h with
    | nil => exact .nil
    | cons h1 h2 => exact ih h2
theorem RpA.take (n : Nat) (h : RpA B vs ds) : RpA B (vs.take n) (ds.take n) := by
  induction n generalizing vs ds with
  | zero => exact .nil
  | succ n ih => cases h with
    | nil => exact .nil
    | cons h1 h2 => exact .cons h1 (ih h2)
theorem RpA.reverse (h : RpA B vs ds) : RpA B vs.reverse ds.reverse := by
  induction vs generalizing ds with
  | nil => cases h; exact .nil
  | cons x r ih => cases h with
    | cons h1 h2 =>
      rw [List.reverse_cons, List.reverse_cons]
      exact (ih h2).snoc h1
theorem RpA.eraseIdx (n : Nat) (h : RpA B vs ds) : RpA B (vs.eraseIdx n) (ds.eraseIdx n) := by
  induction n generalizing vs ds with
  | zero => cases h with
    | nil => exact .nil
    | cons h1 h2 => exact h2
  | succ n ih => cases h with
    | nil => exact .nil
    | cons h1 h2 => exact .cons h1 (ih h2)
theorem RpA.set {d : PyData} (n : Nat) (h : RpA B vs ds) (h' : Rp B v d) : RpA B (vs.set n v) (ds.set n d) := by
  induction n generalizing vs ds with
  | zero => cases h with
    | nil => exact .nil
    | cons h1 h2 => exact .cons h' h2
  | succ n ih => cases h with
    | nil => exact .nil
    | cons h1 h2 => exact .cons h1 (ih h2)
theorem RpA.flat {n : Nat} (h : RpA B vs ds) : RpA B (List.replicate n vs).flatten (List.replicate n ds).flatten := by
  induction n with
  | zero => exact .nil
  | succ n ih => exact h.append ih
theorem RpA.ints {ns : List Int} (h : RpA B vs (ns.map .int)) : vs = ns.map V.int := by
  induction ns generalizing vs with
  | nil => cases h; rfl
  | cons x r ih => cases h with | cons h1 h2 => rw [h1.int_inv, ih h2]; rfl
theorem RpA.strs {ns : List Str} (h : RpA B vs (ns.map .str)) : vs = ns.map V.str := by
  induction ns generalizing vs with
  | nil => cases h; rfl
  | cons x r ih => cases h with | cons h1 h2 => rw [h1.str_inv, ih h2]; rfl
theorem RpA.bls {ns : List Bool} (h : RpA B vs (ns.map .bool)) : vs = ns.map V.bl := by
  induction ns generalizing vs with
  | nil => cases h; rfl
  | cons x r ih => cases h with | cons h1 h2 => rw [h1.bl_inv, ih h2]; rfl
theorem rpa_ints (ns : List Int) : RpA B (ns.map V.int) (ns.map .int) := by
  induction ns with
  | nil => exact .nil
  | cons x r ih => exact .cons (.int x) ih
theorem rpa_strs (ns : List Str) : RpA B (ns.map V.str) (ns.map .str) := by
  induction ns with
  | nil => exact .nil
  | cons x r ih => exact .cons (.str x) ih
theorem RpA.one {d : PyData} (h : RpA B vs [d]) : ∃ x, vs = [x] ∧ Rp B x d := by
  cases h with | cons h1 h2 => cases h2; exact ⟨_, rfl, h1⟩
theorem RpA.two {d e : PyData} (h : RpA B vs [d, e]) : ∃ x y, vs = [x, y] ∧ Rp B x d ∧ Rp B y e := by
  cases h with | cons h1 h2 => obtain ⟨y, rfl, h3⟩ := h2.one; exact ⟨_, _, rfl, h1, h3⟩
end
/-! ### the tape, if there is one -/
abbrev Tx := Option (Addr × Addr)
def TOk (T : Tx) (B H : Hp) : Prop := ∀ t s, T = some (t, s) → Tp H t s ∧ Scr B s ∧ B t = none
def tpA (T : Tx) (a : Addr) : Prop := ∃ s, T = some (a, s)
/-- no dict is being walked -/
def NoFz (B : Hp) : Prop := ∀ a f kvs, B a ≠ some (.frz f (.dK kvs))
structure Stt (T : Tx) (B H : Hp) : Prop where
  sub : Same B H
  tp : TOk T B H
structure Gr (T : Tx) (B H B' H' : Hp) : Prop where
  st : Stt T B' H'
  sb : Same B B'
  sh : ∀ a o, ¬ tpA T a → H a = some o → H' a = some o
  nw : ∀ a o, H a = some o → B' a = B a ∧ ∃ o', H' a = some o'
  fz : ∀ a f u, B' a = some (.frz f (.dK u)) → B a = some (.frz f (.dK u))
section
variable {T : Tx} {B H B' H' B'' H'' : Hp}
theorem Gr.refl (s : Stt T B H) : Gr T B H B H := ⟨s, Same.refl _, fun _ _ _ h => h, fun a o h => ⟨rfl, o, h⟩, fun _ _ _ h => h⟩
theorem Gr.trans (g : Gr T B H B' H') (g' : Gr T B' H' B'' H'') : Gr T B H B'' H'' :=
  ⟨g'.st, g.sb.trans g'.sb, fun a o n h => g'.sh a o n (g.sh a o n h), fun a o h => by
    obtain ⟨e, o', h'⟩ := g.nw a o h
    obtain ⟨e2, h2⟩ := g'.nw a o' h'
    exact ⟨e2.trans e, h2⟩, fun a f u h => g.fz a f u (g'.fz a f u h)⟩
theorem Gr.nofz (g : Gr T B H B' H') (n : NoFz B) : NoFz B' := fun a f k h => n a f k (g.fz a f k h)
theorem Stt.fr (s : Stt T B H) {p : Addr} (h : H p = none) : B p = none := by
  cases e : B p with
  | none => rfl
  | some o => rw [s.sub _ _ e] at h; cases h
theorem Gr.new (s : Stt T B H) {p : Addr} {o : HO} (hp : H p = none) (ho : ∀ f u, o ≠ .frz f (.dK u)) : Gr T B H (upd B p o) (upd H p o) := by
  have hb := s.fr hp
  refine ⟨⟨fun a u h => ?_, fun t s' e => ?_⟩, same_upd hb, fun a u _ h => same_upd hp _ _ h, fun a u h => ?_, fun a f u h => ?_⟩
  · by_cases q : a = p
    · subst q; rw [upd_same] at h ⊢; exact h
    · rw [upd_ne q] at h ⊢; exact s.sub _ _ h
  · obtain ⟨h1, h2, h3⟩ := s.tp t s' e
    have hpt := h1.ne hp
    exact ⟨h1.mut hpt, h2.grow (same_upd hb), by rw [upd_ne (Ne.symm hpt)]; exact h3⟩
  · have q := ne_of_none h hp
    exact ⟨upd_ne q, u, same_upd hp _ _ h⟩
  · by_cases q : a = p
    · subst q; rw [upd_same] at h; exact absurd (Option.some.inj h) (ho f u)
    · rw [upd_ne q] at h; exact h
/-- a call without the tape, from one with it -/
theorem Gr.lift (g : Gr none B H B' H') (s : Stt T B H) : Gr T B H B' H' := by
  have sh : Same H H' := fun a o h => g.sh a o (fun ⟨_, e⟩ => nomatch e) h
  refine ⟨⟨g.st.sub, fun t s' e => ?_⟩, g.sb, fun a o _ h => sh a o h, g.nw, g.fz⟩
  obtain ⟨h1, h2, h3⟩ := s.tp t s' e
  obtain ⟨xs, hx⟩ := h1.get
  exact ⟨h1.grow sh, h2.grow g.sb, (g.nw _ _ hx).1.trans h3⟩
theorem Stt.low (s : Stt T B H) : Stt none B H := ⟨s.sub, fun _ _ e => nomatch e⟩
end
/-! ### slots -/
inductive Ow where
  | lst (ds : List PyData)
  | dic (kvs : List (Key × Sc))
  | dct (kvs : List (List Key × Int))
inductive Sv where
  | no
  | dat (d : PyData)
  | own (o : Ow)
  | tape
abbrev Gm := List Sv
def OwOk (B H : Hp) (l : Addr) : Ow → Prop
  | .lst ds => ∃ vs, H l = some (.lst vs) ∧ RpA B vs ds
  | .dic kvs => H l = some (.dK (dkv kvs))
  | .dct kvs => H l = some (.dT (kvs.map fun p => (p.1, .int p.2)))
def SvOk (T : Tx) (B H : Hp) (x : Option V) : Sv → Prop
  | .no => True
  | .dat d => ∃ v, x = some v ∧ Rp B v d
  | .own o => ∃ l, x = some (.ref l) ∧ B l = none ∧ ¬ tpA T l ∧ OwOk B H l o
  | .tape => ∃ t s, x = some (.ref t) ∧ T = some (t, s)
structure En (T : Tx) (B H : Hp) (σ : L2.St) (Γ : Gm) : Prop where
  len : σ.length = Γ.length
  ok : ∀ (i : Nat) (x : Option V) (g : Sv), σ[i]? = some x → Γ[i]? = some g → SvOk T B H x g
section
variable {T : Tx} {B H B' H' : Hp} {σ : L2.St} {Γ : Gm}
theorem OwOk.get {l : Addr} {o : Ow} (h : OwOk B H l o) : ∃ u, H l = some u := by
  cases o with
  | lst ds => obtain ⟨vs, h, _⟩ := h; exact ⟨_, h⟩
  | dic k => exact ⟨_, h⟩
  | dct k => exact ⟨_, h⟩
theorem OwOk.grow {l : Addr} {o : Ow} (h : OwOk B H l o) (s : Same B B') (e : ∀ u, H l = some u → H' l = some u) : OwOk B' H' l o := by
  cases o with
  | lst ds => obtain ⟨vs, h, r⟩ := h; exact ⟨vs, e _ h, r.grow s⟩
  | dic k => exact e _ h
  | dct k => exact e _ h
theorem SvOk.grow {x : Option V} {g : Sv} (h : SvOk T B H x g) (gr : Gr T B H B' H') : SvOk T B' H' x g := by
  cases g with
  | no => trivial
  | dat d => obtain ⟨v, e, r⟩ := h; exact ⟨v, e, r.grow gr.sb⟩
  | own o =>
    obtain ⟨l, e, n, nt, k⟩ := h
    obtain ⟨u, hu⟩ := k.get
    exact ⟨l, e, (gr.nw _ _ hu).1.trans n, nt, k.grow gr.sb fun u hu => gr.sh _ _ nt hu⟩
  | tape => exact h
theorem En.grow (h : En T B H σ Γ) (gr : Gr T B H B' H') : En T B' H' σ Γ := ⟨h.len, fun i x g hx hg => (h.ok i x g hx hg).grow gr⟩
theorem En.at (h : En T B H σ Γ) {i : Nat} {g : Sv} (hg : Γ[i]? = some g) : ∃ x, σ[i]? = some x ∧ SvOk T B H x g := by
  obtain ⟨hi, _⟩ := List.getElem?_eq_some_iff.mp hg
  have : σ[i]? = some (σ[i]'(by have := h.len; omega)) := List.getElem?_eq_getElem _
  exact ⟨_, this, h.ok _ _ _ this hg⟩
theorem En.set (h : En T B H σ Γ) {i : Nat} {x : Option V} {g : Sv} (k : SvOk T B H x g) : En T B H (σ.set i x) (Γ.set i g) := by
  refine ⟨by rw [List.length_set, List.length_set]; exact h.len, fun j y g' hy hg => ?_⟩
  by_cases e : i = j
  · subst e
    obtain ⟨hi, _⟩ := List.getElem?_eq_some_iff.mp hy
    obtain ⟨hj, _⟩ := List.getElem?_eq_some_iff.mp hg
    rw [List.length_set] at hi hj
    rw [List.getElem?_set_self hi] at hy
    rw [List.getElem?_set_self hj] at hg
    cases hy; cases hg
    exact k
  · rw [List.getElem?_set_ne e] at hy hg
    exact h.ok _ _ _ hy hg
def wipeG (Γ : Gm) : List Nat → Gm
  | [] => Γ
  | v :: vs => (wipeG Γ vs).set v .no
theorem En.wipe (h : En T B H σ Γ) : ∀ vs : List Nat, En T B H (L2.wipe σ vs) (wipeG Γ vs)
  | [] => h
  | v :: vs => (En.wipe h vs).set trivial
end
/-! ### readings over data -/
abbrev ME := Gm → (PyData → Prop) → Prop
abbrev MT := Gm → (Bool → Prop) → Prop
abbrev MA := Gm → (List PyData → Prop) → Prop
abbrev MO := Gm → (Option Int → Prop) → Prop
/-- a value that may be a thing of the def's own -/
def Rq (T : Tx) (B H : Hp) (v : V) (d : PyData) : Prop := Rp B v d ∨ ∃ l o, v = .ref l ∧ B l = none ∧ ¬ tpA T l ∧ OwOk B H l o ∧ ((∃ ds, o = .lst ds ∧ d = .list ds) ∨ ∃ kvs, o = .dic kvs ∧ d = dD kvs)
section
variable {T : Tx} {B H B' H' : Hp} {v : V}
theorem Rq.grow {d : PyData} (h : Rq T B H v d) (g : Gr T B H B' H') : Rq T B' H' v d := by
  rcases h with h | ⟨l, o, e, n, nt, k, q⟩
  · exact .inl (h.grow g.sb)
  · obtain ⟨u, hu⟩ := k.get
    exact .inr ⟨l, o, e, (g.nw _ _ hu).1.trans n, nt, k.grow g.sb fun u hu => g.sh _ _ nt hu, q⟩
theorem Rq.int {i : Int} (h : Rq T B H v (.int i)) : v = .int i := by
  rcases h with h | ⟨l, o, _, _, _, _, ⟨_, _, q⟩ | ⟨_, _, q⟩⟩
  · exact h.int_inv
  · cases q
  · cases q
theorem Rq.bl {i : Bool} (h : Rq T B H v (.bool i)) : v = .bl i := by
  rcases h with h | ⟨l, o, _, _, _, _, ⟨_, _, q⟩ | ⟨_, _, q⟩⟩
  · exact h.bl_inv
  · cases q
  · cases q
theorem Rq.str {i : Str} (h : Rq T B H v (.str i)) : v = .str i := by
  rcases h with h | ⟨l, o, _, _, _, _, ⟨_, _, q⟩ | ⟨_, _, q⟩⟩
  · exact h.str_inv
  · cases q
  · cases q
theorem Rq.lst {ds : List PyData} (h : Rq T B H v (.list ds)) (s : Same B H) : ∃ a xs, v = .ref a ∧ H a = some (.lst xs) ∧ RpA B xs ds := by
  rcases h with h | ⟨l, o, rfl, _, _, k, ⟨_, rfl, q⟩ | ⟨_, _, q⟩⟩
  · obtain ⟨a, xs, e, h1, h2⟩ := h.lst_inv
    exact ⟨a, xs, e, s _ _ h1, h2⟩
  · cases q
    obtain ⟨vs, h1, h2⟩ := k
    exact ⟨l, vs, rfl, h1, h2⟩
  · cases q
theorem Rq.tup {ds : List PyData} (h : Rq T B H v (.tuple ds)) : ∃ a o xs, v = .ref a ∧ B a = some (.frz o (.tup xs)) ∧ o.dict = none ∧ RpA B xs ds := by
  rcases h with h | ⟨l, o, _, _, _, _, ⟨_, _, q⟩ | ⟨_, _, q⟩⟩
  · exact h.tup_inv
  · cases q
  · cases q
theorem Rq.wp {x y : Str} (h : Rq T B H v (wpD x y)) : ∃ a, v = .ref a ∧ B a = some (.tup [.str x, .str y]) := by
  rcases h with h | ⟨l, o, _, _, _, _, ⟨_, _, q⟩ | ⟨_, _, q⟩⟩
  · exact h.wp_inv rfl
  · cases q
  · exact absurd q wpD_ne
theorem Rq.dic {d : PyData} {kvs : List (Key × Sc)} (h : Rq T B H v d) (e : d = dD kvs) (s : Same B H) : ∃ a, v = .ref a ∧ Rd H a (.dK (dkv kvs)) := by
  rcases h with h | ⟨l, o, rfl, _, _, k, ⟨_, _, q⟩ | ⟨kvs', rfl, q⟩⟩
  · obtain ⟨a, e1, h1⟩ := h.dic_inv e
    exact ⟨a, e1, rd_grow s h1⟩
  · subst e; cases q
  · subst e
    have := dD_inj q
    subst this
    exact ⟨l, rfl, .inl k⟩
end
def RE (z : Bool) (te : TE) (m : ME) : Prop := ∀ T Γ σ B H P Q, Stt T B H → (z = true → NoFz B) → En T B H σ Γ → m Γ P → (∀ d v B' H', P d → Gr T B H B' H' → Rp B' v d → Q v H') → te σ H Q
def RQ (z : Bool) (te : TE) (m : ME) : Prop := ∀ T Γ σ B H P Q, Stt T B H → (z = true → NoFz B) → En T B H σ Γ → m Γ P → (∀ d v B' H', P d → Gr T B H B' H' → Rq T B' H' v d → Q v H') → te σ H Q
def RT (z : Bool) (tt : TT) (m : MT) : Prop := ∀ T Γ σ B H P Q, Stt T B H → (z = true → NoFz B) → En T B H σ Γ → m Γ P → (∀ d B' H', P d → Gr T B H B' H' → Q d H') → tt σ H Q
def RA (z : Bool) (ta : TA) (m : MA) : Prop := ∀ T Γ σ B H P Q, Stt T B H → (z = true → NoFz B) → En T B H σ Γ → m Γ P → (∀ ds vs B' H', P ds → Gr T B H B' H' → RpA B' vs ds → Q vs H') → ta σ H Q
def RO (z : Bool) (to : TO) (m : MO) : Prop := ∀ T Γ σ B H P Q, Stt T B H → (z = true → NoFz B) → En T B H σ Γ → m Γ P → (∀ d B' H', P d → Gr T B H B' H' → Q d H') → to σ H Q
/-- an operation on values -/
abbrev F2 := PyData → PyData → (PyData → Prop) → Prop
abbrev F1 := PyData → (PyData → Prop) → Prop
def O2 (r : R2) (f : F2) : Prop := ∀ T B H x y dx dy P Q, Stt T B H → Rq T B H x dx → Rq T B H y dy → f dx dy P → (∀ d v B' H', P d → Gr T B H B' H' → Rp B' v d → Q v H') → r x y H Q
/-- a built-in of one argument -/
def O1 (r : List V → Hp → VK → Prop) (f : F1) : Prop := ∀ T B H x dx P Q, Stt T B H → Rq T B H x dx → f dx P → (∀ d v B' H', P d → Gr T B H B' H' → Rp B' v d → Q v H') → r [x] H Q
def svD : Sv → Option PyData
  | .no => none
  | .dat d => some d
  | .own (.lst ds) => some (.list ds)
  | .own (.dic kvs) => some (dD kvs)
  | .own (.dct _) => none
  | .tape => none
def mVar (i : Nat) : ME := fun Γ P => ∃ d, Γ[i]? = some (.dat d) ∧ P d
def mVarQ (i : Nat) : ME := fun Γ P => ∃ d, Γ[i]?.bind svD = some d ∧ P d
def mC (d : PyData) : ME := fun _ P => P d
def mOp (f : F2) (a b : ME) : ME := fun Γ P => a Γ fun x => b Γ fun y => f x y P
def mCB1 (f : F1) (a : ME) : ME := fun Γ P => a Γ fun x => f x P
def mCB2 (f : F2) (a b : ME) : ME := mOp f a b
def mNil : MA := fun _ P => P []
def mCons (a : ME) (r : MA) : MA := fun Γ P => a Γ fun x => r Γ fun xs => P (x :: xs)
def mTup (a : MA) : ME := fun Γ P => a Γ fun xs => xs.length ≤ 1000 ∧ P (.tuple xs)
def mLst (a : MA) : ME := fun Γ P => a Γ fun xs => xs.length ≤ 1000 ∧ P (.list xs)
def mNoPart : MO := fun _ P => P none
def mPart (a : ME) : MO := fun Γ P => a Γ fun x => ∃ i, x = .int i ∧ P (some i)
def mTest (a : ME) : MT := fun Γ P => a Γ fun x => ∃ b, x = .bool b ∧ P b
def mYes : MT := fun _ P => P true
def mAnd (a b : MT) : MT := fun Γ P => a Γ fun x => if x = true then b Γ P else P false
def mOr (a b : MT) : MT := fun Γ P => a Γ fun x => if x = true then P true else b Γ P
def mNot (a : MT) : MT := fun Γ P => a Γ fun x => P (!x)
def mAndV (a b : ME) : ME := fun Γ P => a Γ fun x => ∃ c, x = .bool c ∧ if c = true then b Γ P else P (.bool false)
def mOrV (a b : ME) : ME := fun Γ P => a Γ fun x => ∃ c, x = .bool c ∧ if c = true then P (.bool true) else b Γ P
def mNotV (a : ME) : ME := fun Γ P => a Γ fun x => ∃ c, x = .bool c ∧ P (.bool (!c))
def mIfE (c : MT) (a b : ME) : ME := fun Γ P => c Γ fun x => if x = true then a Γ P else b Γ P
def mNeg (a : ME) : ME := fun Γ P => a Γ fun x => ∃ i, x = .int i ∧ P (.int (-i))
def mChain (f g : F2) (a b c : ME) : ME := fun Γ P => a Γ fun x => b Γ fun y => f x y fun r => ∃ k, r = .bool k ∧ if k = true then c Γ fun w => g y w P else P (.bool false)
def mSl (f : PyData → Option Int → Option Int → (PyData → Prop) → Prop) (a : ME) (lo hi : MO) : ME := fun Γ P => a Γ fun x => lo Γ fun l => hi Γ fun h => f x l h P
section
variable {z : Bool} {ta tb tc : TE} {a b c : ME} {t u : TT} {mp mq : MT}
theorem RE.q (h : RE z ta a) : RQ z ta a := fun T Γ σ B H P Q s nz e hm k => h T Γ σ B H P Q s nz e hm fun d v B' H' hp g r => k d v B' H' hp g (.inl r)
theorem re_var {i : Nat} : RE z (tVar i) (mVar i) := fun T Γ σ B H P Q s nz e ⟨d, h1, h2⟩ k => by
  obtain ⟨x, hx, v, rfl, r⟩ := e.at h1
  exact ⟨v, hx, k d v B H h2 (.refl s) r⟩
theorem rq_var {i : Nat} : RQ z (tVar i) (mVarQ i) := fun T Γ σ B H P Q s nz e ⟨d, h1, h2⟩ k => by
  cases hg : Γ[i]? with
  | none => rw [hg] at h1; cases h1
  | some g =>
    rw [hg] at h1
    obtain ⟨x, hx, ok⟩ := e.at hg
    cases g with
    | no => cases h1
    | tape => cases h1
    | dat d' =>
      cases h1
      obtain ⟨v, rfl, r⟩ := ok
      exact ⟨v, hx, k d v B H h2 (.refl s) (.inl r)⟩
    | own o =>
      obtain ⟨l, rfl, n, nt, ok⟩ := ok
      refine ⟨_, hx, k d _ B H h2 (.refl s) (.inr ⟨l, o, rfl, n, nt, ok, ?_⟩)⟩
      cases o with
      | lst ds => cases h1; exact .inl ⟨_, rfl, rfl⟩
      | dic kvs => cases h1; exact .inr ⟨_, rfl, rfl⟩
      | dct kvs => cases h1
theorem re_int {i : Int} : RE z (tC (.int i)) (mC (.int i)) := fun T Γ σ B H P Q s nz e hm k => k _ _ B H hm (.refl s) (.int i)
theorem re_bl {i : Bool} : RE z (tC (.bl i)) (mC (.bool i)) := fun T Γ σ B H P Q s nz e hm k => k _ _ B H hm (.refl s) (.bl i)
theorem re_str {i : Str} : RE z (tC (.str i)) (mC (.str i)) := fun T Γ σ B H P Q s nz e hm k => k _ _ B H hm (.refl s) (.str i)
theorem re_non : RE z (tC .non) (mC .none) := fun T Γ σ B H P Q s nz e hm k => k _ _ B H hm (.refl s) .non
theorem re_op {r : R2} {f : F2} (o : O2 r f) (ha : RQ z ta a) (hb : RQ z tb b) : RE z (tOp r ta tb) (mOp f a b) := fun T Γ σ B H P Q s nz e hm k =>
  ha T Γ σ B H _ _ s nz e hm fun d1 v1 B1 H1 h1 g1 r1 => hb T Γ σ B1 H1 _ _ g1.st (fun z => g1.nofz (nz z)) (e.grow g1) h1 fun d2 v2 B2 H2 h2 g2 r2 =>
    o T B2 H2 v1 v2 d1 d2 P Q g2.st (r1.grow g2) r2 h2 fun d v B' H' hp g r => k d v B' H' hp ((g1.trans g2).trans g) r
theorem re_cb1 {r : List V → Hp → VK → Prop} {f : F1} (o : O1 r f) (ha : RQ z ta a) : RE z (tCB r (tCons ta tNil)) (mCB1 f a) := fun T Γ σ B H P Q s nz e hm k =>
  ha T Γ σ B H _ _ s nz e hm fun d1 v1 B1 H1 h1 g1 r1 => o T B1 H1 v1 d1 P Q g1.st r1 h1 fun d v B' H' hp g r => k d v B' H' hp (g1.trans g) r
theorem re_cb2 {r : List V → Hp → VK → Prop} {f : F2} (o : O2 (fun x y H Q => r [x, y] H Q) f) (ha : RQ z ta a) (hb : RQ z tb b) : RE z (tCB r (tCons ta (tCons tb tNil))) (mCB2 f a b) := fun T Γ σ B H P Q s nz e hm k =>
  re_op o ha hb T Γ σ B H P Q s nz e hm k
theorem ra_nil : RA z tNil mNil := fun T Γ σ B H P Q s nz e hm k => k _ _ B H hm (.refl s) .nil
theorem ra_cons {tr : TA} {r : MA} (ha : RE z ta a) (hr : RA z tr r) : RA z (tCons ta tr) (mCons a r) := fun T Γ σ B H P Q s nz e hm k =>
  ha T Γ σ B H _ _ s nz e hm fun d1 v1 B1 H1 h1 g1 r1 => hr T Γ σ B1 H1 _ _ g1.st (fun z => g1.nofz (nz z)) (e.grow g1) h1 fun ds vs B2 H2 h2 g2 r2 =>
    k _ _ B2 H2 h2 (g1.trans g2) (.cons (r1.grow g2.sb) r2)
theorem re_tup {tr : TA} {r : MA} (hr : RA z tr r) : RE z (tTupS tr) (mTup r) := fun T Γ σ B H P Q s nz e hm k =>
  hr T Γ σ B H _ _ s nz e hm fun ds vs B1 H1 ⟨hl, h1⟩ g1 r1 => ⟨by rw [r1.length]; exact le_line (by omega), fun p o hp hd => by
    have g := Gr.new (o := .frz o (.tup vs)) g1.st hp (fun _ _ e => nomatch e)
    exact k _ _ _ _ h1 (g1.trans g) (.tup upd_same hd (r1.grow g.sb))⟩
def mWp (a b : ME) : ME := fun Γ P => a Γ fun x => b Γ fun y => ∃ i j, x = .str i ∧ y = .str j ∧ P (wpD i j)
theorem re_wp (ha : RE z ta a) (hb : RE z tb b) : RE z (tTup (tCons ta (tCons tb tNil))) (mWp a b) := fun T Γ σ B H P Q s nz e hm k =>
  ha T Γ σ B H _ _ s nz e hm fun d1 v1 B1 H1 h1 g1 r1 => hb T Γ σ B1 H1 _ _ g1.st (fun z => g1.nofz (nz z)) (e.grow g1) h1 fun d2 v2 B2 H2 ⟨i, j, e1, e2, h2⟩ g2 r2 => ⟨by show 2 ≤ sizeLine; decide, fun p hp => by
    subst e1 e2
    cases r1.str_inv
    cases r2.str_inv
    have g := Gr.new (o := .tup [.str i, .str j]) g2.st hp (fun _ _ e => nomatch e)
    exact k _ _ _ _ h2 ((g1.trans g2).trans g) (.wpr upd_same)⟩
theorem re_lst {tr : TA} {r : MA} (hr : RA z tr r) : RE z (tLst tr) (mLst r) := fun T Γ σ B H P Q s nz e hm k =>
  hr T Γ σ B H _ _ s nz e hm fun ds vs B1 H1 ⟨hl, h1⟩ g1 r1 => ⟨by rw [r1.length]; exact le_line (by omega), fun p hp => by
    have g := Gr.new (o := .lst vs) g1.st hp (fun _ _ e => nomatch e)
    exact k _ _ _ _ h1 (g1.trans g) (.lst upd_same (r1.grow g.sb))⟩
theorem ro_none : RO z tNoPart mNoPart := fun T Γ σ B H P Q s nz e hm k => k _ B H hm (.refl s)
theorem ro_some (ha : RE z ta a) : RO z (tPart ta) (mPart a) := fun T Γ σ B H P Q s nz e hm k =>
  ha T Γ σ B H _ _ s nz e hm fun d1 v1 B1 H1 ⟨i, h0, h1⟩ g1 r1 => ⟨i, by subst h0; exact r1.int_inv, k _ B1 H1 h1 g1⟩
theorem rt_test (ha : RE z ta a) : RT z (tTest ta) (mTest a) := fun T Γ σ B H P Q s nz e hm k =>
  ha T Γ σ B H _ _ s nz e hm fun d1 v1 B1 H1 ⟨i, h0, h1⟩ g1 r1 => ⟨i, by subst h0; exact r1.bl_inv, k _ B1 H1 h1 g1⟩
theorem rt_B (ha : RE z ta a) : RT z (tB ta) (mTest a) := rt_test ha
theorem rt_yes : RT z tYes mYes := fun T Γ σ B H P Q s nz e hm k => k _ B H hm (.refl s)
theorem rt_and (ha : RT z t mp) (hb : RT z u mq) : RT z (tAnd t u) (mAnd mp mq) := fun T Γ σ B H P Q s nz e hm k =>
  ha T Γ σ B H _ _ s nz e hm fun d1 B1 H1 h1 g1 => by
    cases d1 with
    | true =>
      rw [if_pos rfl] at h1 ⊢
      exact hb T Γ σ B1 H1 _ _ g1.st (fun z => g1.nofz (nz z)) (e.grow g1) h1 fun d2 B2 H2 h2 g2 => k _ _ _ h2 (g1.trans g2)
    | false =>
      rw [if_neg Bool.false_ne_true] at h1 ⊢
      exact k _ _ _ h1 g1
theorem rt_or (ha : RT z t mp) (hb : RT z u mq) : RT z (tOr t u) (mOr mp mq) := fun T Γ σ B H P Q s nz e hm k =>
  ha T Γ σ B H _ _ s nz e hm fun d1 B1 H1 h1 g1 => by
    cases d1 with
    | true =>
      rw [if_pos rfl] at h1 ⊢
      exact k _ _ _ h1 g1
    | false =>
      rw [if_neg Bool.false_ne_true] at h1 ⊢
      exact hb T Γ σ B1 H1 _ _ g1.st (fun z => g1.nofz (nz z)) (e.grow g1) h1 fun d2 B2 H2 h2 g2 => k _ _ _ h2 (g1.trans g2)
theorem rt_not (ha : RT z t mp) : RT z (tNot t) (mNot mp) := fun T Γ σ B H P Q s nz e hm k => ha T Γ σ B H _ _ s nz e hm fun d1 B1 H1 h1 g1 => k _ _ _ h1 g1
theorem re_andV (ha : RE z ta a) (hb : RE z tb b) : RE z (tAndV ta tb) (mAndV a b) := fun T Γ σ B H P Q s nz e hm k =>
  ha T Γ σ B H _ _ s nz e hm fun d1 v1 B1 H1 ⟨c, h0, h1⟩ g1 r1 => ⟨c, by subst h0; exact r1.bl_inv, by
    cases c with
    | true =>
      rw [if_pos rfl] at h1 ⊢
      exact hb T Γ σ B1 H1 _ _ g1.st (fun z => g1.nofz (nz z)) (e.grow g1) h1 fun d2 v2 B2 H2 h2 g2 => k _ _ _ _ h2 (g1.trans g2)
    | false =>
      rw [if_neg Bool.false_ne_true] at h1 ⊢
      exact k _ _ _ _ h1 g1 (.bl false)⟩
theorem re_orV (ha : RE z ta a) (hb : RE z tb b) : RE z (tOrV ta tb) (mOrV a b) := fun T Γ σ B H P Q s nz e hm k =>
  ha T Γ σ B H _ _ s nz e hm fun d1 v1 B1 H1 ⟨c, h0, h1⟩ g1 r1 => ⟨c, by subst h0; exact r1.bl_inv, by
    cases c with
    | true =>
      rw [if_pos rfl] at h1 ⊢
      exact k _ _ _ _ h1 g1 (.bl true)
    | false =>
      rw [if_neg Bool.false_ne_true] at h1 ⊢
      exact hb T Γ σ B1 H1 _ _ g1.st (fun z => g1.nofz (nz z)) (e.grow g1) h1 fun d2 v2 B2 H2 h2 g2 => k _ _ _ _ h2 (g1.trans g2)⟩
theorem re_notV (ha : RE z ta a) : RE z (tNotV ta) (mNotV a) := fun T Γ σ B H P Q s nz e hm k =>
  ha T Γ σ B H _ _ s nz e hm fun d1 v1 B1 H1 ⟨c, h0, h1⟩ g1 r1 => ⟨c, by subst h0; exact r1.bl_inv, k _ _ _ _ h1 g1 (.bl _)⟩
theorem re_ifE (hc : RT z t mp) (ha : RE z ta a) (hb : RE z tb b) : RE z (tIf t ta tb) (mIfE mp a b) := fun T Γ σ B H P Q s nz e hm k =>
  hc T Γ σ B H _ _ s nz e hm fun d1 B1 H1 h1 g1 => by
    cases d1 with
    | true =>
      rw [if_pos rfl] at h1 ⊢
      exact ha T Γ σ B1 H1 _ _ g1.st (fun z => g1.nofz (nz z)) (e.grow g1) h1 fun d2 v2 B2 H2 h2 g2 => k _ _ _ _ h2 (g1.trans g2)
    | false =>
      rw [if_neg Bool.false_ne_true] at h1 ⊢
      exact hb T Γ σ B1 H1 _ _ g1.st (fun z => g1.nofz (nz z)) (e.grow g1) h1 fun d2 v2 B2 H2 h2 g2 => k _ _ _ _ h2 (g1.trans g2)
theorem re_neg (ha : RE z ta a) : RE z (tUn (rU fun i => .int (-i)) ta) (mNeg a) := fun T Γ σ B H P Q s nz e hm k =>
  ha T Γ σ B H _ _ s nz e hm fun d1 v1 B1 H1 ⟨c, h0, h1⟩ g1 r1 => ⟨c, by subst h0; exact r1.int_inv, k _ _ _ _ h1 g1 (.int _)⟩
theorem re_chain {r r' : R2} {f g : F2} (o : O2 r f) (o' : O2 r' g) (ha : RQ z ta a) (hb : RQ z tb b) (hc : RQ z tc c) : RE z (tChain r r' ta tb tc) (mChain f g a b c) := fun T Γ σ B H P Q s nz e hm k =>
  ha T Γ σ B H _ _ s nz e hm fun d1 v1 B1 H1 h1 g1 r1 => hb T Γ σ B1 H1 _ _ g1.st (fun z => g1.nofz (nz z)) (e.grow g1) h1 fun d2 v2 B2 H2 h2 g2 r2 =>
    o T B2 H2 v1 v2 d1 d2 _ _ g2.st (r1.grow g2) r2 h2 fun d3 v3 B3 H3 ⟨c', e3, h3⟩ g3 r3 => ⟨c', by subst e3; exact r3.bl_inv, by
      have g13 := (g1.trans g2).trans g3
      cases c' with
      | true =>
        rw [if_pos rfl] at h3 ⊢
        exact hc T Γ σ B3 H3 _ _ g3.st (fun z => g13.nofz (nz z)) (e.grow g13) h3 fun d4 v4 B4 H4 h4 g4 r4 => o' T B4 H4 v2 v4 d2 d4 P Q g4.st ((r2.grow g3).grow g4) r4 h4 fun d v B' H' hp g r => k d v B' H' hp ((g13.trans g4).trans g) r
      | false =>
        rw [if_neg Bool.false_ne_true] at h3 ⊢
        exact k _ _ _ _ h3 g13 (.bl false)⟩
def OSl (r : V → Option Int → Option Int → Hp → VK → Prop) (f : PyData → Option Int → Option Int → (PyData → Prop) → Prop) : Prop :=
  ∀ T B H x dx lo hi P Q, Stt T B H → Rq T B H x dx → f dx lo hi P → (∀ d v B' H', P d → Gr T B H B' H' → Rp B' v d → Q v H') → r x lo hi H Q
theorem re_sl {r : V → Option Int → Option Int → Hp → VK → Prop} {f : PyData → Option Int → Option Int → (PyData → Prop) → Prop} {tl th : TO} {ml mh : MO} (o : OSl r f) (ha : RQ z ta a) (hl : RO z tl ml) (hh : RO z th mh) : RE z (tSl r ta tl th) (mSl f a ml mh) := fun T Γ σ B H P Q s nz e hm k =>
  ha T Γ σ B H _ _ s nz e hm fun d1 v1 B1 H1 h1 g1 r1 => hl T Γ σ B1 H1 _ _ g1.st (fun z => g1.nofz (nz z)) (e.grow g1) h1 fun d2 B2 H2 h2 g2 =>
    hh T Γ σ B2 H2 _ _ g2.st (fun z => (g1.trans g2).nofz (nz z)) (e.grow (g1.trans g2)) h2 fun d3 B3 H3 h3 g3 =>
      o T B3 H3 v1 d1 d2 d3 P Q g3.st ((r1.grow g2).grow g3) h3 fun d v B' H' hp g r => k d v B' H' hp (((g1.trans g2).trans g3).trans g) r
end
end LT

/-! LP2: statements, loops, comprehensions and calls over plain data. -/
namespace LT
open PySem PySem.Spec PyProof.Rows L2
inductive Out where
  | nx (Γ : Gm)
  | rt (d : PyData)
abbrev MS := Gm → (Out → Prop) → Prop
abbrev MG := PyData → Gm → (Gm → Prop) → Prop
abbrev MF := Gm → (Ow → Prop) → Prop
abbrev MX := Gm → (Sv → Prop) → Prop
def owD : Ow → Option PyData
  | .lst ds => some (.list ds)
  | .dic kvs => some (dD kvs)
  | .dct _ => none
section
variable {T : Tx} {B H B' H' B0 H0 : Hp} {σ σ' : L2.St} {Γ Γ' : Gm}
theorem Stt.ntp {l : Addr} (s : Stt T B H) (h : H l = none) : ¬ tpA T l := fun ⟨s', e⟩ => by
  obtain ⟨h1, _⟩ := s.tp l s' e
  exact h1.ne h rfl
theorem Gr.back (g : Gr T B H B' H') {l : Addr} (h : H' l = none) : H l = none := by
  cases e : H l with
  | none => rfl
  | some o =>
    obtain ⟨_, o', h'⟩ := g.nw l o e
    rw [h'] at h; cases h
/-- a thing that is not in the base is changed -/
theorem Gr.mut (g : Gr T B H B' H') {l : Addr} {o : HO} (hl : H l = none) (hb : B' l = none) (nt : ¬ tpA T l) : Gr T B H B' (upd H' l o) := by
  refine ⟨⟨fun a u h => ?_, fun t s e => ?_⟩, g.sb, fun a u n h => ?_, fun a u h => ?_, g.fz⟩
  · rw [upd_ne (ne_of_none h hb)]; exact g.st.sub _ _ h
  · obtain ⟨h1, h2, h3⟩ := g.st.tp t s e
    have : l ≠ t := fun q => nt ⟨s, by rw [q]; exact e⟩
    exact ⟨h1.mut this, h2, h3⟩
  · rw [upd_ne (ne_of_none h hl)]; exact g.sh a u n h
  · have q := ne_of_none h hl
    rw [upd_ne q]; exact g.nw a u h
/-- it is taken into the base -/
theorem Gr.share (g : Gr T B H B' H') {l : Addr} {o : HO} (hl : H l = none) (hb : B' l = none) (nt : ¬ tpA T l) (ho : H' l = some o) (hf : ∀ f u, o ≠ .frz f (.dK u)) : Gr T B H (upd B' l o) H' := by
  refine ⟨⟨fun a u h => ?_, fun t s e => ?_⟩, g.sb.trans (same_upd hb), g.sh, fun a u h => ?_, fun a f u h => ?_⟩
  · by_cases q : a = l
    · subst q; rw [upd_same] at h; cases h; exact ho
    · rw [upd_ne q] at h; exact g.st.sub _ _ h
  · obtain ⟨h1, h2, h3⟩ := g.st.tp t s e
    have : t ≠ l := fun q => nt ⟨s, by rw [← q]; exact e⟩
    exact ⟨h1, h2.grow (same_upd hb), by rw [upd_ne this]; exact h3⟩
  · have q := ne_of_none h hl
    rw [upd_ne q]; exact g.nw a u h
  · by_cases q : a = l
    · subst q; rw [upd_same] at h; exact absurd (Option.some.inj h) (hf f u)
    · rw [upd_ne q] at h; exact g.fz a f u h
def owH (B : Hp) : Ow → HO → Prop
  | .lst ds, o => ∃ vs, o = .lst vs ∧ RpA B vs ds
  | .dic kvs, o => o = .dK (dkv kvs)
  | .dct kvs, o => o = .dT (kvs.map fun p => (p.1, .int p.2))
theorem OwOk.shared {l : Addr} {o : Ow} {d : PyData} (h : OwOk B H l o) (hb : B l = none) (e : owD o = some d) : ∃ u, H l = some u ∧ (∀ f v, u ≠ .frz f (.dK v)) ∧ Rp (upd B l u) (.ref l) d := by
  cases o with
  | lst ds =>
    cases e
    obtain ⟨vs, h1, h2⟩ := h
    exact ⟨_, h1, fun _ _ e => (nomatch e), .lst upd_same (h2.grow (same_upd hb))⟩
  | dic kvs =>
    cases e
    exact ⟨_, h, fun _ _ e => (nomatch e), .dic (.inl upd_same)⟩
  | dct kvs => cases e
structure Ev (T : Tx) (B0 H0 B H : Hp) (σ : L2.St) (Γ : Gm) : Prop where
  gr : Gr T B0 H0 B H
  env : En T B H σ Γ
  new : ∀ (i : Nat) (l : Addr) (o : Ow), σ[i]? = some (some (.ref l)) → Γ[i]? = some (.own o) → H0 l = none
  inj : ∀ (i j : Nat) (l : Addr) (o o' : Ow), σ[i]? = some (some (.ref l)) → σ[j]? = some (some (.ref l)) → Γ[i]? = some (.own o) → Γ[j]? = some (.own o') → i = j
theorem Ev.st (e : Ev T B0 H0 B H σ Γ) : Stt T B H := e.gr.st
theorem Ev.grow (e : Ev T B0 H0 B H σ Γ) (g : Gr T B H B' H') : Ev T B0 H0 B' H' σ Γ := ⟨e.gr.trans g, e.env.grow g, e.new, e.inj⟩
/-- slots set otherwise, no own thing new -/
def Sbo (σ : L2.St) (Γ : Gm) (σ' : L2.St) (Γ' : Gm) : Prop := ∀ (i : Nat) (o : Ow), Γ'[i]? = some (.own o) → Γ[i]? = some (.own o) ∧ σ'[i]? = σ[i]?
theorem Sbo.refl : Sbo σ Γ σ Γ := fun _ _ h => ⟨h, rfl⟩
theorem Sbo.trans {σ'' : L2.St} {Γ'' : Gm} (a : Sbo σ Γ σ' Γ') (b : Sbo σ' Γ' σ'' Γ'') : Sbo σ Γ σ'' Γ'' := fun i o h => by
  obtain ⟨h1, h2⟩ := b i o h
  obtain ⟨h3, h4⟩ := a i o h1
  exact ⟨h3, h2.trans h4⟩
theorem Ev.sbo (e : Ev T B0 H0 B H σ Γ) (n : En T B H σ' Γ') (s : Sbo σ Γ σ' Γ') : Ev T B0 H0 B H σ' Γ' :=
  ⟨e.gr, n, fun i l o h1 h2 => by obtain ⟨a, b⟩ := s i o h2; exact e.new i l o (b ▸ h1) a, fun i j l o o' h1 h2 h3 h4 => by
    obtain ⟨a, b⟩ := s i o h3
    obtain ⟨c, d⟩ := s j o' h4
    exact e.inj i j l o o' (b ▸ h1) (d ▸ h2) a c⟩
theorem sbo_set {i : Nat} {x : Option V} {g : Sv} (hg : ∀ o, g ≠ .own o) : Sbo σ Γ (σ.set i x) (Γ.set i g) := fun j o h => by
  by_cases e : i = j
  · subst e
    obtain ⟨hi, _⟩ := List.getElem?_eq_some_iff.mp h
    rw [List.length_set] at hi
    rw [List.getElem?_set_self hi] at h
    exact absurd (Option.some.inj h) (hg o)
  · rw [List.getElem?_set_ne e] at h ⊢
    exact ⟨h, rfl⟩
/-- a slot set: its thing, if its own, is new -/
theorem Ev.put (e : Ev T B0 H0 B H σ Γ) {i : Nat} {v : V} {g : Sv} (k : SvOk T B H (some v) g) (hn : ∀ l o, g = .own o → v = .ref l → H0 l = none ∧ ∀ (j : Nat) (o' : Ow), j ≠ i → σ[j]? = some (some (.ref l)) → Γ[j]? ≠ some (.own o')) :
    Ev T B0 H0 B H (σ.set i (some v)) (Γ.set i g) := by
  have hs : ∀ (j : Nat) (l : Addr) (o : Ow), (σ.set i (some v))[j]? = some (some (.ref l)) → (Γ.set i g)[j]? = some (.own o) → (j = i ∧ v = .ref l ∧ g = .own o) ∨ (j ≠ i ∧ σ[j]? = some (some (.ref l)) ∧ Γ[j]? = some (.own o)) := fun j l o h1 h2 => by
    by_cases q : i = j
    · subst q
      obtain ⟨hi, _⟩ := List.getElem?_eq_some_iff.mp h1
      obtain ⟨hj, _⟩ := List.getElem?_eq_some_iff.mp h2
      rw [List.length_set] at hi hj
      rw [List.getElem?_set_self hi] at h1
      rw [List.getElem?_set_self hj] at h2
      exact .inl ⟨rfl, Option.some.inj (Option.some.inj h1), Option.some.inj h2⟩
    · rw [List.getElem?_set_ne q] at h1 h2
      exact .inr ⟨Ne.symm q, h1, h2⟩
  refine ⟨e.gr, e.env.set k, fun j l o h1 h2 => ?_, fun a b l o o' h1 h2 h3 h4 => ?_⟩
  · rcases hs j l o h1 h2 with ⟨_, q1, q2⟩ | ⟨_, q1, q2⟩
    · exact (hn l o q2 q1).1
    · exact e.new j l o q1 q2
  · rcases hs a l o h1 h3 with ⟨q0, q1, q2⟩ | ⟨q0, q1, q2⟩ <;> rcases hs b l o' h2 h4 with ⟨p0, p1, p2⟩ | ⟨p0, p1, p2⟩
    · rw [q0, p0]
    · exact absurd p2 ((hn l o q2 q1).2 b o' p0 p1)
    · exact absurd q2 ((hn l o' p2 p1).2 a o q0 q1)
    · exact e.inj a b l o o' q1 p1 q2 p2
/-- an own thing changed -/
theorem Ev.mut (e : Ev T B0 H0 B H σ Γ) {i : Nat} {l : Addr} {o o' : Ow} {c : HO} (h1 : σ[i]? = some (some (.ref l))) (h2 : Γ[i]? = some (.own o)) (k : OwOk B (upd H l c) l o') : Ev T B0 H0 B (upd H l c) σ (Γ.set i (.own o')) := by
  obtain ⟨l', el, hb, nt, ok⟩ := e.env.ok i _ _ h1 h2
  cases el
  have hl := e.new i l o h1 h2
  have hs : ∀ (j : Nat) (o'' : Ow), (Γ.set i (.own o'))[j]? = some (.own o'') → ∃ u, Γ[j]? = some (.own u) := fun j o'' h => by
    by_cases q : i = j
    · subst q; exact ⟨_, h2⟩
    · rw [List.getElem?_set_ne q] at h; exact ⟨_, h⟩
  refine ⟨e.gr.mut hl hb nt, ⟨by rw [List.length_set]; exact e.env.len, fun j x g hx hg => ?_⟩, fun j l' o'' h3 h4 => ?_, fun a b l' o1 o2 h3 h4 h5 h6 => ?_⟩
  · by_cases q : i = j
    · subst q
      obtain ⟨hi, _⟩ := List.getElem?_eq_some_iff.mp hg
      rw [List.length_set] at hi
      rw [List.getElem?_set_self hi] at hg
      cases hg
      rw [h1] at hx; cases hx
      exact ⟨l, rfl, hb, nt, k⟩
    · rw [List.getElem?_set_ne q] at hg
      have := e.env.ok j x g hx hg
      cases g with
      | no => trivial
      | dat d => exact this
      | tape => exact this
      | own u =>
        obtain ⟨l2, rfl, hb2, nt2, ok2⟩ := this
        have hne : l2 ≠ l := fun z => q (e.inj i j l o u h1 (by rw [hx, z]) h2 hg)
        exact ⟨l2, rfl, hb2, nt2, ok2.grow (Same.refl _) fun w hw => by rw [upd_ne hne]; exact hw⟩
  · obtain ⟨u, hu⟩ := hs j o'' h4
    exact e.new j l' u h3 hu
  · obtain ⟨u, hu⟩ := hs a o1 h5
    obtain ⟨w, hw⟩ := hs b o2 h6
    exact e.inj a b l' u w h3 h4 hu hw
theorem Ev.own (e : Ev T B0 H0 B H σ Γ) {i : Nat} {o : Ow} (h : Γ[i]? = some (.own o)) : ∃ l, σ[i]? = some (some (.ref l)) ∧ B l = none ∧ ¬ tpA T l ∧ OwOk B H l o ∧ H0 l = none := by
  obtain ⟨x, hx, l, rfl, h1, h2, h3⟩ := e.env.at h
  exact ⟨l, hx, h1, h2, h3, e.new i l o hx h⟩
/-- an own thing shared -/
theorem Ev.share (e : Ev T B0 H0 B H σ Γ) {i : Nat} {o : Ow} {d : PyData} (h : Γ[i]? = some (.own o)) (hd : owD o = some d) : ∃ B', Same B B' ∧ Ev T B0 H0 B' H σ (Γ.set i (.dat d)) := by
  obtain ⟨l, hx, hb, nt, ok, hl⟩ := e.own h
  obtain ⟨u, hu, hf, r⟩ := ok.shared hb hd
  have sb := same_upd (o := u) hb
  refine ⟨upd B l u, sb, e.gr.share hl hb nt hu hf, ⟨by rw [List.length_set]; exact e.env.len, fun j x g hx' hg => ?_⟩, fun j l' o'' h3 h4 => ?_, fun a b l' o1 o2 h3 h4 h5 h6 => ?_⟩
  · by_cases q : i = j
    · subst q
      obtain ⟨hi, _⟩ := List.getElem?_eq_some_iff.mp hg
      rw [List.length_set] at hi
      rw [List.getElem?_set_self hi] at hg
      cases hg
      rw [hx] at hx'; cases hx'
      exact ⟨_, rfl, r⟩
    · rw [List.getElem?_set_ne q] at hg
      have := e.env.ok j x g hx' hg
      cases g with
      | no => trivial
      | dat d => obtain ⟨v, e1, e2⟩ := this; exact ⟨v, e1, e2.grow sb⟩
      | tape => exact this
      | own w =>
        obtain ⟨l2, rfl, hb2, nt2, ok2⟩ := this
        have hne : l2 ≠ l := fun z => q (e.inj i j l o w hx (by rw [hx', z]) h hg)
        exact ⟨l2, rfl, by rw [upd_ne hne]; exact hb2, nt2, ok2.grow sb fun _ h => h⟩
  · by_cases q : i = j
    · subst q
      obtain ⟨hi, _⟩ := List.getElem?_eq_some_iff.mp h4
      rw [List.length_set] at hi
      rw [List.getElem?_set_self hi] at h4; cases h4
    · rw [List.getElem?_set_ne q] at h4; exact e.new j l' o'' h3 h4
  · have go : ∀ (j : Nat) (o : Ow), (Γ.set i (.dat d))[j]? = some (.own o) → Γ[j]? = some (.own o) := fun j o h => by
      by_cases q : i = j
      · subst q
        obtain ⟨hi, _⟩ := List.getElem?_eq_some_iff.mp h
        rw [List.length_set] at hi
        rw [List.getElem?_set_self hi] at h; cases h
      · rw [List.getElem?_set_ne q] at h; exact h
    exact e.inj a b l' o1 o2 h3 h4 (go _ _ h5) (go _ _ h6)
end
/-! ### judgements -/
/-- an expression that gives a new thing -/
def RF (z : Bool) (te : TE) (m : MF) : Prop := ∀ T Γ σ B H P Q, Stt T B H → (z = true → NoFz B) → En T B H σ Γ → m Γ P → (∀ o l B' H', P o → Gr T B H B' H' → H l = none → B' l = none → OwOk B' H' l o → Q (.ref l) H') → te σ H Q
def mOf (m : MF) : ME := fun Γ P => m Γ fun o => ∃ d, owD o = some d ∧ P d
def RX (z : Bool) (te : TE) (m : MX) : Prop := ∀ T Γ σ B H P Q, Stt T B H → (z = true → NoFz B) → En T B H σ Γ → m Γ P → (∀ g v B' H', P g → Gr T B H B' H' → SvOk T B' H' (some v) g → (∀ l o, g = .own o → v = .ref l → H l = none) → Q v H') → te σ H Q
def xD (m : ME) : MX := fun Γ P => m Γ fun d => P (.dat d)
def xO (m : MF) : MX := fun Γ P => m Γ fun o => P (.own o)
/-- a turn's item: data, or a pair made for the turn -/
def WP (w : Bool) (B : Hp) (x : V) (d : PyData) : Prop := Rp B x d ∨ (w = true ∧ ∃ p a b d1 d2, x = .ref p ∧ B p = some (.tup [a, b]) ∧ d = .tuple [d1, d2] ∧ Rp B a d1 ∧ Rp B b d2)
def unT : PyData → Option (List PyData)
  | .tuple ds => some ds
  | .dict [(.str x, .str y)] => some [.str x, .str y]
  | _ => none
def RG (w : Bool) (vs : List Nat) (g : TG) (m : MG) : Prop := ∀ T B H σ Γ x d P Q, Stt T B H → En T B H σ Γ → WP w B x d → m d Γ P → (∀ σ' Γ', P Γ' → En T B H σ' Γ' → Sbo σ Γ σ' Γ' → L2.wipe σ' vs = L2.wipe σ vs → Q σ' H) → g x σ H Q
def RGs (vs : List Nat) (g : TGs) (m : List PyData → Gm → (Gm → Prop) → Prop) : Prop := ∀ T B H σ Γ xs ds P Q, Stt T B H → En T B H σ Γ → RpA B xs ds → m ds Γ P → (∀ σ' Γ', P Γ' → En T B H σ' Γ' → Sbo σ Γ σ' Γ' → L2.wipe σ' vs = L2.wipe σ vs → Q σ' H) → g xs σ H Q
def FreshL (H0 : Hp) (v : V) (B : Hp) (d : PyData) : Prop := ∃ l vs ds, v = .ref l ∧ d = .list ds ∧ H0 l = none ∧ B l = some (.lst vs) ∧ RpA (del B l) vs ds
def RS (z fr : Bool) (ts : TS) (m : MS) : Prop := ∀ T B0 H0 Γ σ B H P (D : Ends), (z = true → NoFz B0) → Ev T B0 H0 B H σ Γ → m Γ P → (∀ Γ' σ' B' H', P (.nx Γ') → Same B B' → Ev T B0 H0 B' H' σ' Γ' → D.nx σ' H') →
  (∀ d v B' H', P (.rt d) → Gr T B0 H0 B' H' → Rp B' v d → (fr = true → FreshL H0 v B' d) → D.rt v H') → ts D σ H
section
variable {z fr : Bool} {te ta tb tc : TE} {m a b c : ME} {ts tu : TS} {s u : MS}
theorem RF.x {f : MF} (h : RF z te f) : RX z te (xO f) := fun T Γ σ B H P Q s nz e hm k => h T Γ σ B H _ _ s nz e hm fun o l B' H' hp g hl hb ok =>
  k _ _ _ _ hp g ⟨l, rfl, hb, s.ntp hl, ok⟩ fun l' o' _ e => by cases e; exact hl
theorem RE.x (h : RE z te m) : RX z te (xD m) := fun T Γ σ B H P Q s nz e hm k => h T Γ σ B H _ _ s nz e hm fun d v B' H' hp g r =>
  k _ _ _ _ hp g ⟨v, rfl, r⟩ fun l' o' e _ => nomatch e
theorem RF.re {f : MF} (h : RF z te f) : RE z te (mOf f) := fun T Γ σ B H P Q s nz e hm k => h T Γ σ B H _ _ s nz e hm fun o l B' H' ⟨d, hd, hp⟩ g hl hb ok => by
  obtain ⟨u, hu, hf, r⟩ := ok.shared hb hd
  exact k d _ _ _ hp (g.share hl hb (s.ntp hl) hu hf) r
/-- x = e -/
def mSet (i : Nat) (m : MX) : MS := fun Γ P => m Γ fun g => P (.nx (Γ.set i g))
theorem own_ne {T : Tx} {B H B0 H0 B' H' : Hp} {σ : L2.St} {Γ : Gm} (e : Ev T B0 H0 B H σ Γ) {l : Addr} (hl : H l = none) : H0 l = none ∧ ∀ (j : Nat) (o' : Ow), σ[j]? = some (some (.ref l)) → Γ[j]? ≠ some (.own o') :=
  ⟨e.gr.back hl, fun j o' h1 h2 => by
    obtain ⟨l', h3, _, _, ok, _⟩ := e.own h2
    rw [h1] at h3; cases h3
    obtain ⟨u, hu⟩ := ok.get
    rw [hl] at hu; cases hu⟩
theorem rs_set {i : Nat} {x : MX} (h : RX z te x) : RS z fr (tAsg te (gName i)) (mSet i x) := fun T B0 H0 Γ σ B H P D nz e hm kn kr =>
  h T Γ σ B H _ _ e.st (fun z => e.gr.nofz (nz z)) e.env hm fun g v B' H' hp gr ok hn => kn _ _ _ _ hp gr.sb ((e.grow gr).put ok fun l o e1 e2 => by
    have hl := hn l o e1 e2
    obtain ⟨q1, q2⟩ := own_ne (B' := B') (H' := H') e hl
    exact ⟨q1, fun j o' _ => q2 j o'⟩)
def mPar (i j : Nat) (a b : MX) : MS := fun Γ P => a Γ fun g => b Γ fun g' => P (.nx ((Γ.set i g).set j g'))
theorem rs_par {i j : Nat} {a b : MX} (hij : i ≠ j) (ha : RX z ta a) (hb : RX z tb b) : RS z fr (tPar i j (tCons ta (tCons tb tNil))) (mPar i j a b) := fun T B0 H0 Γ σ B H P D nz e hm kn kr =>
  ha T Γ σ B H _ _ e.st (fun z => e.gr.nofz (nz z)) e.env hm fun g v B1 H1 hp g1 ok1 hn1 => hb T Γ σ B1 H1 _ _ g1.st (fun z => (e.gr.trans g1).nofz (nz z)) (e.env.grow g1) hp fun g' v' B2 H2 hp2 g2 ok2 hn2 =>
    ⟨v, v', rfl, kn _ _ _ _ hp2 (g1.sb.trans g2.sb) ((((e.grow g1).grow g2).put (ok1.grow g2) fun l o e1 e2 => by
      obtain ⟨q1, q2⟩ := own_ne (B' := B1) (H' := H1) e (hn1 l o e1 e2)
      exact ⟨q1, fun j o' _ => q2 j o'⟩).put ok2 fun l o e1 e2 => by
      have hl := hn2 l o e1 e2
      obtain ⟨q1, q2⟩ := own_ne (B' := B1) (H' := H1) (e.grow g1) hl
      refine ⟨q1, fun k o' hk h1 h2 => ?_⟩
      by_cases q : i = k
      · subst q
        obtain ⟨hi, _⟩ := List.getElem?_eq_some_iff.mp h1
        obtain ⟨hj, _⟩ := List.getElem?_eq_some_iff.mp h2
        rw [List.length_set] at hi hj
        rw [List.getElem?_set_self hi] at h1
        rw [List.getElem?_set_self hj] at h2
        cases h1; cases h2
        obtain ⟨l', e3, _, _, ok⟩ := ok1
        cases e3
        obtain ⟨u, hu⟩ := ok.get
        rw [hl] at hu; cases hu
      · rw [List.getElem?_set_ne q] at h1 h2
        exact q2 k o' h1 h2)⟩
def mPar3 (i j l : Nat) (a b c : MX) : MS := fun Γ P => a Γ fun g => b Γ fun g' => c Γ fun g'' => P (.nx (((Γ.set i g).set j g').set l g''))
theorem Ev.put2 {T : Tx} {B0 H0 B H B1 H1 : Hp} {σ : L2.St} {Γ : Gm} {v : V} {g : Sv} {i : Nat} (e : Ev T B0 H0 B H σ Γ) (g1 : Gr T B H B1 H1) (ok : SvOk T B1 H1 (some v) g) (hn : ∀ l o, g = .own o → v = .ref l → H l = none) : Ev T B0 H0 B1 H1 (σ.set i (some v)) (Γ.set i g) :=
  (e.grow g1).put ok fun l o e1 e2 => by
    obtain ⟨q1, q2⟩ := own_ne (B' := B1) (H' := H1) e (hn l o e1 e2)
    exact ⟨q1, fun j o' _ => q2 j o'⟩
theorem rs_par3 {i j l : Nat} {a b c : MX} (ha : RX z ta a) (hb : RX z tb b) (hc : RX z tc c) : RS z fr (tPar3 i j l (tCons ta (tCons tb (tCons tc tNil)))) (mPar3 i j l a b c) := fun T B0 H0 Γ σ B H P D nz e hm kn kr =>
  ha T Γ σ B H _ _ e.st (fun z => e.gr.nofz (nz z)) e.env hm fun g v B1 H1 hp g1 ok1 hn1 => hb T Γ σ B1 H1 _ _ g1.st (fun z => (e.gr.trans g1).nofz (nz z)) (e.env.grow g1) hp fun g' v' B2 H2 hp2 g2 ok2 hn2 =>
    hc T Γ σ B2 H2 _ _ g2.st (fun z => ((e.gr.trans g1).trans g2).nofz (nz z)) (e.env.grow (g1.trans g2)) hp2 fun g'' v'' B3 H3 hp3 g3 ok3 hn3 =>
    ⟨v, v', v'', rfl, kn _ _ _ _ hp3 ((g1.sb.trans g2.sb).trans g3.sb) (((e.put2 g1 ok1 hn1).put2 g2 ok2 hn2).put2 g3 ok3 hn3)⟩
theorem rs_par' {i j : Nat} {a b : MX} (ha : RX z ta a) (hb : RX z tb b) : RS z fr (tPar i j (tCons ta (tCons tb tNil))) (mPar i j a b) := fun T B0 H0 Γ σ B H P D nz e hm kn kr =>
  ha T Γ σ B H _ _ e.st (fun z => e.gr.nofz (nz z)) e.env hm fun g v B1 H1 hp g1 ok1 hn1 => hb T Γ σ B1 H1 _ _ g1.st (fun z => (e.gr.trans g1).nofz (nz z)) (e.env.grow g1) hp fun g' v' B2 H2 hp2 g2 ok2 hn2 =>
    ⟨v, v', rfl, kn _ _ _ _ hp2 (g1.sb.trans g2.sb) ((e.put2 g1 ok1 hn1).put2 g2 ok2 hn2)⟩
/-- targets -/
def gN (i : Nat) : MG := fun d Γ P => P (Γ.set i (.dat d))
def gT (n : Nat) (r : List PyData → Gm → (Gm → Prop) → Prop) : MG := fun d Γ P => ∃ ds, unT d = some ds ∧ ds.length = n ∧ r ds Γ P
def gs0 : List PyData → Gm → (Gm → Prop) → Prop := fun ds Γ P => ds = [] ∧ P Γ
def gs1 (g : MG) (r : List PyData → Gm → (Gm → Prop) → Prop) : List PyData → Gm → (Gm → Prop) → Prop := fun ds Γ P => ∃ d rs, ds = d :: rs ∧ g d Γ fun Γ' => r rs Γ' P
theorem wipe_set {σ : L2.St} {i : Nat} {x : Option V} : ∀ {vs : List Nat}, i ∈ vs → L2.wipe (σ.set i x) vs = L2.wipe σ vs
  | [], h => nomatch h
  | v :: vs, h => by
    unfold L2.wipe
    by_cases q : i ∈ vs
    · rw [wipe_set q]
    · have e : i = v := (List.mem_cons.mp h).resolve_right q
      subst e
      have : ∀ vs : List Nat, (L2.wipe (σ.set i x) vs).set i none = (L2.wipe σ vs).set i none := by
        intro vs
        induction vs with
        | nil => show (σ.set i x).set i none = σ.set i none; rw [List.set_set]
        | cons w ws ih =>
          unfold L2.wipe
          by_cases q2 : w = i
          · subst q2; rw [List.set_set, List.set_set]; exact ih
          · rw [List.set_comm _ _ q2, ih, List.set_comm _ _ (Ne.symm q2)]
      exact this vs
theorem wipe_wipe {σ : L2.St} : ∀ {vs : List Nat} (ws : List Nat), (∀ v ∈ ws, v ∈ vs) → L2.wipe (L2.wipe σ ws) vs = L2.wipe σ vs
  | vs, [], _ => rfl
  | vs, w :: ws, h => by
    show L2.wipe ((L2.wipe σ ws).set w none) vs = _
    rw [wipe_set (h w (List.mem_cons_self ..)), wipe_wipe ws fun v hv => h v (List.mem_cons_of_mem _ hv)]
theorem rg_name {vs : List Nat} {i : Nat} (hi : i ∈ vs) : RG false vs (gName i) (gN i) := fun T B H σ Γ x d P Q s e r hm k => by
  have r := r.resolve_right fun h => nomatch h.1
  exact k _ _ hm (e.set ⟨x, rfl, r⟩) (sbo_set fun _ e => nomatch e) (wipe_set hi)
theorem rgs_nil {vs : List Nat} : RGs vs gNil gs0 := fun T B H σ Γ xs ds P Q s e r ⟨h1, h2⟩ k => by
  subst h1; cases r
  exact ⟨rfl, k _ _ h2 e Sbo.refl rfl⟩
theorem rgs_cons {vs : List Nat} {g : TG} {gs : TGs} {mg : MG} {ms : List PyData → Gm → (Gm → Prop) → Prop} (h : RG false vs g mg) (hr : RGs vs gs ms) : RGs vs (gCons g gs) (gs1 mg ms) := fun T B H σ Γ xs ds P Q s e r ⟨d, rs, h1, h2⟩ k => by
  subst h1
  cases r with
  | cons r1 r2 => exact ⟨_, _, rfl, h T B H σ Γ _ _ _ _ s e (.inl r1) h2 fun σ' Γ' hp e' sb w => hr T B H σ' Γ' _ _ _ _ s e' r2 hp fun σ'' Γ'' hp' e'' sb' w' => k _ _ hp' e'' (sb.trans sb') (w'.trans w)⟩
theorem unT_inv {d : PyData} {ds : List PyData} (h : unT d = some ds) : d = .tuple ds ∨ ∃ x y, d = wpD x y ∧ ds = [.str x, .str y] := by
  unfold unT at h
  split at h
  · cases h; exact .inl rfl
  · cases h; exact .inr ⟨_, _, rfl, rfl⟩
  · cases h
theorem WP.un {w : Bool} {B H : Hp} {x : V} {d : PyData} {ds : List PyData} {K : PySem.W.Frag} (r : WP w B x d) (s : Same B H) (h : unT d = some ds) : ∃ a xs, x = .ref a ∧ SqT K H a xs ∧ RpA B xs ds := by
  rcases r with r | ⟨_, p, a, b, d1, d2, rfl, hp, rfl, r1, r2⟩
  · rcases unT_inv h with rfl | ⟨x, y, rfl, rfl⟩
    · obtain ⟨a, o, xs, rfl, ha, _, hr⟩ := r.tup_inv
      exact ⟨a, xs, rfl, .inl (.inr ⟨o, s _ _ ha⟩), hr⟩
    · obtain ⟨a, rfl, ha⟩ := r.wp_inv rfl
      exact ⟨a, _, rfl, .of (s _ _ ha), .cons (.str x) (.cons (.str y) .nil)⟩
  · cases h
    exact ⟨p, _, rfl, .of (s _ _ hp), .cons r1 (.cons r2 .nil)⟩
theorem rg_tup {w : Bool} {vs : List Nat} {K : PySem.W.Frag} {n : Nat} {gs : TGs} {ms : List PyData → Gm → (Gm → Prop) → Prop} (h : RGs vs gs ms) : RG w vs (gTup K n gs) (gT n ms) := fun T B H σ Γ x d P Q s e r ⟨ds, h1, h2, h3⟩ k => by
  obtain ⟨a, xs, rfl, ha, hr⟩ := r.un (K := K) s.sub h1
  exact ⟨a, xs, rfl, ha, by rw [hr.length]; exact h2, h T B H σ Γ _ _ _ _ s e hr h3 k⟩
def mAsgG (m : ME) (g : MG) : MS := fun Γ P => m Γ fun d => g d Γ fun Γ' => P (.nx Γ')
theorem rs_asgG {vs : List Nat} {g : TG} {mg : MG} (h : RE z te m) (hg : RG false vs g mg) : RS z fr (tAsg te g) (mAsgG m mg) := fun T B0 H0 Γ σ B H P D nz e hm kn kr =>
  h T Γ σ B H _ _ e.st (fun z => e.gr.nofz (nz z)) e.env hm fun d v B' H' hp gr r => hg T B' H' σ Γ v d _ _ gr.st (e.env.grow gr) (.inl r) hp fun σ' Γ' hp' e' sb _ => kn _ _ _ _ hp' gr.sb ((e.grow gr).sbo e' sb)
/-- the flow -/
def mSeq (a b : MS) : MS := fun Γ P => a Γ fun o => match o with
  | .nx Γ' => b Γ' P
  | .rt d => P (.rt d)
theorem rs_seq (h : RS z fr ts s) (h' : RS z fr tu u) : RS z fr (tSeq ts tu) (mSeq s u) := fun T B0 H0 Γ σ B H P D nz e hm kn kr =>
  h T B0 H0 Γ σ B H _ _ nz e hm (fun Γ' σ' B' H' hp sb e' => h' T B0 H0 Γ' σ' B' H' P D nz e' hp (fun Γ2 σ2 B2 H2 hp2 sb2 => kn Γ2 σ2 B2 H2 hp2 (sb.trans sb2)) kr) kr
def mCut (a b : MS) : MS := fun Γ P => ∃ M : Gm → Prop, (a Γ fun o => match o with
  | .nx Γ' => M Γ'
  | .rt d => P (.rt d)) ∧ ∀ Γ', M Γ' → b Γ' P
theorem rs_cut (h : RS z fr ts s) (h' : RS z fr tu u) : RS z fr (Evl.tCut ts tu) (mCut s u) := fun T B0 H0 Γ σ B H P D nz e ⟨M, hm, hM⟩ kn kr =>
  ⟨fun σ' H' => ∃ Γ' B', M Γ' ∧ Same B B' ∧ Ev T B0 H0 B' H' σ' Γ', h T B0 H0 Γ σ B H _ _ nz e hm (fun Γ' σ' B' H' hp sb e' => ⟨Γ', B', hp, sb, e'⟩) kr, fun σ' H' ⟨Γ', B', hp, sb, e'⟩ => h' T B0 H0 Γ' σ' B' H' P D nz e' (hM _ hp) (fun Γ2 σ2 B2 H2 hp2 sb2 => kn Γ2 σ2 B2 H2 hp2 (sb.trans sb2)) kr⟩
def mNext : MS := fun Γ P => P (.nx Γ)
theorem rs_next : RS z fr tNext mNext := fun T B0 H0 Γ σ B H P D nz e hm kn kr => kn _ _ _ _ hm (Same.refl _) e
def mIfS (c : MT) (a b : MS) : MS := fun Γ P => c Γ fun k => if k = true then a Γ P else b Γ P
theorem rs_if {t : TT} {mt : MT} (ht : RT z t mt) (h : RS z fr ts s) (h' : RS z fr tu u) : RS z fr (tIfS t ts tu) (mIfS mt s u) := fun T B0 H0 Γ σ B H P D nz e hm kn kr =>
  ht T Γ σ B H _ _ e.st (fun z => e.gr.nofz (nz z)) e.env hm fun k B1 H1 h1 g1 => by
    cases k with
    | true =>
      rw [if_pos rfl] at h1 ⊢
      exact h T B0 H0 Γ σ B1 H1 P D nz (e.grow g1) h1 (fun Γ2 σ2 B2 H2 hp2 sb2 => kn Γ2 σ2 B2 H2 hp2 (g1.sb.trans sb2)) kr
    | false =>
      rw [if_neg Bool.false_ne_true] at h1 ⊢
      exact h' T B0 H0 Γ σ B1 H1 P D nz (e.grow g1) h1 (fun Γ2 σ2 B2 H2 hp2 sb2 => kn Γ2 σ2 B2 H2 hp2 (g1.sb.trans sb2)) kr
def mRet (m : ME) : MS := fun Γ P => m Γ fun d => P (.rt d)
theorem rs_ret (h : RE z te m) : RS z false (tRet te) (mRet m) := fun T B0 H0 Γ σ B H P D nz e hm kn kr =>
  h T Γ σ B H _ _ e.st (fun z => e.gr.nofz (nz z)) e.env hm fun d v B' H' hp gr r => kr _ _ _ _ hp (e.gr.trans gr) r fun e => nomatch e
def mRetF (m : MF) : MS := fun Γ P => m Γ fun o => ∃ ds, o = .lst ds ∧ P (.rt (.list ds))
theorem fresh_of {T : Tx} {B0 H0 B H : Hp} {l : Addr} {ds : List PyData} (g : Gr T B0 H0 B H) (hl : H0 l = none) (hb : B l = none) (nt : ¬ tpA T l) (ok : OwOk B H l (.lst ds)) : ∃ B', Gr T B0 H0 B' H ∧ Rp B' (.ref l) (.list ds) ∧ FreshL H0 (.ref l) B' (.list ds) := by
  obtain ⟨vs, h1, h2⟩ := ok
  refine ⟨upd B l (.lst vs), g.share hl hb nt h1 (fun _ _ e => nomatch e), .lst upd_same (h2.grow (same_upd hb)), l, vs, ds, rfl, rfl, hl, upd_same, ?_⟩
  rw [del_upd, del_none hb]; exact h2
theorem rs_retF {f : MF} (h : RF z te f) : RS z fr (tRet te) (mRetF f) := fun T B0 H0 Γ σ B H P D nz e hm kn kr =>
  h T Γ σ B H _ _ e.st (fun z => e.gr.nofz (nz z)) e.env hm fun o l B' H' ⟨ds, ho, hp⟩ gr hl hb ok => by
    subst ho
    obtain ⟨B2, g2, r2, f2⟩ := fresh_of (e.gr.trans gr) (e.gr.back hl) hb (e.st.ntp hl) ok
    exact kr _ _ _ _ hp g2 r2 fun _ => f2
/-- return found, found its own list -/
def mRetO (i : Nat) : MS := fun Γ P => ∃ ds, Γ[i]? = some (.own (.lst ds)) ∧ P (.rt (.list ds))
theorem rs_retO {i : Nat} : RS z fr (tRet (tVar i)) (mRetO i) := fun T B0 H0 Γ σ B H P D nz e ⟨ds, h1, h2⟩ kn kr => by
  obtain ⟨l, hx, hb, nt, ok, hl⟩ := e.own h1
  obtain ⟨B2, g2, r2, f2⟩ := fresh_of e.gr hl hb nt ok
  exact ⟨_, hx, kr _ _ _ _ h2 g2 r2 fun _ => f2⟩
def mShare (i : Nat) (m : MS) : MS := fun Γ P => ∃ o d, Γ[i]? = some (.own o) ∧ owD o = some d ∧ m (Γ.set i (.dat d)) P
theorem rs_share {i : Nat} (h : RS z fr ts s) : RS z fr ts (mShare i s) := fun T B0 H0 Γ σ B H P D nz e ⟨o, d, h1, h2, h3⟩ kn kr => by
  obtain ⟨B', sb, e'⟩ := e.share h1 h2
  exact h T B0 H0 _ σ B' H P D nz e' h3 (fun Γ2 σ2 B2 H2 hp2 sb2 => kn Γ2 σ2 B2 H2 hp2 (sb.trans sb2)) kr
def mDrop (m : ME) : MS := fun Γ P => m Γ fun _ => P (.nx Γ)
theorem rs_drop (h : RE z te m) : RS z fr (tDrop te) (mDrop m) := fun T B0 H0 Γ σ B H P D nz e hm kn kr =>
  h T Γ σ B H _ _ e.st (fun z => e.gr.nofz (nz z)) e.env hm fun d v B' H' hp gr r => kn _ _ _ _ hp gr.sb (e.grow gr)
/-! ### what is walked -/
def YD (w : Bool) (B H : Hp) (x : V) (H' : Hp) (d : PyData) : Prop := (H' = H ∧ Rp B x d) ∨ (w = true ∧ ∃ p a b d1 d2, x = .ref p ∧ H p = none ∧ H' = upd H p (.tup [a, b]) ∧ d = .tuple [d1, d2] ∧ Rp B a d1 ∧ Rp B b d2)
def WalkD (w : Bool) (J : It) (xs : List PyData) (B : Hp) : Prop := Walk J xs.length (fun H => Same B H) fun i H x H' => ∃ d, xs[i]? = some d ∧ YD w B H x H' d
def RI (z w : Bool) (it : TI) (m : MA) : Prop := ∀ T Γ σ B H P R, Stt T B H → (z = true → NoFz B) → En T B H σ Γ → m Γ P → (∀ xs J B' H', P xs → Gr T B H B' H' → WalkD w J xs B' → R J H') → it σ H R
/-- a turn's item, the heap behind it -/
theorem YD.step {w : Bool} {T : Tx} {B1 B H H' : Hp} {x : V} {d : PyData} (s : Stt T B H) (sb : Same B1 B) (y : YD w B1 H x H' d) : ∃ B', Gr T B H B' H' ∧ WP w B' x d := by
  rcases y with ⟨rfl, r⟩ | ⟨hw, p, a, b, d1, d2, rfl, hp, rfl, rfl, r1, r2⟩
  · exact ⟨B, .refl s, .inl (r.grow sb)⟩
  · have g := Gr.new (o := .tup [a, b]) s hp (fun _ _ e => nomatch e)
    exact ⟨_, g, .inr ⟨hw, p, a, b, d1, d2, rfl, upd_same, rfl, (r1.grow sb).grow g.sb, (r2.grow sb).grow g.sb⟩⟩
def mFor (it : MA) (g : MG) (b : MS) : MS := fun Γ P => it Γ fun xs => ∃ I : Nat → Gm → Prop, I 0 Γ ∧ (∀ (j : Nat) (x : PyData) (Γ1 : Gm), xs[j]? = some x → I j Γ1 → g x Γ1 fun Γ2 => b Γ2 fun o => match o with
  | .nx Γ3 => I (j + 1) Γ3
  | .rt d => P (.rt d)) ∧ ∀ Γ1, I xs.length Γ1 → P (.nx Γ1)
theorem rs_for {w : Bool} {it : TI} {mi : MA} {vs : List Nat} {g : TG} {mg : MG} (hi : RI z w it mi) (hg : RG w vs g mg) (hb : RS z fr ts s) : RS z fr (tFor it g ts) (mFor mi mg s) := fun T B0 H0 Γ σ B H P D nz e hm kn kr =>
  hi T Γ σ B H _ _ e.st (fun z => e.gr.nofz (nz z)) e.env hm fun xs J B1 H1 ⟨I, i0, is, ie⟩ g1 w =>
    for_it w (fun j σ' H' => ∃ Γ' B', I j Γ' ∧ Same B1 B' ∧ Ev T B0 H0 B' H' σ' Γ') ⟨Γ, B1, i0, Same.refl _, e.grow g1⟩ (fun j σ' H' _ ⟨Γ', B', _, sb, e'⟩ => sb.trans e'.st.sub)
      (fun j x σ' H2 H2' hj ⟨Γ', B', hI, sb, e'⟩ ⟨d, hd, y⟩ => by
        obtain ⟨B2, g2, r⟩ := YD.step e'.st sb y
        have e2 := e'.grow g2
        exact hg T B2 H2' σ' Γ' x d _ _ e2.st e2.env r (is j d Γ' hd hI) fun σ3 Γ3 h3 e3 sb3 _ =>
          hb T B0 H0 Γ3 σ3 B2 H2' _ _ nz (e2.sbo e3 sb3) h3 (fun Γ4 σ4 B4 H4 h4 sb4 e4 => ⟨Γ4, B4, h4, (sb.trans g2.sb).trans sb4, e4⟩) kr)
      (fun σ' H' ⟨Γ', B', hI, sb, e'⟩ => kn _ _ _ _ (ie _ hI) (g1.sb.trans sb) e')
end
end LT

/-! LP3: comprehensions, calls, operators over plain data. -/
namespace LT
open PySem PySem.Spec PyProof.Rows L2
section
variable {z w w1 fr : Bool} {te ta tb : TE} {m a b : ME} {ts : TS} {s : MS} {K : PySem.W.Frag}
/-! ### comprehensions -/
def LcI (g : MG) (tt : MT) (te : ME) (vs : List Nat) (Γ : Gm) (xs : List PyData) (P : Ow → Prop) : Prop := ∃ I : Nat → List PyData → Prop, I 0 [] ∧ (∀ (j : Nat) (x : PyData) (acc : List PyData), xs[j]? = some x → I j acc → g x (wipeG Γ vs) fun Γ2 => tt Γ2 fun b =>
  if b = true then te Γ2 fun d => acc.length < 1000000 ∧ I (j + 1) (acc ++ [d]) else I (j + 1) acc) ∧ ∀ acc, I xs.length acc → P (.lst acc)
def mLc (it : MA) (g : MG) (tt : MT) (te : ME) (vs : List Nat) : MF := fun Γ P => it Γ fun xs => LcI g tt te vs Γ xs P
theorem rf_lc {it : TI} {mi : MA} {vs : List Nat} {g : TG} {mg : MG} {tt : TT} {mt : MT} (hi : RI z w it mi) (hg : RG w vs g mg) (ht : RT z tt mt) (he : RE z te m) : RF z (tLc it g tt te vs) (mLc mi mg mt m vs) := fun T Γ σ B H P Q s nz e hm k =>
  hi T Γ σ B H _ _ s nz e hm fun xs J B1 H1 ⟨I, i0, is, ie⟩ g1 wk => fun D nD => by
    have nt := g1.st.ntp nD
    have hb1 := g1.st.fr nD
    refine lc_it wk (fun j H2 => ∃ acc ds B2, Gr T B1 H1 B2 H2 ∧ B2 D = none ∧ H2 D = some (.lst acc) ∧ RpA B2 acc ds ∧ I j ds)
      ⟨[], [], B1, (Gr.refl g1.st).mut nD hb1 nt, hb1, upd_same, .nil, i0⟩ (fun j H2 _ ⟨_, _, B2, g2, _⟩ => g2.sb.trans g2.st.sub) ?_ ?_
    · rintro j x H2 H2' hj ⟨acc, ds, B2, g2, hD, hH, hr, hI⟩ ⟨d, hd, y⟩
      obtain ⟨B3, g3, wp⟩ := YD.step g2.st g2.sb y
      have g13 := g1.trans (g2.trans g3)
      have e3 := (e.grow g13).wipe vs
      refine hg T B3 H2' _ _ x d _ _ g3.st e3 wp (is j d ds hd hI) fun σ2 Γ2 h2 e2 _ wq => ⟨by rw [wq]; exact wipe_wipe vs fun _ h => h, ?_⟩
      have hH3 := g3.sh _ _ nt hH
      have hD3 := (g3.nw _ _ hH).1.trans hD
      refine ht T Γ2 σ2 B3 H2' _ _ g3.st (fun z => g13.nofz (nz z)) e2 h2 fun b B4 H4 h4 g4 => ?_
      have hH4 := g4.sh _ _ nt hH3
      have hD4 := (g4.nw _ _ hH3).1.trans hD3
      cases b with
      | false =>
        rw [if_neg Bool.false_ne_true] at h4 ⊢
        exact ⟨acc, ds, B4, (g2.trans g3).trans g4, hD4, hH4, hr.grow (g3.sb.trans g4.sb), h4⟩
      | true =>
        rw [if_pos rfl] at h4 ⊢
        refine he T Γ2 σ2 B4 H4 _ _ g4.st (fun z => (g13.trans g4).nofz (nz z)) (e2.grow g4) h4 fun d' v B5 H5 ⟨hl, h5⟩ g5 r5 => ?_
        have hH5 := g5.sh _ _ nt hH4
        have hD5 := (g5.nw _ _ hH4).1.trans hD4
        have hr5 := hr.grow ((g3.sb.trans g4.sb).trans g5.sb)
        refine ⟨acc, hH5, by rw [hr5.length]; exact lt_line (by omega), acc ++ [v], ds ++ [d'], B5, (((g2.trans g3).trans g4).trans g5).mut nD hD5 nt, hD5, upd_same, hr5.snoc r5, h5⟩
    · rintro H2 ⟨acc, ds, B2, g2, hD, hH, hr, hI⟩
      exact k _ _ _ _ (ie _ hI) (g1.trans g2) (g1.back nD) hD ⟨acc, hH, hr⟩
/-! ### calls -/
abbrev FW := List PyData → (PyData → Prop) → Prop
def spW (z : Bool) (n : Nat) (F : FW) : Sp := fun vs H Q _ => ∃ ds B P, ds.length = n ∧ Stt none B H ∧ (z = true → NoFz B) ∧ RpA B vs ds ∧ F ds P ∧ ∀ d v B' H', P d → Gr none B H B' H' → Rp B' v d → Q v H'
/-- .. whose answer is a new list -/
def spF (z : Bool) (n : Nat) (F : FW) : Sp := fun vs H Q _ => ∃ ds B P, ds.length = n ∧ Stt none B H ∧ (z = true → NoFz B) ∧ RpA B vs ds ∧ F ds P ∧ ∀ d v B' H', P d → Gr none B H B' H' → Rp B' v d → FreshL H v B' d → Q v H'
/-- .. that draws -/
def spT (n : Nat) (F : FW) : Sp := fun vs H Q _ => ∃ t s us ds B P, vs = .ref t :: us ∧ ds.length = n ∧ Stt (some (t, s)) B H ∧ RpA B us ds ∧ F ds P ∧ ∀ d v B' H', P d → Gr (some (t, s)) B H B' H' → Rp B' v d → Q v H'
def endW (P : PyData → Prop) : Out → Prop
  | .rt d => P d
  | .nx _ => P .none
def bodyW (k : Nat) (m : MS) : FW := fun ds P => m (ds.map .dat ++ List.replicate k .no) (endW P)
def bodyT (k : Nat) (m : MS) : FW := fun ds P => m (.tape :: ds.map .dat ++ List.replicate k .no) (endW P)
theorem getElem_rep {α : Type} {n : Nat} {x y : α} {i : Nat} (h : (List.replicate n x)[i]? = some y) : y = x := by
  have := List.mem_of_getElem? h
  exact (List.mem_replicate.mp this).2
theorem en_start {T : Tx} {B H : Hp} {vs : List V} {ds : List PyData} {N : List Str} {k : Nat} (r : RpA B vs ds) (h : N.length = ds.length + k) : En T B H (start N vs) (ds.map .dat ++ List.replicate k .no) := by
  have hl := r.length
  refine ⟨by unfold L2.start; simp only [List.length_append, List.length_map, List.length_replicate]; omega, fun i x g hx hg => ?_⟩
  unfold L2.start at hx
  by_cases hi : i < ds.length
  · rw [List.getElem?_append_left (by rw [List.length_map]; omega), List.getElem?_map] at hx hg
    cases e : vs[i]? with
    | none => rw [e] at hx; cases hx
    | some v =>
      obtain ⟨d, hd, rr⟩ := r.get e
      rw [e] at hx; rw [hd] at hg
      cases hx; cases hg
      exact ⟨v, rfl, rr⟩
  · rw [List.getElem?_append_right (by rw [List.length_map]; omega)] at hg
    rw [getElem_rep hg]
    trivial
theorem own_start {ds : List PyData} {k i : Nat} {o : Ow} (h : (ds.map Sv.dat ++ List.replicate k .no)[i]? = some (.own o)) : False := by
  have := List.mem_of_getElem? h
  rcases List.mem_append.mp this with q | q
  · obtain ⟨d, _, e⟩ := List.mem_map.mp q; cases e
  · cases (List.mem_replicate.mp q).2
theorem len_spW {n : Nat} {F : FW} {vs : List V} {H : Hp} {Q : VK} {E : XK} (h : spW z n F vs H Q E) : vs.length = n := by
  obtain ⟨ds, B, P, hl, _, _, r, _⟩ := h
  rw [r.length, hl]
theorem len_spF {n : Nat} {F : FW} {vs : List V} {H : Hp} {Q : VK} {E : XK} (h : spF z n F vs H Q E) : vs.length = n := by
  obtain ⟨ds, B, P, hl, _, _, r, _⟩ := h
  rw [r.length, hl]
theorem len_spT {n : Nat} {F : FW} {vs : List V} {H : Hp} {Q : VK} {E : XK} (h : spT n F vs H Q E) : vs.length = n + 1 := by
  obtain ⟨t, s, us, ds, B, P, rfl, hl, _, r, _⟩ := h
  rw [List.length_cons, r.length, hl]
theorem sem_W {n k : Nat} {N : List Str} {vs : List V} {H : Hp} {Q : VK} {E : XK} (hN : N.length = n + k) (rs : RS z false ts s) (h : spW z n (bodyW k s) vs H Q E) : ts { nx := fun _ H' => Q .non H', rt := Q } (start N vs) H := by
  obtain ⟨ds, B, P, hl, st, nz, r, hF, q⟩ := h
  refine rs none B H _ _ B H (endW P) _ nz ⟨.refl st, en_start r (by omega), fun i l o _ h => (own_start h).elim, fun i j l o o' _ _ h => (own_start h).elim⟩ hF (fun Γ' σ' B' H' hp _ e => q _ _ _ _ hp e.gr .non) (fun d v B' H' hp g r _ => q _ _ _ _ hp g r)
theorem sem_F {n k : Nat} {N : List Str} {vs : List V} {H : Hp} {Q : VK} {E : XK} (hN : N.length = n + k) (rs : RS z true ts s) (hno : ∀ Γ P, s Γ P → s Γ fun o => (∃ d, o = .rt d) ∧ P o) (h : spF z n (bodyW k s) vs H Q E) : ts { nx := fun _ H' => Q .non H', rt := Q } (start N vs) H := by
  obtain ⟨ds, B, P, hl, st, nz, r, hF, q⟩ := h
  refine rs none B H _ _ B H (fun o => (∃ d, o = .rt d) ∧ endW P o) _ nz ⟨.refl st, en_start r (by omega), fun i l o _ h => (own_start h).elim, fun i j l o o' _ _ h => (own_start h).elim⟩ (hno _ _ hF) (fun Γ' σ' B' H' ⟨⟨d, hd⟩, _⟩ _ e => nomatch hd) (fun d v B' H' hp g r f => q _ _ _ _ hp.2 g r (f rfl))
theorem sem_T {n k : Nat} {N : List Str} {vs : List V} {H : Hp} {Q : VK} {E : XK} (hN : N.length = n + 1 + k) (rs : RS false false ts s) (h : spT n (bodyT k s) vs H Q E) : ts { nx := fun _ H' => Q .non H', rt := Q } (start N vs) H := by
  obtain ⟨t, s', us, ds, B, P, rfl, hl, st, r, hF, q⟩ := h
  have en : En (some (t, s')) B H (start N (.ref t :: us)) (.tape :: ds.map .dat ++ List.replicate k .no) := by
    cases N with
    | nil => simp at hN; omega
    | cons y N' =>
      have e0 : En (some (t, s')) B H (start N' us) (ds.map .dat ++ List.replicate k .no) := en_start r (by simp only [List.length_cons] at hN; omega)
      have es : start (y :: N') (.ref t :: us) = some (.ref t) :: start N' us := by
        unfold L2.start
        simp
      rw [es]
      refine ⟨by rw [List.cons_append, List.length_cons, List.length_cons, e0.len], fun i x g hx hg => ?_⟩
      cases i with
      | zero =>
        cases hx; cases hg
        exact ⟨t, s', rfl, rfl⟩
      | succ i => exact e0.ok i x g (by simpa using hx) (by simpa using hg)
  have no : ∀ (i : Nat) (o : Ow), (Sv.tape :: ds.map .dat ++ List.replicate k .no)[i]? = some (.own o) → False := fun i o h => by
    cases i with
    | zero => cases h
    | succ i => exact own_start (by simpa using h)
  refine rs (some (t, s')) B H _ _ B H (endW P) _ (fun e => nomatch e) ⟨.refl st, en, fun i l o _ h => (no i o h).elim, fun i j l o o' _ _ h => (no i o h).elim⟩ hF (fun Γ' σ' B' H' hp _ e => q _ _ _ _ hp e.gr .non) (fun d v B' H' hp g r _ => q _ _ _ _ hp g r)
def mCall (n : Nat) (F : FW) (as : MA) : ME := fun Γ P => as Γ fun ds => ds.length = n ∧ F ds P
theorem re_call {z' : Bool} {n : Nat} {F : FW} {t : TA} {as : MA} (hz : z' = true → z = true) (h : RA z t as) : RE z (tCall (spW z' n F) [] E0 t) (mCall n F as) := fun T Γ σ B H P Q s nz e hm k =>
  h T Γ σ B H _ _ s nz e hm fun ds vs B1 H1 ⟨hl, hF⟩ g1 r => by
    rw [List.append_nil]
    exact ⟨ds, B1, P, hl, g1.st.low, fun q => g1.nofz (nz (hz q)), r, hF, fun d v B' H' hp g rr => k d v B' H' hp (g1.trans (g.lift g1.st)) rr⟩
theorem re_callF {z' : Bool} {n : Nat} {F : FW} {t : TA} {as : MA} (hz : z' = true → z = true) (h : RA z t as) : RE z (tCall (spF z' n F) [] E0 t) (mCall n F as) := fun T Γ σ B H P Q s nz e hm k =>
  h T Γ σ B H _ _ s nz e hm fun ds vs B1 H1 ⟨hl, hF⟩ g1 r => by
    rw [List.append_nil]
    exact ⟨ds, B1, P, hl, g1.st.low, fun q => g1.nofz (nz (hz q)), r, hF, fun d v B' H' hp g rr _ => k d v B' H' hp (g1.trans (g.lift g1.st)) rr⟩
def mCallF (n : Nat) (F : FW) (as : MA) : MF := fun Γ P => as Γ fun ds => ds.length = n ∧ F ds fun d => ∃ xs, d = .list xs ∧ P (.lst xs)
theorem rf_call {z' : Bool} {n : Nat} {F : FW} {t : TA} {as : MA} (hz : z' = true → z = true) (h : RA z t as) : RF z (tCall (spF z' n F) [] E0 t) (mCallF n F as) := fun T Γ σ B H P Q s nz e hm k =>
  h T Γ σ B H _ _ s nz e hm fun ds vs B1 H1 ⟨hl, hF⟩ g1 r => by
    rw [List.append_nil]
    refine ⟨ds, B1, _, hl, g1.st.low, fun q => g1.nofz (nz (hz q)), r, hF, fun d v B' H' ⟨xs, hx, hp⟩ g rr ⟨l, us, ds', ev, ed, hl, hB, hr⟩ => ?_⟩
    subst ev hx
    cases ed
    have g2 := g.lift g1.st
    have hH := g2.st.sub _ _ hB
    have nt := g1.st.ntp hl
    have hb1 := g1.st.fr hl
    refine k _ _ (del B' l) H' hp (g1.trans ⟨⟨del_same.trans g2.st.sub, fun t s' e => ?_⟩, fun a o ha => ?_, g2.sh, fun a o ha => ?_, fun a f u ha => ?_⟩) (g1.back hl) del_at ⟨us, hH, hr⟩
    · obtain ⟨q1, q2, q3⟩ := g2.st.tp t s' e
      obtain ⟨p1, p2, p3⟩ := g1.st.tp t s' e
      refine ⟨q1, ?_, ?_⟩
      · refine p2.grow fun a o ha => ?_
        rw [del_ne (ne_of_none ha hb1)]; exact g2.sb _ _ ha
      · by_cases q : t = l
        · subst q; exact del_at
        · rw [del_ne q]; exact q3
    · rw [del_ne (ne_of_none ha hb1)]; exact g2.sb _ _ ha
    · have q := ne_of_none ha hl
      rw [del_ne q]; exact g2.nw _ _ ha
    · exact g2.fz a f u (del_get ha).2
def mCallT (i n : Nat) (F : FW) (as : MA) : ME := fun Γ P => Γ[i]? = some .tape ∧ as Γ fun ds => ds.length = n ∧ F ds P
theorem re_callT {i n : Nat} {F : FW} {t : TA} {as : MA} (h : RA z t as) : RE z (tCall (spT n F) [] E0 (tCons (tVar i) t)) (mCallT i n F as) := fun T Γ σ B H P Q s nz e ⟨hi, hm⟩ k => by
  obtain ⟨x, hx, t', s', rfl, rfl⟩ := e.at hi
  exact ⟨_, hx, h _ Γ σ B H _ _ s nz e hm fun ds vs B1 H1 ⟨hl, hF⟩ g1 r => by
    show spT n F (_ ++ []) H1 Q E0
    rw [List.append_nil]
    exact ⟨t', s', vs, ds, B1, P, rfl, hl, g1.st, r, hF, fun d v B' H' hp g rr => k d v B' H' hp (g1.trans g) rr⟩⟩
def mDraw (i : Nat) (a : ME) : ME := fun Γ P => Γ[i]? = some .tape ∧ a Γ fun d => ∃ n : Nat, d = .int n ∧ 0 < n ∧ n ≤ 10 ^ 18 ∧ ∀ r : Nat, r < n → P (.int r)
theorem re_draw {i : Nat} (h : RE z ta a) : RE z (tCall (sp_law_draw K) [] E0 (tCons (tVar i) (tCons ta tNil))) (mDraw i a) := fun T Γ σ B H P Q s nz e ⟨hi, hm⟩ k => by
  obtain ⟨x, hx, t', s', rfl, rfl⟩ := e.at hi
  refine ⟨_, hx, h _ Γ σ B H _ _ s nz e hm fun d v B1 H1 ⟨n, hd, n0, n1, hp⟩ g1 r => ?_⟩
  subst hd
  cases r.int_inv
  obtain ⟨q1, q2, q3⟩ := g1.st.tp t' s' rfl
  have hst : s' ≠ t' := fun q => by
    obtain ⟨ns, hs⟩ := q2
    rw [q, q3] at hs; cases hs
  refine ⟨t', s', (n : Int), rfl, by omega, by omega, q1, ?_, fun r H' r0 r1 hT e2 k2 => ?_⟩
  · obtain ⟨ns, hs⟩ := q2
    exact ⟨ns, by rw [del_ne hst]; exact g1.st.sub _ _ hs⟩
  · have er : r = (r.toNat : Int) := by omega
    rw [er]
    refine k _ _ B1 H' (hp r.toNat (by omega)) (g1.trans ⟨⟨fun a o ha => ?_, fun t s e => ?_⟩, Same.refl _, fun a o n ha => ?_, fun a o ha => ⟨rfl, ?_⟩, fun _ _ _ h => h⟩) (.int _)
    · have : a ≠ t' := fun q => by rw [q, q3] at ha; cases ha
      rw [k2 a this]; exact g1.st.sub _ _ ha
    · cases e
      exact ⟨hT, q2, q3⟩
    · rw [k2 a fun q => n ⟨s', by rw [q]⟩]; exact ha
    · by_cases q : a = t'
      · subst q
        obtain ⟨xs, hx⟩ := hT.get
        exact ⟨_, hx⟩
      · exact ⟨o, by rw [k2 a q]; exact ha⟩
end
end LT

/-! LP4: operators, built-ins, what is walked, lists of a def's own. -/
namespace LT
open PySem PySem.Spec PyProof.Rows L2
section
variable {z w fr : Bool} {te ta tb tc : TE} {m a b c : ME} {ts : TS} {s : MS} {K : PySem.W.Frag}
/-! ### ints -/
def fI (C : Int → Int → Prop) (g : Int → Int → PyData) : F2 := fun x y P => ∃ i j, x = .int i ∧ y = .int j ∧ C i j ∧ P (g i j)
def fI0 (g : Int → Int → PyData) : F2 := fun x y P => ∃ i j, x = .int i ∧ y = .int j ∧ P (g i j)
theorem o2_I {C : Int → Int → Prop} {gv : Int → Int → V} {g : Int → Int → PyData} (h : ∀ (B : Hp) i j, Rp B (gv i j) (g i j)) : O2 (rI C gv) (fI C g) := fun T B H x y dx dy P Q s rx ry ⟨i, j, e1, e2, hc, hp⟩ k => by
  subst e1 e2
  exact ⟨i, j, rx.int, ry.int, hc, k _ _ _ _ hp (.refl s) (h B i j)⟩
theorem o2_I0 {gv : Int → Int → V} {g : Int → Int → PyData} (h : ∀ (B : Hp) i j, Rp B (gv i j) (g i j)) : O2 (rI0 gv) (fI0 g) := fun T B H x y dx dy P Q s rx ry ⟨i, j, e1, e2, hp⟩ k => by
  subst e1 e2
  exact ⟨i, j, rx.int, ry.int, k _ _ _ _ hp (.refl s) (h B i j)⟩
abbrev fAdd : F2 := fI0 fun i j => .int (i + j)
abbrev fSub : F2 := fI0 fun i j => .int (i - j)
abbrev fMul : F2 := fI CMul fun i j => .int (i * j)
abbrev fMod : F2 := fI (fun _ j => 0 < j) fun i j => .int (i % j)
abbrev fPow : F2 := fI CPow fun i j => .int (i ^ j.toNat)
abbrev fLt : F2 := fI0 fun i j => .bool (decide (i < j))
abbrev fLe : F2 := fI0 fun i j => .bool (decide (i ≤ j))
abbrev fGt : F2 := fI0 fun i j => .bool (decide (j < i))
abbrev fGe : F2 := fI0 fun i j => .bool (decide (j ≤ i))
theorem o2_add : O2 rAddI fAdd := o2_I0 fun _ _ _ => .int _
theorem o2_sub : O2 rSubI fSub := o2_I0 fun _ _ _ => .int _
theorem o2_mul : O2 rMulI fMul := o2_I fun _ _ _ => .int _
theorem o2_mod : O2 rModI fMod := o2_I fun _ _ _ => .int _
theorem o2_pow : O2 rPowI fPow := o2_I fun _ _ _ => .int _
theorem o2_lt : O2 rLtI fLt := o2_I0 fun _ _ _ => .bl _
theorem o2_le : O2 rLeI fLe := o2_I0 fun _ _ _ => .bl _
theorem o2_gt : O2 rGtI fGt := o2_I0 fun _ _ _ => .bl _
theorem o2_ge : O2 rGeI fGe := o2_I0 fun _ _ _ => .bl _
/-! ### equality -/
def fEq : F2 := fun x y P => (∃ i j, x = .int i ∧ y = .int j ∧ P (.bool (decide (i = j)))) ∨ (∃ i j, x = .str i ∧ y = .str j ∧ P (.bool (decide (i = j)))) ∨ ∃ i j, x = .bool i ∧ y = .bool j ∧ P (.bool (decide (i = j)))
def fNe : F2 := fun x y P => (∃ i j, x = .int i ∧ y = .int j ∧ P (.bool (!decide (i = j)))) ∨ (∃ i j, x = .str i ∧ y = .str j ∧ P (.bool (!decide (i = j)))) ∨ ∃ i j, x = .bool i ∧ y = .bool j ∧ P (.bool (!decide (i = j)))
theorem dec_congr {p q : Prop} [Decidable p] [Decidable q] (h : p ↔ q) : decide p = decide q := decide_eq_decide.mpr h
theorem o2_eq : O2 rEq fEq := fun T B H x y dx dy P Q s rx ry h k => by
  rcases h with ⟨i, j, rfl, rfl, hp⟩ | ⟨i, j, rfl, rfl, hp⟩ | ⟨i, j, rfl, rfl, hp⟩
  · rw [rx.int, ry.int]
    refine ⟨rfl, ?_⟩
    rw [dec_congr (q := i = j) ⟨fun e => V.int.inj e, fun e => by rw [e]⟩]
    exact k _ _ _ _ hp (.refl s) (.bl _)
  · rw [rx.str, ry.str]
    refine ⟨rfl, ?_⟩
    rw [dec_congr (q := i = j) ⟨fun e => V.str.inj e, fun e => by rw [e]⟩]
    exact k _ _ _ _ hp (.refl s) (.bl _)
  · rw [rx.bl, ry.bl]
    refine ⟨rfl, ?_⟩
    rw [dec_congr (q := i = j) ⟨fun e => V.bl.inj e, fun e => by rw [e]⟩]
    exact k _ _ _ _ hp (.refl s) (.bl _)
theorem o2_ne : O2 rNe fNe := fun T B H x y dx dy P Q s rx ry h k => by
  rcases h with ⟨i, j, rfl, rfl, hp⟩ | ⟨i, j, rfl, rfl, hp⟩ | ⟨i, j, rfl, rfl, hp⟩
  · rw [rx.int, ry.int]
    refine ⟨rfl, ?_⟩
    rw [dec_congr (q := i = j) ⟨fun e => V.int.inj e, fun e => by rw [e]⟩]
    exact k _ _ _ _ hp (.refl s) (.bl _)
  · rw [rx.str, ry.str]
    refine ⟨rfl, ?_⟩
    rw [dec_congr (q := i = j) ⟨fun e => V.str.inj e, fun e => by rw [e]⟩]
    exact k _ _ _ _ hp (.refl s) (.bl _)
  · rw [rx.bl, ry.bl]
    refine ⟨rfl, ?_⟩
    rw [dec_congr (q := i = j) ⟨fun e => V.bl.inj e, fun e => by rw [e]⟩]
    exact k _ _ _ _ hp (.refl s) (.bl _)
mutual
theorem Rp.dp {B H : Hp} (s : Same B H) : ∀ {v : V} {d : PyData}, Rp B v d → d.canLay0 = true → Dp K H v d
  | _, _, .non, _ => .non
  | _, _, .bl b, _ => .bl b
  | _, _, .int b, _ => .int b
  | _, _, .str b, _ => .str b
  | _, _, .lst h r, c => .lst (.of (s _ _ h)) (RpA.dp s r (by simpa [PyData.canLay0] using c))
  | _, _, .tup h n r, c => .tup (.inl (.inr ⟨_, s _ _ h⟩)) (RpA.dp s r (by simpa [PyData.canLay0] using c))
  | _, _, .wpr h, c => by simp [PyData.canLay0] at c
  | _, _, .dic h, c => by simp [PyData.canLay0] at c
theorem RpA.dp {B H : Hp} (s : Same B H) : ∀ {v : List V} {d : List PyData}, RpA B v d → PyData.canLayAll0 d = true → DpAll K H v d
  | _, _, .nil, _ => .nil
  | _, _, .cons h r, c => by
    simp only [PyData.canLayAll0, Bool.and_eq_true] at c
    exact .cons (Rp.dp s h c.1) (RpA.dp s r c.2)
end
theorem Rq.dp {T : Tx} {B H : Hp} {v : V} {d : PyData} (h : Rq T B H v d) (s : Same B H) (c : SeqAt.shaped d = true) : Dp K H v d := by
  have c := SeqAt.canLay_of_shaped c
  rcases h with h | ⟨l, o, rfl, _, _, k, ⟨ds, rfl, rfl⟩ | ⟨_, _, rfl⟩⟩
  · exact h.dp s c
  · obtain ⟨vs, h1, h2⟩ := k
    exact .lst (.of h1) (h2.dp s (by simpa [PyData.canLay0] using c))
  · unfold dD at c
    simp [PyData.canLay0] at c
def fEqD : F2 := fun x y P => SeqAt.shaped x = true ∧ SeqAt.shaped y = true ∧ P (.bool (PyData.eqv x y))
def fNeD : F2 := fun x y P => SeqAt.shaped x = true ∧ SeqAt.shaped y = true ∧ P (.bool (!PyData.eqv x y))
theorem o2_eqD : O2 (rEqD K) fEqD := fun T B H x y dx dy P Q s rx ry ⟨h1, h2, hp⟩ k => ⟨dx, dy, rx.dp s.sub h1, ry.dp s.sub h2, h1, h2, k _ _ _ _ hp (.refl s) (.bl _)⟩
theorem o2_neD : O2 (rNeD K) fNeD := fun T B H x y dx dy P Q s rx ry ⟨h1, h2, hp⟩ k => ⟨dx, dy, rx.dp s.sub h1, ry.dp s.sub h2, h1, h2, k _ _ _ _ hp (.refl s) (.bl _)⟩
/-! ### x in xs -/
def fIn (neg : Bool) : F2 := fun x y P => ∃ (i : Str) (ps : List Str), x = .str i ∧ (y = .list (ps.map .str) ∨ y = .tuple (ps.map .str)) ∧ P (.bool (if neg then !decide (i ∈ ps) else decide (i ∈ ps)))
theorem o2_in {neg : Bool} : O2 (rIn K neg) (fIn neg) := fun T B H x y dx dy P Q s rx ry ⟨i, ps, e1, e2, hp⟩ k => by
  subst e1
  rw [rx.str]
  rcases e2 with rfl | rfl
  · obtain ⟨p, xs, rfl, h1, h2⟩ := ry.lst s.sub
    have := h2.strs
    subst this
    exact r_in (.inl (.of h1)) (k _ _ _ _ hp (.refl s) (.bl _))
  · obtain ⟨p, o, xs, rfl, h1, _, h2⟩ := ry.tup
    have := h2.strs
    subst this
    exact r_in (.inr (.inl (.inr ⟨o, s.sub _ _ h1⟩))) (k _ _ _ _ hp (.refl s) (.bl _))
def fInD (neg : Bool) : F2 := fun x y P => ∃ ds, y = .list ds ∧ SeqAt.shaped x = true ∧ SeqAt.shaped y = true ∧ P (.bool (if neg then !ds.any fun q => PyData.eqv q x else ds.any fun q => PyData.eqv q x))
theorem o2_inD : O2 (rInD K) (fInD false) := fun T B H x y dx dy P Q s rx ry ⟨ds, e2, h1, h2, hp⟩ k => by
  subst e2
  exact ⟨dx, ds, rx.dp s.sub h1, ry.dp s.sub h2, h1, h2, k _ _ _ _ hp (.refl s) (.bl _)⟩
theorem o2_notInD : O2 (rNotInD K) (fInD true) := fun T B H x y dx dy P Q s rx ry ⟨ds, e2, h1, h2, hp⟩ k => by
  subst e2
  exact ⟨dx, ds, rx.dp s.sub h1, ry.dp s.sub h2, h1, h2, k _ _ _ _ hp (.refl s) (.bl _)⟩
/-! ### places and parts -/
theorem RpA.atI {B : Hp} {vs : List V} {ds : List PyData} {i : Int} {d : PyData} (r : RpA B vs ds) (h : L2.atI ds i = some d) : ∃ v, L2.atI vs i = some v ∧ Rp B v d := by
  unfold L2.atI at h ⊢
  rw [r.length]
  cases e : ixN ds.length i with
  | none => rw [e] at h; cases h
  | some j =>
    rw [e] at h
    exact r.get' h
def fIxL : F2 := fun x y P => ∃ ds i d, x = .list ds ∧ y = .int i ∧ L2.atI ds i = some d ∧ P d
def fIxT : F2 := fun x y P => ∃ ds i d, x = .tuple ds ∧ y = .int i ∧ L2.atI ds i = some d ∧ P d
theorem o2_ixL : O2 (rIxL K) fIxL := fun T B H x y dx dy P Q s rx ry ⟨ds, i, d, e1, e2, e3, hp⟩ k => by
  subst e1 e2
  obtain ⟨p, xs, rfl, h1, h2⟩ := rx.lst s.sub
  obtain ⟨v, h3, h4⟩ := h2.atI e3
  exact ⟨p, xs, i, v, rfl, ry.int, .of h1, h3, k _ _ _ _ hp (.refl s) h4⟩
theorem o2_ixT : O2 (rIxT K) fIxT := fun T B H x y dx dy P Q s rx ry ⟨ds, i, d, e1, e2, e3, hp⟩ k => by
  subst e1 e2
  obtain ⟨p, o, xs, rfl, h1, _, h2⟩ := rx.tup
  obtain ⟨v, h3, h4⟩ := h2.atI e3
  exact ⟨p, xs, i, v, rfl, ry.int, .inl (.inr ⟨o, s.sub _ _ h1⟩), h3, k _ _ _ _ hp (.refl s) h4⟩
def cutD {α : Type} (xs : List α) (lo hi : Option Int) : List α := (xs.drop (HT.sIx xs.length 0 lo)).take (HT.sIx xs.length xs.length hi - HT.sIx xs.length 0 lo)
theorem RpA.cut {B : Hp} {vs : List V} {ds : List PyData} {lo hi : Option Int} (r : RpA B vs ds) : RpA B (cutV vs lo hi) (cutD ds lo hi) := by
  unfold cutV cutD
  rw [r.length]
  exact (r.drop _).take _
theorem Gr.tupN {T : Tx} {B H : Hp} {vs : List V} {ds : List PyData} {Q : VK} {P : PyData → Prop} (s : Stt T B H) (r : RpA B vs ds) (hp : P (.tuple ds)) (k : ∀ d v B' H', P d → Gr T B H B' H' → Rp B' v d → Q v H') : tupO H vs Q := fun p o hn hd => by
  have g := Gr.new (o := .frz o (.tup vs)) s hn (fun _ _ e => nomatch e)
  exact k _ _ _ _ hp g (.tup upd_same hd (r.grow g.sb))
def fSlT : PyData → Option Int → Option Int → (PyData → Prop) → Prop := fun x lo hi P => ∃ ds, x = .tuple ds ∧ P (.tuple (cutD ds lo hi))
theorem os_tup : OSl (rSlS2 K) fSlT := fun T B H x dx lo hi P Q s rx ⟨ds, e, hp⟩ k => by
  subst e
  obtain ⟨p, o, xs, rfl, h1, hd, h2⟩ := rx.tup
  refine ⟨p, xs, rfl, .inl (.inr ⟨o, s.sub _ _ h1⟩), fun q => ?_, fun q => Gr.tupN s h2.cut hp k⟩
  have : cutD ds lo hi = ds := by
    unfold cutD
    rw [h2.length] at q
    rw [q.1, q.2]
    simp
  rw [this] at hp
  exact k _ _ _ _ hp (.refl s) (.tup h1 hd h2)
def fCatT : F2 := fun x y P => ∃ xs ys, unT x = some xs ∧ y = .tuple ys ∧ ys ≠ [] ∧ xs ≠ [] ∧ xs.length + ys.length ≤ 1000000 ∧ P (.tuple (xs ++ ys)) ∨ ∃ xs ys, x = .tuple xs ∧ y = .tuple ys ∧ xs.length + ys.length ≤ 1000000 ∧ P (.tuple (xs ++ ys))
theorem rq_un {T : Tx} {B H : Hp} {v : V} {d : PyData} {ds : List PyData} (h : Rq T B H v d) (s : Same B H) (e : unT d = some ds) : ∃ a xs, v = .ref a ∧ SqT K H a xs ∧ RpA B xs ds := by
  rcases h with h | ⟨l, o, _, _, _, _, ⟨_, _, q⟩ | ⟨_, _, q⟩⟩
  · exact (show WP true B v d from .inl h).un s e
  · subst q; cases e
  · subst q
    rcases unT_inv e with q | ⟨x, y, q, _⟩
    · cases q
    · exact absurd q.symm wpD_ne
theorem o2_catT : O2 (rCatS K) fCatT := fun T B H x y dx dy P Q s rx ry h k => by
  rcases h with ⟨xs, ys, ⟨e1, e2, n1, n2, hl, hp⟩ | ⟨xs, ys, e1, e2, hl, hp⟩⟩
  · subst e2
    obtain ⟨p, us, rfl, h1, h2⟩ := rq_un (K := K) rx s.sub e1
    obtain ⟨q, o', ws, rfl, h3, hd3, h4⟩ := ry.tup
    refine ⟨p, q, us, ws, rfl, rfl, h1, .inl (.inr ⟨o', s.sub _ _ h3⟩), by rw [h2.length, h4.length]; exact le_line hl, fun e => ?_, fun _ e => ?_, fun _ _ => Gr.tupN s (h2.append h4) hp k⟩
    · subst e; cases h2; exact absurd rfl n2
    · subst e; cases h4; exact absurd rfl n1
  · subst e1 e2
    obtain ⟨p, o, us, rfl, h1, hd1, h2⟩ := rx.tup
    obtain ⟨q, o', ws, rfl, h3, hd3, h4⟩ := ry.tup
    refine ⟨p, q, us, ws, rfl, rfl, .inl (.inr ⟨o, s.sub _ _ h1⟩), .inl (.inr ⟨o', s.sub _ _ h3⟩), by rw [h2.length, h4.length]; exact le_line hl, fun e => ?_, fun _ e => ?_, fun _ _ => Gr.tupN s (h2.append h4) hp k⟩
    · subst e; cases h2
      exact k _ _ _ _ hp (.refl s) (.tup h3 hd3 h4)
    · subst e; cases h4
      rw [List.append_nil] at hp
      exact k _ _ _ _ hp (.refl s) (.tup h1 hd1 h2)
def fTup : F1 := fun x P => ∃ ds, (x = .list ds ∨ x = .tuple ds) ∧ P (.tuple ds)
theorem o1_tup : O1 (rTupS K) fTup := fun T B H x dx P Q s rx ⟨ds, e, hp⟩ k => by
  rcases e with rfl | rfl
  · obtain ⟨p, xs, rfl, h1, h2⟩ := rx.lst s.sub
    exact ⟨p, xs, rfl, .inl ⟨.of h1, Gr.tupN s h2 hp k⟩⟩
  · obtain ⟨p, o, xs, rfl, h1, hd, h2⟩ := rx.tup
    exact ⟨p, xs, rfl, .inr ⟨.inl (.inr ⟨o, s.sub _ _ h1⟩), k _ _ _ _ hp (.refl s) (.tup h1 hd h2)⟩⟩
def fLen : F1 := fun x P => ∃ ds, (x = .list ds ∨ x = .tuple ds) ∧ P (.int ds.length)
theorem o1_len : O1 (rLenSq K) fLen := fun T B H x dx P Q s rx ⟨ds, e, hp⟩ k => by
  rcases e with rfl | rfl
  · obtain ⟨p, xs, rfl, h1, h2⟩ := rx.lst s.sub
    refine ⟨p, xs, rfl, .inl (.of h1), ?_⟩
    rw [h2.length]
    exact k _ _ _ _ hp (.refl s) (.int _)
  · obtain ⟨p, o, xs, rfl, h1, hd, h2⟩ := rx.tup
    refine ⟨p, xs, rfl, .inr (.inl (.inr ⟨o, s.sub _ _ h1⟩)), ?_⟩
    rw [h2.length]
    exact k _ _ _ _ hp (.refl s) (.int _)
def fSum : F1 := fun x P => ∃ ns : List Int, x = .list (ns.map .int) ∧ P (.int ns.sum)
theorem o1_sum : O1 (rSum K) fSum := fun T B H x dx P Q s rx ⟨ns, e, hp⟩ k => by
  subst e
  obtain ⟨p, xs, rfl, h1, h2⟩ := rx.lst s.sub
  have := h2.ints
  subst this
  exact ⟨p, ns, rfl, .of h1, k _ _ _ _ hp (.refl s) (.int _)⟩
def fMax : F1 := fun x P => ∃ ns : List Int, x = .list (ns.map .int) ∧ 0 < ns.length ∧ ∀ m, m ∈ ns → (∀ y, y ∈ ns → y ≤ m) → P (.int m)
theorem o1_max : O1 (rMax K) fMax := fun T B H x dx P Q s rx ⟨ns, e, h0, hp⟩ k => by
  subst e
  obtain ⟨p, xs, rfl, h1, h2⟩ := rx.lst s.sub
  have := h2.ints
  subst this
  exact ⟨p, ns, rfl, .of h1, h0, fun m h3 h4 => k _ _ _ _ (hp m h3 h4) (.refl s) (.int _)⟩
abbrev fMin2 : F2 := fI0 fun i j => .int (if j < i then j else i)
abbrev fMax2 : F2 := fI0 fun i j => .int (if j > i then j else i)
theorem o2_min2 : O2 (fun x y H Q => rMin2I [x, y] H Q) fMin2 := fun T B H x y dx dy P Q s rx ry ⟨i, j, e1, e2, hp⟩ k => by
  subst e1 e2
  rw [rx.int, ry.int]
  exact ⟨i, j, rfl, k _ _ _ _ hp (.refl s) (.int _)⟩
theorem o2_max2 : O2 (fun x y H Q => rMax2I [x, y] H Q) fMax2 := fun T B H x y dx dy P Q s rx ry ⟨i, j, e1, e2, hp⟩ k => by
  subst e1 e2
  rw [rx.int, ry.int]
  exact ⟨i, j, rfl, k _ _ _ _ hp (.refl s) (.int _)⟩
/-! ### the place of a text -/
def mIdx (a b : ME) : ME := fun Γ P => a Γ fun x => ∃ ps : List Str, x = .list (ps.map .str) ∧ b Γ fun y => ∃ i : Str, y = .str i ∧ i ∈ ps ∧ P (.int (ps.idxOf i : Nat))
def mIdxT (a b : ME) : ME := fun Γ P => a Γ fun x => ∃ ps : List Str, x = .tuple (ps.map .str) ∧ b Γ fun y => ∃ i : Str, y = .str i ∧ i ∈ ps ∧ P (.int (ps.idxOf i : Nat))
theorem re_idx (ha : RQ z ta a) (hb : RE z tb b) : RE z (tBM K "list" (rIndex K) ta (tCons tb tNil)) (mIdx a b) := fun T Γ σ B H P Q s nz e hm k =>
  ha T Γ σ B H _ _ s nz e hm fun d1 v1 B1 H1 ⟨ps, e1, h1⟩ g1 r1 => by
    subst e1
    obtain ⟨p, xs, rfl, hp, _⟩ := r1.lst g1.st.sub
    refine ⟨.inl ⟨rfl, _, .of hp⟩, hb T Γ σ B1 H1 _ _ g1.st (fun z => g1.nofz (nz z)) (e.grow g1) h1 fun d2 v2 B2 H2 ⟨i, e2, hi, h2⟩ g2 r2 => ?_⟩
    subst e2
    obtain ⟨p', xs', e3, hp', hr⟩ := (r1.grow g2).lst g2.st.sub
    cases e3
    have := hr.strs
    subst this
    cases r2.str_inv
    exact nil_go (r_index (.of hp') hi (k _ _ _ _ h2 (g1.trans g2) (.int _)))
theorem re_idxT (ha : RQ z ta a) (hb : RE z tb b) : RE z (tBT (rTupIx K) ta (tCons tb tNil)) (mIdxT a b) := fun T Γ σ B H P Q s nz e hm k =>
  ha T Γ σ B H _ _ s nz e hm fun d1 v1 B1 H1 ⟨ps, e1, h1⟩ g1 r1 => by
    subst e1
    obtain ⟨p, o, xs, rfl, hp, hd, hr⟩ := r1.tup
    have := hr.strs
    subst this
    refine ⟨⟨p, o, _, rfl, g1.st.sub _ _ hp, hd⟩, hb T Γ σ B1 H1 _ _ g1.st (fun z => g1.nofz (nz z)) (e.grow g1) h1 fun d2 v2 B2 H2 ⟨i, e2, hi, h2⟩ g2 r2 => ?_⟩
    subst e2
    cases r2.str_inv
    exact nil_go (r_tindex (.inl (.inr ⟨o, g2.st.sub _ _ (g2.sb _ _ hp)⟩)) hi (k _ _ _ _ h2 (g1.trans g2) (.int _)))
/-! ### new lists -/
theorem rf_new {T : Tx} {B H B2 H2 : Hp} {vs : List V} {ds : List PyData} {Q : VK} {P : Ow → Prop} (g : Gr T B H B2 H2) (r : RpA B2 vs ds) (hp : P (.lst ds)) (k : ∀ o l B' H', P o → Gr T B H B' H' → H l = none → B' l = none → OwOk B' H' l o → Q (.ref l) H') : ∀ p, H2 p = none → Q (.ref p) (upd H2 p (.lst vs)) := fun p hn =>
  k _ p _ _ hp (g.trans ((Gr.refl g.st).mut hn (g.st.fr hn) (g.st.ntp hn))) (g.back hn) (g.st.fr hn) ⟨vs, upd_same, r⟩
def mLstF (r : MA) : MF := fun Γ P => r Γ fun xs => xs.length ≤ 1000 ∧ P (.lst xs)
theorem rf_lst {tr : TA} {r : MA} (hr : RA z tr r) : RF z (tLst tr) (mLstF r) := fun T Γ σ B H P Q s nz e hm k =>
  hr T Γ σ B H _ _ s nz e hm fun ds vs B1 H1 ⟨hl, h1⟩ g1 r1 => ⟨by rw [r1.length]; exact le_line (by omega), rf_new g1 r1 h1 k⟩
def mListOf (a : ME) : MF := fun Γ P => a Γ fun x => ∃ ds, (x = .list ds ∨ x = .tuple ds) ∧ P (.lst ds)
theorem rf_listOf (ha : RQ z ta a) : RF z (tCB (rListOf K) (tCons ta tNil)) (mListOf a) := fun T Γ σ B H P Q s nz e hm k =>
  ha T Γ σ B H _ _ s nz e hm fun d1 v1 B1 H1 ⟨ds, e1, h1⟩ g1 r1 => by
    rcases e1 with rfl | rfl
    · obtain ⟨p, xs, rfl, hp, hr⟩ := r1.lst g1.st.sub
      exact ⟨p, xs, rfl, .inl (.of hp), rf_new g1 hr h1 k⟩
    · obtain ⟨p, o, xs, rfl, hp, hd, hr⟩ := r1.tup
      exact ⟨p, xs, rfl, .inr (.inl (.inr ⟨o, g1.st.sub _ _ hp⟩)), rf_new g1 hr h1 k⟩
def mCat (a b : ME) : MF := fun Γ P => a Γ fun x => b Γ fun y => ∃ xs ys, x = .list xs ∧ y = .list ys ∧ xs.length + ys.length ≤ 1000000 ∧ P (.lst (xs ++ ys))
theorem rf_cat (ha : RQ z ta a) (hb : RQ z tb b) : RF z (tOp rCat ta tb) (mCat a b) := fun T Γ σ B H P Q s nz e hm k =>
  ha T Γ σ B H _ _ s nz e hm fun d1 v1 B1 H1 h1 g1 r1 => hb T Γ σ B1 H1 _ _ g1.st (fun z => g1.nofz (nz z)) (e.grow g1) h1 fun d2 v2 B2 H2 ⟨xs, ys, e1, e2, hl, h2⟩ g2 r2 => by
    subst e1 e2
    obtain ⟨p, us, rfl, hp, hr⟩ := (r1.grow g2).lst g2.st.sub
    obtain ⟨q, ws, rfl, hq, hr2⟩ := r2.lst g2.st.sub
    exact ⟨p, q, us, ws, rfl, rfl, hp, hq, by rw [hr.length, hr2.length]; exact le_line hl, rf_new (g1.trans g2) (hr.append hr2) h2 k⟩
def mRep (a b : ME) : MF := fun Γ P => a Γ fun x => b Γ fun y => ∃ xs i, x = .list xs ∧ y = .int i ∧ -(2 ^ 63) ≤ i ∧ i < 2 ^ 63 ∧ xs.length * i.toNat ≤ 1000000 ∧ P (.lst (List.replicate i.toNat xs).flatten)
theorem rf_rep (ha : RQ z ta a) (hb : RQ z tb b) : RF z (tOp rRep ta tb) (mRep a b) := fun T Γ σ B H P Q s nz e hm k =>
  ha T Γ σ B H _ _ s nz e hm fun d1 v1 B1 H1 h1 g1 r1 => hb T Γ σ B1 H1 _ _ g1.st (fun z => g1.nofz (nz z)) (e.grow g1) h1 fun d2 v2 B2 H2 ⟨xs, i, e1, e2, l1, l2, hl, h2⟩ g2 r2 => by
    subst e1 e2
    obtain ⟨p, us, rfl, hp, hr⟩ := (r1.grow g2).lst g2.st.sub
    exact ⟨p, i, us, rfl, r2.int, hp, l1, l2, by rw [hr.length]; exact le_line hl, rf_new (g1.trans g2) hr.flat h2 k⟩
def mSlL (a : ME) (lo hi : MO) : MF := fun Γ P => a Γ fun x => lo Γ fun l => hi Γ fun h => ∃ ds, x = .list ds ∧ P (.lst (cutD ds l h))
theorem rf_slL {tl th : TO} {ml mh : MO} (ha : RQ z ta a) (hl : RO z tl ml) (hh : RO z th mh) : RF z (tSl (rSlL K) ta tl th) (mSlL a ml mh) := fun T Γ σ B H P Q s nz e hm k =>
  ha T Γ σ B H _ _ s nz e hm fun d1 v1 B1 H1 h1 g1 r1 => hl T Γ σ B1 H1 _ _ g1.st (fun z => g1.nofz (nz z)) (e.grow g1) h1 fun d2 B2 H2 h2 g2 =>
    hh T Γ σ B2 H2 _ _ g2.st (fun z => (g1.trans g2).nofz (nz z)) (e.grow (g1.trans g2)) h2 fun d3 B3 H3 ⟨ds, e1, h3⟩ g3 => by
      subst e1
      obtain ⟨p, us, rfl, hp, hr⟩ := ((r1.grow g2).grow g3).lst g3.st.sub
      exact ⟨p, us, rfl, .of hp, rf_new ((g1.trans g2).trans g3) hr.cut h3 k⟩
def mRevL (a : ME) : MF := fun Γ P => a Γ fun x => ∃ ds, x = .list ds ∧ P (.lst ds.reverse)
theorem rf_revL (ha : RQ z ta a) : RF z (tRevL K ta) (mRevL a) := fun T Γ σ B H P Q s nz e hm k =>
  ha T Γ σ B H _ _ s nz e hm fun d1 v1 B1 H1 ⟨ds, e1, h1⟩ g1 r1 => by
    subst e1
    obtain ⟨p, xs, rfl, hp, hr⟩ := r1.lst g1.st.sub
    exact ⟨p, xs, rfl, .of hp, rf_new g1 hr.reverse h1 k⟩
/-! ### what is walked -/
def iL (a : ME) : MA := fun Γ P => a Γ fun d => ∃ ds, d = .list ds ∧ P ds
def iT (a : ME) : MA := fun Γ P => a Γ fun d => ∃ ds, d = .tuple ds ∧ P ds
def iS (a : ME) : MA := fun Γ P => a Γ fun d => ∃ ds, (d = .list ds ∨ d = .tuple ds) ∧ P ds
theorem walkd_list {B : Hp} {p : Addr} {xs : List V} {ds : List PyData} (h : B p = some (.lst xs)) (r : RpA B xs ds) : WalkD w (Itl K p) ds B := by
  unfold WalkD
  rw [← r.length]
  exact (walk_list (K := K) (a := p) (xs := xs)).mono (fun H s => .of (s _ _ h)) fun i H x H' hi s ⟨e, hx⟩ => by
    obtain ⟨d, hd, rr⟩ := r.get hx
    exact ⟨d, hd, .inl ⟨e, rr⟩⟩
theorem walkd_tup {B : Hp} {p : Addr} {o : Obj} {xs : List V} {ds : List PyData} (h : B p = some (.frz o (.tup xs))) (r : RpA B xs ds) : WalkD w (Itt K p) ds B := by
  unfold WalkD
  rw [← r.length]
  exact (walk_tup (K := K) (a := p) (xs := xs)).mono (fun H s => .inl (.inr ⟨o, s _ _ h⟩)) fun i H x H' hi s ⟨e, hx⟩ => by
    obtain ⟨d, hd, rr⟩ := r.get hx
    exact ⟨d, hd, .inl ⟨e, rr⟩⟩
theorem ri_list (ha : RE z ta a) : RI z w (iList K ta) (iL a) := fun T Γ σ B H P R s nz e hm k =>
  ha T Γ σ B H _ _ s nz e hm fun d1 v1 B1 H1 ⟨ds, e1, h1⟩ g1 r1 => by
    subst e1
    obtain ⟨p, xs, rfl, hp, hr⟩ := r1.lst_inv
    exact ⟨p, rfl, ⟨xs, .of (g1.st.sub _ _ hp)⟩, k _ _ _ _ h1 g1 (walkd_list hp hr)⟩
theorem ri_tup (ha : RE z ta a) : RI z w (iTup K ta) (iT a) := fun T Γ σ B H P R s nz e hm k =>
  ha T Γ σ B H _ _ s nz e hm fun d1 v1 B1 H1 ⟨ds, e1, h1⟩ g1 r1 => by
    subst e1
    obtain ⟨p, o, xs, rfl, hp, _, hr⟩ := r1.tup_inv
    exact ⟨p, rfl, ⟨xs, .inl (.inr ⟨o, g1.st.sub _ _ hp⟩)⟩, k _ _ _ _ h1 g1 (walkd_tup hp hr)⟩
theorem ri_seq {i : Nat} : RI z w (iSeq K (tVar i)) (iS (mVar i)) := fun T Γ σ B H P R s nz e ⟨d, hd, ds, e1, h1⟩ k => by
  rcases e1 with rfl | rfl
  · exact .inl (ri_list re_var T Γ σ B H P R s nz e ⟨_, hd, ds, rfl, h1⟩ k)
  · exact .inr (ri_tup re_var T Γ σ B H P R s nz e ⟨_, hd, ds, rfl, h1⟩ k)
def enumD (ds : List PyData) : List PyData := (List.range ds.length).zipWith (fun i d => .tuple [.int (i : Nat), d]) ds
theorem enumD_len (ds : List PyData) : (enumD ds).length = ds.length := by unfold enumD; simp
theorem enumD_get {ds : List PyData} {i : Nat} {d : PyData} (h : ds[i]? = some d) : (enumD ds)[i]? = some (.tuple [.int (i : Nat), d]) := by
  unfold enumD
  obtain ⟨hi, hd⟩ := List.getElem?_eq_some_iff.mp h
  rw [List.getElem?_zipWith, h, List.getElem?_range hi]
theorem enumD_inv {ds : List PyData} {i : Nat} {x : PyData} (h : (enumD ds)[i]? = some x) : ∃ d, ds[i]? = some d ∧ x = .tuple [.int (i : Nat), d] := by
  obtain ⟨hi, _⟩ := List.getElem?_eq_some_iff.mp h
  rw [enumD_len] at hi
  have e := List.getElem?_eq_getElem hi
  rw [enumD_get e] at h
  exact ⟨_, e, (Option.some.inj h).symm⟩
def iE (a : ME) : MA := fun Γ P => a Γ fun d => ∃ ds, d = .list ds ∧ P (enumD ds)
theorem ri_enum (ha : RE z ta a) : RI z true (iEnum K (tCons ta tNil)) (iE a) := fun T Γ σ B H P R s nz e hm k =>
  ha T Γ σ B H _ _ s nz e hm fun d1 v1 B1 H1 ⟨ds, e1, h1⟩ g1 r1 => by
    subst e1
    obtain ⟨p, xs, rfl, hp, hr⟩ := r1.lst_inv
    refine ⟨p, xs, rfl, .of (g1.st.sub _ _ hp), k _ _ _ _ h1 g1 ?_⟩
    unfold WalkD
    rw [enumD_len, ← hr.length]
    exact (walk_enum (K := K) (a := p) (xs := xs)).mono (fun H s => .of (s _ _ hp)) fun i H x H' hi s ⟨T', u, v, e1, e2, e3, e4, e5⟩ => by
      obtain ⟨d, hd, rr⟩ := hr.get e5
      cases e4
      exact ⟨_, enumD_get hd, .inr ⟨rfl, T', _, v, _, _, e1, e2, e3, rfl, .int _, rr⟩⟩
def zipD (xs ys : List PyData) : List PyData := xs.zipWith (fun a b => .tuple [a, b]) ys
theorem zipD_get {xs ys : List PyData} {i : Nat} {a b : PyData} (h : xs[i]? = some a) (h' : ys[i]? = some b) : (zipD xs ys)[i]? = some (.tuple [a, b]) := by
  unfold zipD
  rw [List.getElem?_zipWith, h, h']
def iZ (a b : ME) : MA := fun Γ P => a Γ fun x => b Γ fun y => ∃ xs ys, x = .list xs ∧ y = .list ys ∧ P (zipD xs ys)
theorem ri_zip (ha : RE z ta a) (hb : RE z tb b) : RI z true (iZip K (tCons ta (tCons tb tNil))) (iZ a b) := fun T Γ σ B H P R s nz e hm k =>
  ha T Γ σ B H _ _ s nz e hm fun d1 v1 B1 H1 h1 g1 r1 => hb T Γ σ B1 H1 _ _ g1.st (fun z => g1.nofz (nz z)) (e.grow g1) h1 fun d2 v2 B2 H2 ⟨xs, ys, e1, e2, h2⟩ g2 r2 => by
    subst e1 e2
    obtain ⟨p, us, rfl, hp, hr⟩ := (r1.grow g2.sb).lst_inv
    obtain ⟨q, ws, rfl, hq, hr2⟩ := r2.lst_inv
    refine ⟨p, q, us, ws, rfl, .of (g2.st.sub _ _ hp), .of (g2.st.sub _ _ hq), k _ _ _ _ h2 (g1.trans g2) ?_⟩
    unfold WalkD
    refine (walk_zip (K := K) (a := p) (b := q) (xs := us) (ys := ws) (n := (zipD xs ys).length) (by unfold zipD; rw [List.length_zipWith, hr.length, hr2.length])).mono (fun H s => ⟨.of (s _ _ hp), .of (s _ _ hq)⟩) fun i H x H' hi s ⟨T', u, v, e1, e2, e3, e4, e5⟩ => ?_
    obtain ⟨d, hd, rr⟩ := hr.get e4
    obtain ⟨d', hd', rr'⟩ := hr2.get e5
    exact ⟨_, zipD_get hd hd', .inr ⟨rfl, T', u, v, _, _, e1, e2, e3, rfl, rr, rr'⟩⟩
def rngD (n : Nat) : List PyData := (List.range n).map fun i : Nat => .int (i : Nat)
theorem rngD_len (n : Nat) : (rngD n).length = n := by unfold rngD; simp
theorem rngD_get {n i : Nat} (h : i < n) : (rngD n)[i]? = some (.int (i : Nat)) := by
  unfold rngD
  rw [List.getElem?_map, List.getElem?_range h]; rfl
theorem rngD_inv {n i : Nat} {x : PyData} (h : (rngD n)[i]? = some x) : i < n ∧ x = .int (i : Nat) := by
  obtain ⟨hi, _⟩ := List.getElem?_eq_some_iff.mp h
  rw [rngD_len] at hi
  rw [rngD_get hi] at h
  exact ⟨hi, (Option.some.inj h).symm⟩
def iR (a : ME) : MA := fun Γ P => a Γ fun d => ∃ n : Nat, d = .int n ∧ n ≤ 1000000 ∧ P (rngD n)
theorem ri_rng (ha : RE z ta a) : RI z w (iRng1 (tCons ta tNil)) (iR a) := fun T Γ σ B H P R s nz e hm k =>
  ha T Γ σ B H _ _ s nz e hm fun d1 v1 B1 H1 ⟨n, e1, hn, h1⟩ g1 r1 => by
    subst e1
    cases r1.int_inv
    refine ⟨(n : Int), rfl, by omega, by omega, ?_⟩
    rw [Int.toNat_natCast]
    refine k _ _ _ _ h1 g1 ?_
    unfold WalkD
    rw [rngD_len]
    exact (walk_range (lo := 0) (n := n)).mono (fun H s => trivial) fun i H x H' hi s ⟨e, hx⟩ => ⟨_, rngD_get hi, .inl ⟨e, by rw [hx]; show Rp B1 (.int (0 + (i : Int))) _; rw [Int.zero_add]; exact .int _⟩⟩
/-! ### a def's own list -/
theorem Ev.val {T : Tx} {B0 H0 B H : Hp} {σ : L2.St} {Γ : Gm} (e : Ev T B0 H0 B H σ Γ) {i : Nat} {ds : List PyData} (h : Γ[i]? = some (.own (.lst ds))) : ∃ l vs, σ[i]? = some (some (.ref l)) ∧ H l = some (.lst vs) ∧ RpA B vs ds := by
  obtain ⟨l, hx, _, _, ⟨vs, h1, h2⟩, _⟩ := e.own h
  exact ⟨l, vs, hx, h1, h2⟩
theorem Ev.val2 {T : Tx} {B0 H0 B H : Hp} {σ : L2.St} {Γ : Gm} (e : Ev T B0 H0 B H σ Γ) {i : Nat} {l : Addr} {ds : List PyData} (h : Γ[i]? = some (.own (.lst ds))) (hx : σ[i]? = some (some (.ref l))) : ∃ vs, H l = some (.lst vs) ∧ RpA B vs ds := by
  obtain ⟨l', vs, h1, h2, h3⟩ := e.val h
  rw [hx] at h1; cases h1
  exact ⟨vs, h2, h3⟩
def mApp (i : Nat) (m : ME) : MS := fun Γ P => ∃ ds, Γ[i]? = some (.own (.lst ds)) ∧ ds.length < 1000000 ∧ m Γ fun d => P (.nx (Γ.set i (.own (.lst (ds ++ [d])))))
theorem rs_app {i : Nat} (h : RE z te m) : RS z fr (tDrop (tBM K "list" rAppend (tVar i) (tCons te tNil))) (mApp i m) := fun T B0 H0 Γ σ B H P D nz e ⟨ds, h1, hl, hm⟩ kn kr => by
  obtain ⟨l, vs, hx, hH, hr⟩ := e.val h1
  refine ⟨_, hx, .inl ⟨rfl, _, .of hH⟩, h T Γ σ B H _ _ e.st (fun z => e.gr.nofz (nz z)) e.env hm fun d v B' H' hp gr r => ?_⟩
  have e2 := e.grow gr
  obtain ⟨vs', hH', hr'⟩ := e2.val2 h1 hx
  exact nil_go ⟨l, vs', v, rfl, rfl, hH', by rw [hr'.length]; exact lt_line (by omega), kn _ _ _ _ hp gr.sb (e2.mut hx h1 ⟨_, upd_same, hr'.snoc r⟩)⟩
def mIns (i : Nat) (a b : ME) : MS := fun Γ P => ∃ ds, Γ[i]? = some (.own (.lst ds)) ∧ ds.length < 1000000 ∧ a Γ fun k => b Γ fun d => ∃ n : Nat, k = .int n ∧ n ≤ 1000000 ∧ P (.nx (Γ.set i (.own (.lst (ds.take n ++ [d] ++ ds.drop n)))))
theorem rs_ins {i : Nat} (ha : RE z ta a) (hb : RE z tb b) : RS z fr (tDrop (tBM K "list" rInsertL (tVar i) (tCons ta (tCons tb tNil)))) (mIns i a b) := fun T B0 H0 Γ σ B H P D nz e ⟨ds, h1, hl, hm⟩ kn kr => by
  obtain ⟨l, vs, hx, hH, hr⟩ := e.val h1
  refine ⟨_, hx, .inl ⟨rfl, _, .of hH⟩, ha T Γ σ B H _ _ e.st (fun z => e.gr.nofz (nz z)) e.env hm fun d v B1 H1 hp g1 r => hb T Γ σ B1 H1 _ _ g1.st (fun z => (e.gr.trans g1).nofz (nz z)) (e.env.grow g1) hp fun d2 v2 B2 H2 ⟨n, en, hn, h2⟩ g2 r2 => ?_⟩
  subst en
  cases r.int_inv
  have e2 := e.grow (g1.trans g2)
  obtain ⟨vs', hH', hr'⟩ := e2.val2 h1 hx
  refine nil_go ⟨l, vs', (n : Int), v2, rfl, rfl, hH', by rw [hr'.length]; exact lt_line (by omega), by omega, by omega, ?_⟩
  rw [Int.toNat_natCast]
  exact kn _ _ _ _ h2 (g1.sb.trans g2.sb) (e2.mut hx h1 ⟨_, upd_same, ((hr'.take n).snoc r2).append (hr'.drop n)⟩)
def mRem (i : Nat) (a : ME) : MS := fun Γ P => ∃ ps : List Str, Γ[i]? = some (.own (.lst (ps.map .str))) ∧ a Γ fun d => ∃ s : Str, d = .str s ∧ s ∈ ps ∧ P (.nx (Γ.set i (.own (.lst ((ps.erase s).map .str)))))
theorem rs_rem {i : Nat} (ha : RE z ta a) : RS z fr (tDrop (tBM K "list" rRemoveS (tVar i) (tCons ta tNil))) (mRem i a) := fun T B0 H0 Γ σ B H P D nz e ⟨ps, h1, hm⟩ kn kr => by
  obtain ⟨l, vs, hx, hH, hr⟩ := e.val h1
  refine ⟨_, hx, .inl ⟨rfl, _, .of hH⟩, ha T Γ σ B H _ _ e.st (fun z => e.gr.nofz (nz z)) e.env hm fun d v B1 H1 ⟨q, eq, hq, h2⟩ g1 r => ?_⟩
  subst eq
  cases r.str_inv
  have e2 := e.grow g1
  obtain ⟨vs', hH', hr'⟩ := e2.val2 h1 hx
  have := hr'.strs
  subst this
  exact nil_go (r_remove hH' hq (kn _ _ _ _ h2 g1.sb (e2.mut hx h1 ⟨_, upd_same, rpa_strs _⟩)))
def mExt (i : Nat) (a : ME) : MS := fun Γ P => ∃ ds, Γ[i]? = some (.own (.lst ds)) ∧ a Γ fun d => ∃ es, d = .list es ∧ ds.length + es.length ≤ 1000000 ∧ P (.nx (Γ.set i (.own (.lst (ds ++ es)))))
theorem rs_ext {i : Nat} (ha : RE z ta a) : RS z fr (tDrop (tBM K "list" rExtend (tVar i) (tCons ta tNil))) (mExt i a) := fun T B0 H0 Γ σ B H P D nz e ⟨ds, h1, hm⟩ kn kr => by
  obtain ⟨l, vs, hx, hH, hr⟩ := e.val h1
  refine ⟨_, hx, .inl ⟨rfl, _, .of hH⟩, ha T Γ σ B H _ _ e.st (fun z => e.gr.nofz (nz z)) e.env hm fun d v B1 H1 ⟨es, eq, hl, h2⟩ g1 r => ?_⟩
  subst eq
  obtain ⟨p, us, rfl, hp, hr2⟩ := r.lst_inv
  have e2 := e.grow g1
  obtain ⟨vs', hH', hr'⟩ := e2.val2 h1 hx
  exact nil_go ⟨l, p, vs', us, rfl, rfl, hH', g1.st.sub _ _ hp, by rw [hr'.length, hr2.length]; exact le_line hl, kn _ _ _ _ h2 g1.sb (e2.mut hx h1 ⟨_, upd_same, hr'.append hr2⟩)⟩
def mSetI (i : Nat) (a b : ME) : MS := fun Γ P => ∃ ds, Γ[i]? = some (.own (.lst ds)) ∧ b Γ fun d => a Γ fun k => ∃ j n, k = .int j ∧ ixN ds.length j = some n ∧ P (.nx (Γ.set i (.own (.lst (ds.set n d)))))
theorem rs_setI {i : Nat} (ha : RE z ta a) (hb : RE z tb b) : RS z fr (tAsg tb (gSub (tVar i) ta rSetL)) (mSetI i a b) := fun T B0 H0 Γ σ B H P D nz e ⟨ds, h1, hm⟩ kn kr => by
  obtain ⟨l, vs, hx, hH, hr⟩ := e.val h1
  refine hb T Γ σ B H _ _ e.st (fun z => e.gr.nofz (nz z)) e.env hm fun d v B1 H1 hp g1 r => ⟨_, hx, ha T Γ σ B1 H1 _ _ g1.st (fun z => (e.gr.trans g1).nofz (nz z)) (e.env.grow g1) hp fun d2 v2 B2 H2 ⟨j, n, ej, hn, h2⟩ g2 r2 => ?_⟩
  subst ej
  have e2 := e.grow (g1.trans g2)
  obtain ⟨vs', hH', hr'⟩ := e2.val2 h1 hx
  exact ⟨l, vs', j, n, rfl, r2.int_inv, hH', by rw [hr'.length]; exact hn, kn _ _ _ _ h2 (g1.sb.trans g2.sb) (e2.mut hx h1 ⟨_, upd_same, hr'.set n (r.grow g2.sb)⟩)⟩
/-! ### a law -/
theorem law_W {N : List Str} {vs : List V} {H : Hp} {Q : VK} {k : Nat} (hN : N.length = 2 + k) (rs : RS false false ts s) (hp : s (.no :: .tape :: List.replicate k .no) (endW fun d => d = .bool true))
    (h : ∃ (a : Addr) (ns : List Int), vs = [.ref a] ∧ SqL K H a (ns.map V.int) ∧ ns.length ≤ 63 ∧ ∀ H', Q (.bl true) H') :
    tSeq (tAsg (tLst (tCons (tCB (rListOf K) (tCons (tVar 0) tNil)) (tCons (tC (.int 0)) (tCons (tC (.int 0)) tNil)))) (gName 1)) ts { nx := fun _ H' => Q .non H', rt := Q } (start N vs) H := by
  obtain ⟨a, ns, rfl, hA, hns, q⟩ := h
  obtain ⟨y0, y1, N', rfl⟩ : ∃ y0 y1 N', N = y0 :: y1 :: N' := by
    match N, hN with
    | [], h => simp at h; omega
    | [_], h => simp at h; omega
    | y0 :: y1 :: N', _ => exact ⟨_, _, _, rfl⟩
  have es : start (y0 :: y1 :: N') [V.ref a] = some (.ref a) :: none :: List.replicate N'.length none := by
    unfold L2.start
    simp [List.replicate_succ]
  rw [es]
  refine ⟨_, rfl, a, _, rfl, .inl hA, fun s' nS => ⟨by show 3 ≤ sizeLine; decide, fun t nt => ?_⟩⟩
  have hst : s' ≠ t := fun e => by rw [← e, upd_same] at nt; cases nt
  generalize eH : upd (upd H s' (.lst (ns.map V.int))) t (.lst [.ref s', .int 0, .int 0]) = H1
  have ht : H1 t = some (.lst [.ref s', .int 0, .int 0]) := by rw [← eH]; exact upd_same
  have st : Stt (some (t, s')) (fun x => if x = s' then some (.lst (ns.map V.int)) else none) H1 := by
    refine ⟨fun x o hx => ?_, fun t2 s2 e => ?_⟩
    · by_cases e : x = s'
      · subst e
        rw [if_pos rfl] at hx
        rw [← eH, upd_ne hst, upd_same]; exact hx
      · rw [if_neg e] at hx; cases hx
    · cases e
      exact ⟨⟨0, 0, ht, by decide, by decide⟩, ⟨ns, if_pos rfl⟩, if_neg (Ne.symm hst)⟩
  have hk : N'.length = k := by simp only [List.length_cons] at hN; omega
  have no : ∀ (i : Nat) (o : Ow), (Sv.no :: Sv.tape :: List.replicate k .no)[i]? = some (.own o) → False := fun i o h => by
    match i, h with
    | 0, h => cases h
    | 1, h => cases h
    | i + 2, h =>
      have : (List.replicate k Sv.no)[i]? = some (.own o) := by simpa using h
      exact nomatch getElem_rep this
  refine rs (some (t, s')) _ H1 (.no :: .tape :: List.replicate k .no) _ _ H1 (endW fun d => d = .bool true) _ (fun e => nomatch e) ⟨.refl st, ⟨by simp [hk], fun i x g hx hg => ?_⟩, fun i l o _ h => (no i o h).elim, fun i j l o o' _ _ h => (no i o h).elim⟩ hp (fun Γ' σ' B' H' hp _ e => nomatch hp) (fun d v B' H' hp g r _ => ?_)
  · match i, hx, hg with
    | 0, hx, hg => cases hg; trivial
    | 1, hx, hg =>
      cases hg
      have : x = some (.ref t) := by simpa using hx.symm
      exact ⟨t, s', this, rfl⟩
    | i + 2, hx, hg =>
      have : (List.replicate k Sv.no)[i]? = some g := by simpa using hg
      rw [getElem_rep this]; trivial
  · have : d = .bool true := hp
    subst this
    rw [r.bl_inv]; exact q H'
end
end LT

/-! LP5: kinds, texts, dicts by comprehension. -/
namespace LT
open PySem PySem.Spec PyProof.Rows L2
section
variable {z w fr : Bool} {te ta tb tc : TE} {m a b c : ME} {ts : TS} {s : MS} {K : PySem.W.Frag}
/-! ### isinstance -/
def tyN : PyData → String
  | .none => "NoneType"
  | .bool _ => "bool"
  | .int _ => "int"
  | .str _ => "str"
  | .list _ => "list"
  | .tuple _ => "tuple"
  | .dict _ => "dict"
def isInt : PyData → Bool
  | .int _ => true
  | .bool _ => true
  | _ => false
def isBool : PyData → Bool
  | .bool _ => true
  | _ => false
def isStr : PyData → Bool
  | .str _ => true
  | _ => false
def isList : PyData → Bool
  | .list _ => true
  | _ => false
def isTup : PyData → Bool
  | .tuple _ => true
  | _ => false
theorem Rq.ty {T : Tx} {B H : Hp} {v : V} {d : PyData} (h : Rq T B H v d) (s : Same B H) (hd : ∀ k, d ≠ .dict k) : TyX K H v (.type (tyN d)) := by
  rcases h with h | ⟨l, o, rfl, _, _, k, ⟨ds, rfl, rfl⟩ | ⟨_, _, rfl⟩⟩
  · cases h with
    | non => exact .base .non
    | bl b => exact .base (.bl b)
    | int b => exact .base (.int b)
    | str b => exact .base (.str b)
    | lst h r => exact .base (.lst (s _ _ h))
    | tup h n r => exact .fTuple (s _ _ h)
    | wpr h => exact absurd rfl (hd _)
    | dic h => exact absurd rfl (hd _)
  · obtain ⟨vs, h1, h2⟩ := k
    exact .base (.lst h1)
  · exact absurd rfl (hd _)
def mIsi (f : PyData → Bool) (a : ME) : ME := fun Γ P => a Γ fun d => (∀ k, d ≠ .dict k) ∧ P (.bool (f d))
theorem re_isi {c : String} {f : PyData → Bool} (hk : ∀ d, (∀ k, d ≠ .dict k) → kitB (tyN d) c = some (f d)) (ha : RQ z ta a) : RE z (tCB (rIsi K) (tCons ta (tCons (tC (.ty c)) tNil))) (mIsi f a) := fun T Γ σ B H P Q s nz e hm k =>
  ha T Γ σ B H _ _ s nz e hm fun d1 v1 B1 H1 ⟨hd, h1⟩ g1 r1 => ⟨_, _, _, _, _, rfl, .ty c, r1.ty g1.st.sub hd, kit_ty (hk d1 hd), k _ _ _ _ h1 g1 (.bl _)⟩
theorem kt_int : ∀ d, (∀ k, d ≠ .dict k) → kitB (tyN d) "int" = some (isInt d) := fun d hd => by
  cases d <;> first | exact absurd rfl (hd _) | decide +kernel | rfl
theorem kt_bool : ∀ d, (∀ k, d ≠ .dict k) → kitB (tyN d) "bool" = some (isBool d) := fun d hd => by
  cases d <;> first | exact absurd rfl (hd _) | decide +kernel | rfl
theorem kt_str : ∀ d, (∀ k, d ≠ .dict k) → kitB (tyN d) "str" = some (isStr d) := fun d hd => by
  cases d <;> first | exact absurd rfl (hd _) | decide +kernel | rfl
theorem kt_list : ∀ d, (∀ k, d ≠ .dict k) → kitB (tyN d) "list" = some (isList d) := fun d hd => by
  cases d <;> first | exact absurd rfl (hd _) | decide +kernel | rfl
theorem kt_tuple : ∀ d, (∀ k, d ≠ .dict k) → kitB (tyN d) "tuple" = some (isTup d) := fun d hd => by
  cases d <;> first | exact absurd rfl (hd _) | decide +kernel | rfl
/-- isinstance(x, (c1, c2)) -/
def mIsi2 (f g : PyData → Bool) (a : ME) : ME := fun Γ P => a Γ fun d => (∀ k, d ≠ .dict k) ∧ P (.bool (f d || g d))
theorem re_isi2 {c c' : String} {f g : PyData → Bool} (hk : ∀ d, (∀ k, d ≠ .dict k) → kitB (tyN d) c = some (f d)) (hk' : ∀ d, (∀ k, d ≠ .dict k) → kitB (tyN d) c' = some (g d)) (ha : RQ z ta a) :
    RE z (tCB (rIsiT K) (tCons ta (tCons (tTup (tCons (tC (.ty c)) (tCons (tC (.ty c')) tNil))) tNil))) (mIsi2 f g a) := fun T Γ σ B H P Q s nz e hm k =>
  ha T Γ σ B H _ _ s nz e hm fun d1 v1 B1 H1 ⟨hd, h1⟩ g1 r1 => ⟨by show 2 ≤ sizeLine; decide, fun p hp => by
    have g2 := (Gr.refl g1.st).mut (o := .tup [.ty c, .ty c']) hp (g1.st.fr hp) (g1.st.ntp hp)
    refine ⟨_, p, _, _, _, _, rfl, upd_same, .cons (.ty c) (.cons (.ty c') .nil), (r1.grow g2).ty g2.st.sub hd, kitAny_cons (r := f d1 || g d1) (kit_ty (hk d1 hd)) (fun q => kitAny_cons (kit_ty (hk' d1 hd)) (fun q' => ?_) fun q' => ?_) fun q => ?_, k _ _ _ _ h1 (g1.trans g2) (.bl _)⟩
    · rw [q, q']; exact kitAny_nil
    · rw [q', Bool.or_true]
    · rw [q, Bool.true_or]⟩
/-! ### any place -/
def fIxA : F2 := fun x y P => fIxL x y P ∨ fIxT x y P
theorem o2_ixA : O2 (rIx K) fIxA := fun T B H x y dx dy P Q s rx ry h k => by
  rcases h with h | h
  · exact .inl (o2_ixL T B H x y dx dy P Q s rx ry h k)
  · exact .inr (.inl (o2_ixT T B H x y dx dy P Q s rx ry h k))
def fNotB : F2 := fun x y P => ∃ i j, x = .bool i ∧ y = .bool j ∧ P (.bool (!decide (i = j)))
theorem o2_notB : O2 rNotB fNotB := fun T B H x y dx dy P Q s rx ry ⟨i, j, e1, e2, hp⟩ k => by
  subst e1 e2
  exact ⟨i, j, rx.bl, ry.bl, k _ _ _ _ hp (.refl s) (.bl _)⟩
/-! ### texts -/
def fLenS : F1 := fun x P => ∃ i : Str, x = .str i ∧ i.length ≤ 1000000 ∧ P (.int i.length)
theorem o1_lenS : O1 rLenSt fLenS := fun T B H x dx P Q s rx ⟨i, e, hl, hp⟩ k => by
  subst e
  exact ⟨i, by rw [rx.str], le_line hl, k _ _ _ _ hp (.refl s) (.int _)⟩
def fInSg : F2 := fun x y P => ∃ (c : Nat) (i : Str), x = .str ⟨#[c]⟩ ∧ y = .str i ∧ P (.bool (decide (c ∈ i.cps.toList)))
theorem o2_inSg : O2 rInSg fInSg := fun T B H x y dx dy P Q s rx ry ⟨c, i, e1, e2, hp⟩ k => by
  subst e1 e2
  exact ⟨c, i, rx.str, ry.str, k _ _ _ _ hp (.refl s) (.bl _)⟩
def fNotInSg : F2 := fun x y P => ∃ (c : Nat) (i : Str), x = .str ⟨#[c]⟩ ∧ y = .str i ∧ P (.bool (!decide (c ∈ i.cps.toList)))
theorem o2_notInSg : O2 rNotInSg fNotInSg := fun T B H x y dx dy P Q s rx ry ⟨c, i, e1, e2, hp⟩ k => by
  subst e1 e2
  exact ⟨c, i, rx.str, ry.str, k _ _ _ _ hp (.refl s) (.bl _)⟩
def fAddS : F2 := fun x y P => ∃ i j : Str, x = .str i ∧ y = .str j ∧ i.length + j.length ≤ 1000000 ∧ P (.str (i ++ j))
theorem o2_addS : O2 rAddSt fAddS := fun T B H x y dx dy P Q s rx ry ⟨i, j, e1, e2, hl, hp⟩ k => by
  subst e1 e2
  exact ⟨i, j, rx.str, ry.str, le_line hl, k _ _ _ _ hp (.refl s) (.str _)⟩
def fLtS : F2 := fun x y P => ∃ i j : Str, x = .str i ∧ y = .str j ∧ P (.bool (decide (i.cps.toList < j.cps.toList)))
theorem o2_ltS : O2 rLtS fLtS := fun T B H x y dx dy P Q s rx ry ⟨i, j, e1, e2, hp⟩ k => by
  subst e1 e2
  exact ⟨i, j, rx.str, ry.str, k _ _ _ _ hp (.refl s) (.bl _)⟩
def sgnD (i : Str) : List PyData := i.cps.toList.map fun c => .str ⟨#[c]⟩
def iSt (a : ME) : MA := fun Γ P => a Γ fun d => ∃ i : Str, d = .str i ∧ P (sgnD i)
theorem ri_str (ha : RE z ta a) : RI z w (iStr ta) (iSt a) := fun T Γ σ B H P R s nz e hm k =>
  ha T Γ σ B H _ _ s nz e hm fun d1 v1 B1 H1 ⟨i, e1, h1⟩ g1 r1 => by
    subst e1
    cases r1.str_inv
    refine ⟨i, rfl, k _ _ _ _ h1 g1 ?_⟩
    unfold WalkD
    have hl : (sgnD i).length = i.cps.size := by unfold sgnD; simp
    rw [hl]
    exact (walk_str (z := i)).mono (fun H s => trivial) fun j H x H' hj s ⟨e, c, hc, hx⟩ => by
      refine ⟨.str ⟨#[c]⟩, ?_, .inl ⟨e, by rw [hx]; exact .str _⟩⟩
      unfold sgnD
      rw [List.getElem?_map, Array.getElem?_toList, hc]; rfl
def fAll : F1 := fun x P => ∃ bs : List Bool, x = .list (bs.map .bool) ∧ P (.bool (bs.all id))
theorem o1_all : O1 (rAll K) fAll := fun T B H x dx P Q s rx ⟨ns, e, hp⟩ k => by
  subst e
  obtain ⟨p, xs, rfl, h1, h2⟩ := rx.lst s.sub
  have := h2.bls
  subst this
  exact ⟨p, ns, rfl, .of h1, k _ _ _ _ hp (.refl s) (.bl _)⟩
/-! ### dicts by comprehension -/
def putS (kvs : List (Key × Sc)) (k : Key) (v : Sc) : List (Key × Sc) := if (kvs.any fun kv => decide (kv.1 = k)) = true then kvs.map (fun kv => if kv.1 = k then (kv.1, v) else kv) else kvs ++ [(k, v)]
theorem putS_dkv (kvs : List (Key × Sc)) (k : Key) (v : Sc) : putK (dkv kvs) k (scV v) = dkv (putS kvs k v) := by
  unfold putK putS dkv
  have e : ((kvs.map fun p => (p.1, scV p.2)).any fun kv => decide (kv.1 = k)) = kvs.any fun kv => decide (kv.1 = k) := by
    rw [List.any_map]; rfl
  rw [e]
  split
  · rw [List.map_map, List.map_map]
    apply List.map_congr_left
    intro p _
    simp only [Function.comp]
    split <;> rfl
  · rw [List.map_append]; rfl
theorem Rp.ky {B : Hp} {v : V} {k : Key} (h : Rp B v (kyD k)) : v = kV k := by
  cases k with
  | inl i => exact h.int_inv
  | inr i => exact h.str_inv
theorem Rp.sc {B : Hp} {v : V} {k : Sc} (h : Rp B v (scD k)) : v = scV k := by
  cases k with
  | inl i => exact h.int_inv
  | inr i => exact h.bl_inv
theorem rp_sc {B : Hp} (k : Sc) : Rp B (scV k) (scD k) := by
  cases k with
  | inl i => exact .int i
  | inr i => exact .bl i
theorem rp_ky {B : Hp} (k : Key) : Rp B (kV k) (kyD k) := by
  cases k with
  | inl i => exact .int i
  | inr i => exact .str i
def DcI (g : MG) (tt : MT) (tk tv : ME) (vs : List Nat) (Γ : Gm) (xs : List PyData) (P : Ow → Prop) : Prop := ∃ I : Nat → List (Key × Sc) → Prop, I 0 [] ∧ (∀ (j : Nat) (x : PyData) (acc : List (Key × Sc)), xs[j]? = some x → I j acc → g x (wipeG Γ vs) fun Γ2 => tt Γ2 fun b =>
  if b = true then tk Γ2 fun d => tv Γ2 fun d' => ∃ k v, d = kyD k ∧ d' = scD v ∧ acc.length < 1000000 ∧ I (j + 1) (putS acc k v) else I (j + 1) acc) ∧ ∀ acc, I xs.length acc → P (.dic acc)
def mDc (it : MA) (g : MG) (tt : MT) (tk tv : ME) (vs : List Nat) : MF := fun Γ P => it Γ fun xs => DcI g tt tk tv vs Γ xs P
theorem dc_it {J : It} {n : Nat} {G : Hp → Prop} {Y : Nat → Hp → V → Hp → Prop} (w : Walk J n G Y) {g : TG} {tt : TT} {tk tv : TE} {vs : List Nat} {σ : L2.St} {H1 : Hp} {D : Addr} {Qd : Hp → Prop} (Pv : Nat → Hp → Prop) (h0 : Pv 0 (upd H1 D (.dK []))) (hG : ∀ i H, i ≤ n → Pv i H → G H)
    (hs : ∀ i x H H', i < n → Pv i H → Y i H x H' → g x (L2.wipe σ vs) H' fun σ2 H2 => L2.wipe σ2 vs = L2.wipe σ vs ∧ tt σ2 H2 fun b H3 =>
      if b = true then tk σ2 H3 fun y H4 => tv σ2 H4 fun z H5 => ∃ kvs k, y = kV k ∧ H5 D = some (.dK kvs) ∧ kvs.length < sizeLine ∧ Pv (i + 1) (upd H5 D (.dK (putK kvs k z))) else Pv (i + 1) H3) (hd : ∀ H, Pv n H → Qd H) :
    ∃ W : Nat → Nat → Hp → Prop, (∃ m, W 0 m (upd H1 D (.dK []))) ∧ ∀ i m H, W i m H →
      (J.stop i H ∧ Qd H) ∨ (J.go i H ∧ ∃ Nx : Hp → Prop, (∀ H', Nx H' → ∃ m', m' < m ∧ W (i + 1) m' H') ∧ ∀ x H', J.yld i H x H' → g x (L2.wipe σ vs) H' fun σ2 H2 => L2.wipe σ2 vs = L2.wipe σ vs ∧ tt σ2 H2 fun b H3 =>
        if b = true then tk σ2 H3 fun y H4 => tv σ2 H4 fun z H5 => ∃ kvs k, y = kV k ∧ H5 D = some (.dK kvs) ∧ kvs.length < sizeLine ∧ Nx (upd H5 D (.dK (putK kvs k z))) else Nx H3) := by
  refine ⟨fun i m H => m = n - i ∧ i ≤ n ∧ Pv i H, ⟨n, by simp, Nat.zero_le _, h0⟩, ?_⟩
  rintro i m H ⟨rfl, hi, p⟩
  have q := hG i H hi p
  by_cases hlt : i < n
  · refine .inr ⟨w.goes i H hlt q, Pv (i + 1), fun H' p' => ⟨n - (i + 1), by omega, rfl, hlt, p'⟩, fun x H' y => hs i x H H' hlt p (w.yields i H x H' hlt q y)⟩
  · have e : i = n := by omega
    subst e
    exact .inl ⟨w.stops H q, hd H p⟩
theorem rf_dc {it : TI} {mi : MA} {vs : List Nat} {g : TG} {mg : MG} {tt : TT} {mt : MT} {tk tv : TE} {mk mv : ME} (hi : RI z w it mi) (hg : RG w vs g mg) (ht : RT z tt mt) (hk : RE z tk mk) (he : RE z tv mv) : RF z (tDc it g tt tk tv vs) (mDc mi mg mt mk mv vs) := fun T Γ σ B H P Q s nz e hm k =>
  hi T Γ σ B H _ _ s nz e hm fun xs J B1 H1 ⟨I, i0, is, ie⟩ g1 wk => fun D nD => by
    have nt := g1.st.ntp nD
    have hb1 := g1.st.fr nD
    refine dc_it wk (fun j H2 => ∃ kvs B2, Gr T B1 H1 B2 H2 ∧ B2 D = none ∧ H2 D = some (.dK (dkv kvs)) ∧ I j kvs)
      ⟨[], B1, (Gr.refl g1.st).mut nD hb1 nt, hb1, upd_same, i0⟩ (fun j H2 _ ⟨_, B2, g2, _⟩ => g2.sb.trans g2.st.sub) ?_ ?_
    · rintro j x H2 H2' hj ⟨kvs, B2, g2, hD, hH, hI⟩ ⟨d, hd, y⟩
      obtain ⟨B3, g3, wp⟩ := YD.step g2.st g2.sb y
      have g13 := g1.trans (g2.trans g3)
      have e3 := (e.grow g13).wipe vs
      refine hg T B3 H2' _ _ x d _ _ g3.st e3 wp (is j d kvs hd hI) fun σ2 Γ2 h2 e2 _ wq => ⟨by rw [wq]; exact wipe_wipe vs fun _ h => h, ?_⟩
      have hH3 := g3.sh _ _ nt hH
      have hD3 := (g3.nw _ _ hH).1.trans hD
      refine ht T Γ2 σ2 B3 H2' _ _ g3.st (fun z => g13.nofz (nz z)) e2 h2 fun b B4 H4 h4 g4 => ?_
      have hH4 := g4.sh _ _ nt hH3
      have hD4 := (g4.nw _ _ hH3).1.trans hD3
      cases b with
      | false =>
        rw [if_neg Bool.false_ne_true] at h4 ⊢
        exact ⟨kvs, B4, (g2.trans g3).trans g4, hD4, hH4, h4⟩
      | true =>
        rw [if_pos rfl] at h4 ⊢
        refine hk T Γ2 σ2 B4 H4 _ _ g4.st (fun z => (g13.trans g4).nofz (nz z)) (e2.grow g4) h4 fun d' v B5 H5 h5 g5 r5 => he T Γ2 σ2 B5 H5 _ _ g5.st (fun z => ((g13.trans g4).trans g5).nofz (nz z)) ((e2.grow g4).grow g5) h5 fun d'' v' B6 H6 ⟨kk, vv, ek, ev, hl, h6⟩ g6 r6 => ?_
        have hH6 := g6.sh _ _ nt (g5.sh _ _ nt hH4)
        have hD6 := (g6.nw _ _ (g5.sh _ _ nt hH4)).1.trans ((g5.nw _ _ hH4).1.trans hD4)
        subst ek ev
        refine ⟨dkv kvs, kk, r5.ky, hH6, by unfold dkv; rw [List.length_map]; exact lt_line (by omega), putS kvs kk vv, B6, ((((g2.trans g3).trans g4).trans g5).trans g6).mut nD hD6 nt, hD6, ?_, h6⟩
        rw [upd_same, r6.sc, putS_dkv]
    · rintro H2 ⟨kvs, B2, g2, hD, hH, hI⟩
      exact k _ _ _ _ (ie _ hI) (g1.trans g2) (g1.back nD) hD hH
def vLetters : Str := "abcdefghijklmnopqrstuvwxyz"
def fLenD : F1 := fun x P => ∃ kvs, x = dD kvs ∧ P (.int kvs.length)
/-- len(d), d a new one -/
def mLenDF (f : MF) : ME := fun Γ P => f Γ fun o => ∃ kvs, o = .dic kvs ∧ P (.int kvs.length)
theorem re_lenDF {f : MF} (h : RF z ta f) : RE z (tCB rLenDk (tCons ta tNil)) (mLenDF f) := fun T Γ σ B H P Q s nz e hm k =>
  h T Γ σ B H _ _ s nz e hm fun o l B1 H1 ⟨kvs, eo, hp⟩ g hl hb ok => by
    subst eo
    have ok : H1 l = some (.dK (dkv kvs)) := ok
    refine ⟨l, _, rfl, ok, ?_⟩
    have : (dkv kvs).length = kvs.length := by unfold dkv; rw [List.length_map]
    rw [this]
    exact k _ _ _ _ hp g (.int _)
end
end LT

/-! LTo: sorted of texts in a list or a tuple. -/
namespace LT
open PySem PySem.Spec PyProof.Rows L2
section
variable {prog : Program} {w : World} {A : Around} {E : Value → Shared → Prop} {s : Shared}
theorem sorted_tupK {κ : PyProof.Rows.KeyKind} (hO : κ.OneLt) {l : Addr} {o : Obj} {n : Nat} {vs : List Value} {Q : Value → Shared → Prop} (ho : s.heap.get? l = some o) (hc : o.cls = .type "tuple") (hd : o.data = .seq vs.toArray n) (h0 : KeysOf κ (pairsOf vs))
    (hkk : ∀ v₁ v₂ rest, vs = v₁ :: v₂ :: rest → keyKind' (v₁ :: v₂ :: rest).toArray = pure oneType') (h64 : vs.length < 64)
    (h : ∀ (h1 : Heap) (st' : SortSt), (∀ b o', s.heap.get? b = some o' → h1.get? b = some o') → (arrOf st').Perm (pairsOf vs) → SortedToK κ (arrOf st') (pairsOf vs).size → Q (.ref h1.objs.size) { s with heap := sortedHeap (h1.push (seqObj "list" vs.toArray 0)) h1.objs.size vs ((arrOf st').map (·.2)) }) :
    wpAny (model prog w) A (call (.builtin "sorted") [.ref l]) Q E s := by
  refine Calls.call_function_entry kind_sorted plain_sorted entry_sorted (args_sorted1 _) ?_
  unfold Builtin.«sorted»
  refine wpAny_bind (m := checkCount "sorted" 1 1 _) (wpAny_pure ?_)
  refine wpAny_bind (wpAny_collect_seq l (.inr rfl) ho hc hd (fun h1 kp => ?_) (by rw [List.size_toArray, sizeLine_eq]; omega))
  refine wpAny_bind (wpAny_newList ?_)
  have e : vs.toArray.toList = vs := by simp
  rw [e]
  have hoL : (h1.push (seqObj "list" vs.toArray 0)).get? h1.objs.size = some (seqObj "list" vs.toArray 0) := Heap.get?_push_size _ rfl
  refine wpAny_bind (wpAny_holding (wpAny_call_entry slot_list_sort ⟨_, hoL, rfl⟩ entry_list_sort (list_sort_treeK hO hoL h0 hkk h64 fun st' a1 a2 => ⟨_, rfl, ?_⟩) (args_list_sort _)))
  exact wpAny_pure ⟨_, rfl, h h1 st' kp a1 a2⟩
end
section
variable {X : Cx}
def rSortedSq (K : PySem.W.Frag) : List V → Hp → VK → Prop := fun vs H Q => ∃ (a : Addr) (xs : List Str), vs = [V.ref a] ∧ SqA K H a (xs.map V.str) ∧ xs.length < 64 ∧ ∀ (ys : List Str) (p : Addr), ys.Perm xs → sortedS ys = true → H p = none → Q (.ref p) (upd H p (.lst (ys.map V.str)))
theorem cr_sortedSq : CallR X (.builtin "sorted") (rSortedSq X.K) := by
  intro pins s σ H vs us Q I r h
  obtain ⟨a, xs, rfl, hs, h64, q⟩ := h
  rcases hs with hs | hs
  · exact cr_sortedS pins s σ H _ us Q I r ⟨a, xs, rfl, hs, h64, q⟩
  obtain ⟨its, rv, ⟨o, ho, hc, n, hd⟩, _⟩ := I.tuple hs
  rw [Vals.ref1 r]
  have hlen0 := rv.length
  rw [List.length_map] at hlen0
  have hS := rv.strs
  refine sorted_tupK strKind_oneLt ho hc hd hS.keysOf (fun v₁ v₂ rest e => keyKind_strs (by rw [← e]; exact hS)) (by rw [← hlen0]; exact h64) fun h1 st' kp hp hso => ?_
  obtain ⟨ys, a1, a2, a3⟩ := sorted_out_str hS hp hso
  have hoL : (h1.push (seqObj "list" its.toArray 0)).get? h1.objs.size = some (seqObj "list" its.toArray 0) := Heap.get?_push_size _ rfl
  obtain ⟨ep, he'⟩ := sortedHeap_at (out := (arrOf st').map (·.2)) hoL
  have I1 : Inv X pins σ H { s with heap := h1 } := I.kept (t' := s.toks) kp
  have hlen : (ys.map V.str).length ≤ sizeLine := by rw [List.length_map, a2.length_eq]; exact small64 h64
  refine ⟨.ref _, upd H h1.objs.size (.lst (ys.map V.str)), I1.laid (t' := s.toks) (fun b ob hb => ?_) (Nat.le_refl _) ⟨hlen, _, ep, vals_of_strs a1, he'⟩, rfl, q ys _ a2 a3 (I1.hok.fresh (Nat.le_refl _))⟩
  have hlt : b < h1.objs.size := Heap.lt_size hb
  rw [sortedHeap_old (Nat.ne_of_lt hlt) (by rw [size_push']; exact Nat.lt_succ_of_lt hlt), Heap.get?_push_ne _ _ _ (Nat.ne_of_lt hlt)]
  exact hb
end
section
variable {z : Bool} {ta : TE} {a : ME} {K : PySem.W.Frag}
def mSorted (a : ME) : MF := fun Γ P => a Γ fun x => ∃ ps : List Str, (unT x = some (ps.map .str) ∨ x = .list (ps.map .str)) ∧ ps.length < 64 ∧ ∀ ys : List Str, ys.Perm ps → sortedS ys = true → P (.lst (ys.map .str))
theorem rf_sorted (ha : RQ z ta a) : RF z (tCB (rSortedSq K) (tCons ta tNil)) (mSorted a) := fun T Γ σ B H P Q s nz e hm k =>
  ha T Γ σ B H _ _ s nz e hm fun d1 v1 B1 H1 ⟨ps, e1, hl, h1⟩ g1 r1 => by
    rcases e1 with e1 | e1
    · obtain ⟨p, xs, rfl, hp, hr⟩ := rq_un (K := K) r1 g1.st.sub e1
      have := hr.strs
      subst this
      exact ⟨p, ps, rfl, .inr hp, hl, fun ys p pm so np => rf_new g1 (rpa_strs ys) (h1 ys pm so) k p np⟩
    · subst e1
      obtain ⟨p, xs, rfl, hp, hr⟩ := r1.lst g1.st.sub
      have := hr.strs
      subst this
      exact ⟨p, ps, rfl, .inl (.of hp), hl, fun ys p pm so np => rf_new g1 (rpa_strs ys) (h1 ys pm so) k p np⟩
end
end LT

/-! LTu: len(set(texts)), however many. The loop and the two calls are the library's own (of at most one text), turned to any number. -/
namespace LT
/-- the unlike ones, in the order of their first places -/
def dc {α : Type} [DecidableEq α] (l : List α) : List α := l.foldl (fun acc x => if x ∈ acc then acc else acc ++ [x]) []
theorem dc_snoc {α : Type} [DecidableEq α] (l : List α) (x : α) : dc (l ++ [x]) = if x ∈ dc l then dc l else dc l ++ [x] := by
  unfold dc
  rw [List.foldl_append]
  rfl
theorem list_snoc {α : Type} {p : List α → Prop} (h0 : p []) (h1 : ∀ l x, p l → p (l ++ [x])) (l : List α) : p l := by
  have : ∀ n (l : List α), l.length = n → p l := by
    intro n
    induction n with
    | zero => intro l h; rw [List.length_eq_zero_iff.mp h]; exact h0
    | succ n ih =>
      intro l h
      have hne : l ≠ [] := fun e => by rw [e] at h; cases h
      rw [← List.dropLast_concat_getLast hne]
      exact h1 _ _ (ih _ (by rw [List.length_dropLast, h]; rfl))
  exact this _ l rfl
theorem mem_dc {α : Type} [DecidableEq α] {y : α} (l : List α) : y ∈ dc l ↔ y ∈ l := by
  refine list_snoc (p := fun l => y ∈ dc l ↔ y ∈ l) Iff.rfl (fun l x ih => ?_) l
  rw [dc_snoc, List.mem_append, List.mem_singleton]
  by_cases hx : x ∈ dc l
  · rw [if_pos hx]
    refine ⟨fun h => .inl (ih.mp h), fun h => h.elim ih.mpr fun e => e ▸ hx⟩
  · rw [if_neg hx, List.mem_append, List.mem_singleton, ih]
theorem dc_nodup {α : Type} [DecidableEq α] (l : List α) : (dc l).Nodup := by
  refine list_snoc (p := fun l => (dc l).Nodup) List.nodup_nil (fun l x ih => ?_) l
  rw [dc_snoc]
  by_cases hx : x ∈ dc l
  · rw [if_pos hx]; exact ih
  · rw [if_neg hx, List.nodup_append]
    exact ⟨ih, by simp, fun a ha b hb e => by rw [List.mem_singleton] at hb; subst hb; subst e; exact hx ha⟩
open PySem in
def dcn (l : List Str) : Nat := (dc l).length
open PySem in
theorem dcn_snoc (l : List Str) (x : Str) : dcn (l ++ [x]) = if (l.any (· == x)) = true then dcn l else dcn l + 1 := by
  unfold dcn
  rw [dc_snoc]
  have e : (l.any (· == x)) = true ↔ x ∈ dc l := by
    rw [mem_dc, List.any_eq_true]
    refine ⟨fun ⟨y, hy, q⟩ => by have : y = x := by simpa using q
                                 exact this ▸ hy, fun h => ⟨x, h, by simp⟩⟩
  by_cases hx : x ∈ dc l
  · rw [if_pos hx, if_pos (e.mpr hx)]
  · rw [if_neg hx, if_neg fun q => hx (e.mp q), List.length_append]; rfl
open PySem in
theorem dcn_le (l : List Str) : dcn l ≤ l.length := by
  refine list_snoc (p := fun l => dcn l ≤ l.length) (Nat.le_refl _) (fun l x ih => ?_) l
  rw [dcn_snoc, List.length_append]
  split <;> simp only [List.length_cons, List.length_nil] <;> omega
section
open PySem PySem.Spec PyProof.Rows
section
variable {prog : Program} {w : World} {A : Around} {R : Result → Shared → Prop} {I : Addr} {fp wr : List Addr} {G : Array GenState → Array GenState → Prop} {n : Nat} {P : Nat → Value → Prop} {St : Nat → Shared → Prop}
theorem loopTx (W : WalksS prog w A.in1 I fp wr G n P St) (S : Addr) (hSf : S ∉ fp) (xs : List Str) (hsz : xs.length = n) (hn1 : n + 1 < scanBound)
    (hval : ∀ i v, P i v → ∃ t, v = .str (xs.getD i Str.empty) t) :
    ∀ (k i : Nat) (s : Shared), n - i = k → i ≤ n → St i s →
      s.heap.SetOf (PySem.strKind prog w) S (fun k' => (xs.take i).any (· == k')) (dcn (xs.take i)) →
      (∀ s', Moved (S :: wr) G s s' → s'.heap.SetOf (PySem.strKind prog w) S (fun k' => (xs.take n).any (· == k')) (dcn (xs.take n)) → R (.ok (.ret .none)) s') →
      codeAny (model prog w) A (.builtin "set.update.loop" ⟨[.ref S, .ref I], []⟩) R s := by
  have hSw : S ∉ wr := fun h => hSf (W.sub _ h)
  have hsub : ∀ b ∈ wr, b ∈ S :: wr := fun b hb => List.mem_cons_of_mem _ hb
  intro k
  induction k with
  | zero =>
    intro i s hk hi hst hS hR
    have hin : i = n := by omega
    subst hin
    refine codeAny_builtin PyProof.Rows.F.entry_set_update_loop ?_
    rw [Around.under_plainId PyProof.Rows.F.plain_set_update_loop _]
    show wpAny _ A.in1 (pyNext (.ref I) >>= _) _ _ s
    refine wpAny_bind (W.done s _ _ hst fun s' hm => ?_)
    show wpAny _ A.in1 (ret Value.none) _ _ s'
    exact wpAny_pure (hR s' (hm.mono hsub) (by
      obtain ⟨o, es, ep, t, ho, rest⟩ := hS
      exact ⟨o, es, ep, t, hm.heap S _ hSw ho, rest⟩))
  | succ k ih =>
    intro i s hk hi hst hS hR
    have hlt : i < n := by omega
    refine codeAny_builtin PyProof.Rows.F.entry_set_update_loop ?_
    rw [Around.under_plainId PyProof.Rows.F.plain_set_update_loop _]
    show wpAny _ A.in1 (pyNext (.ref I) >>= _) _ _ s
    refine wpAny_bind (W.item i s _ _ hlt hst fun v s' hP hst' hm => ?_)
    obtain ⟨t, rfl⟩ := hval i v hP
    have hS' : s'.heap.SetOf (PySem.strKind prog w) S (fun k' => (xs.take i).any (· == k')) (dcn (xs.take i)) := by
      obtain ⟨o, es, ep, tb, ho, rest⟩ := hS
      exact ⟨o, es, ep, tb, hm.heap S _ hSw ho, rest⟩
    show wpAny _ A.in1 (holding [Value.str (xs.getD i Str.empty) t] (setAdd S (.str (xs.getD i Str.empty) t)) >>= _) _ _ s'
    refine wpAny_bind (wpAny_holding ?_)
    unfold setAdd
    refine wpAny_holding ?_
    refine wpAny_bind ((PySem.strKind prog w).pyHash (k := xs.getD i Str.empty) (strKind_is _ _ _ _) ?_)
    refine wpAny_setAddHashed_of (knd := PySem.strKind prog w) (s := { s' with toks := s'.toks + 1 }) (strKind_is _ _ _ _) rfl hS' (by have := dcn_le (xs.take i); rw [List.length_take] at this; omega) fun h' hsb hS2 => ?_
    have hSi : h'.SetOf (PySem.strKind prog w) S (fun k' => (xs.take (i + 1)).any (· == k')) (dcn (xs.take (i + 1))) := by
      have hlx : i < xs.length := by omega
      have hx : xs[i]? = some (xs.getD i Str.empty) := by simp [List.getD, hlx]
      have et : xs.take (i + 1) = xs.take i ++ [xs.getD i Str.empty] := by rw [List.take_add_one, hx]; rfl
      generalize xs.getD i Str.empty = x at hS2 et
      rw [et]
      refine SetOf_congr hS2 (fun k' => ?_) ?_
      · rw [List.any_append, List.any_cons, List.any_nil, Bool.or_false]
        congr 1
        by_cases e : k' = x
        · subst e; simp
        · have hb : (x == k') = false := by simpa [beq_iff_eq] using (fun h' : x = k' => e h'.symm)
          simp [hb, e]
      · exact (dcn_snoc (xs.take i) x).symm
    refine wpAny_pure ⟨plainId_quiet PyProof.Rows.F.plain_set_update_loop _, ih (i + 1) _ (by omega) hlt (W.frame _ s' _ _ hst' (Nat.le_succ _) fun b hb o e => ?_) hSi fun s'' hm'' hS'' => ?_⟩
    · rw [hsb.2 b (fun h : b = S => hSf (by rw [← h]; exact hb))]; exact e
    · refine hR s'' (Moved.trans W.gtrans ((hm.mono hsub).then_heap (Nat.le_succ _) fun b o hb e => ?_) hm'') hS''
      rw [hsb.2 b (fun h : b = S => hb (by rw [h]; exact List.mem_cons_self))]; exact e
end
section
variable {prog : Program} {w : World} {A : Around} {E : Value → Shared → Prop} {s : Shared}
set_option maxHeartbeats 3200000 in
theorem call_set_listX {l : Addr} {items : Array Value} {xs : List Str} {Q : Value → Shared → Prop}
    (hh : A.handled = none) (hl : s.heap.IsList l items) (hi : PyProof.Rows.StrsAre items.toList xs) (hn1 : xs.length + 1 < scanBound)
    (h : ∀ (h' : Heap) (tk : Nat), h'.SetOf (PySem.strKind prog w) s.heap.objs.size (fun k' => (xs.take items.size).any (· == k')) (dcn (xs.take items.size)) →
      (∀ b o, b < s.heap.objs.size → s.heap.get? b = some o → h'.get? b = some o) → Q (.ref s.heap.objs.size) { s with heap := h', toks := tk }) :
    wpAny (model prog w) A (call (.type "set") [.ref l]) Q E s := by
  obtain ⟨c, tl, hmro⟩ := PySem.F.called_set.mro
  have hmade := PySem.F.called_set.made
  have hsub := PySem.F.called_set.sub
  refine wpAny_call (codeAny_of_tree ?_)
  show wpAny _ _ (callAny (.type "set") _) _ _ _
  refine wpAny_pure ⟨Code.quiet_builtin _ (by decide +kernel), codeAny_builtin PySem.F.entry_type_call ?_⟩
  rw [Around.under_plain (weight_type_call_type "set" [.ref l] []) rfl]
  have h1 := PySem.F.called_set.notType
  have h2 := PySem.F.called_set.canCreate
  have hct := PySem.F.typeCall_set_1 (.ref l)
  repeat (any_goals (first | assumption | wp_step))

  refine codeAny_mono (code_set_new_1 (.ref l) (E := E) (Q₁ := fun obj s₁ => ∃ led : Bool, obj = .ref s.heap.objs.size ∧ s₁ = { s with heap := s.heap.push { cls := .type "set", dict := none, data := .set #[] 0 (.fresh 0 0 led) } }) fun led => ⟨led, rfl, rfl⟩) fun r s₁ hr => ?_
  cases r with
  | error e => exact hr
  | ok fl =>
    cases fl with
    | ret obj =>
      obtain ⟨led, rfl, rfl⟩ := hr
      have hS : (s.heap.push { cls := .type "set", dict := none, data := .set #[] 0 (.fresh 0 0 led) }).get? s.heap.objs.size = some { cls := .type "set", dict := none, data := .set #[] 0 (.fresh 0 0 led) } := Heap.get?_push_size _ rfl
      have hT : Shared.TypeIs { s with heap := s.heap.push { cls := .type "set", dict := none, data := .set #[] 0 (.fresh 0 0 led) } } (.ref s.heap.objs.size) "set" := ⟨_, hS, rfl⟩
      have hli := PySem.F.called_set.init.lookup
      have hbi := PySem.F.called_set.init.bind (.ref s.heap.objs.size)
      repeat (any_goals (first | assumption | wp_step))

      refine codeAny_mono (codeAny_call_builtin (R := wants (fun r s₂ => r = .none ∧ ∃ h' tk, s₂ = { s with heap := h', toks := tk } ∧
          h'.SetOf (PySem.strKind prog w) s.heap.objs.size (fun k' => (xs.take items.size).any (· == k')) (dcn (xs.take items.size)) ∧
          (∀ b o, b < s.heap.objs.size → s.heap.get? b = some o → h'.get? b = some o)) E) PySem.F.called_set.init.plain PySem.F.entry_set_init (check_set_init_1 hT ?_)) fun r₂ s₂ hr₂ => ?_
      · obtain ⟨ol, hol, hcl, nl, hdl⟩ := hl
        obtain ⟨ocls, odict, odata, oslots⟩ := ol
        simp only at hcl hdl
        subst hcl; subst hdl
        have hol' : (s.heap.push { cls := .type "set", dict := none, data := .set #[] 0 (.fresh 0 0 led) }).get? l = some { cls := .type "list", dict := odict, data := .seq items nl, slots := oslots } := Heap.get?_push_of_some _ hol
        have hsls := PySem.F.sub_list_set
        have hslf := PySem.F.sub_list_frozenset
        have hne : (Value.type "list" == Value.type "dict") = false := by decide
        have hl1 : (s.heap.push { cls := .type "set", dict := none, data := .set #[] 0 (.fresh 0 0 led) }).IsList l items := ⟨_, hol', rfl, nl, rfl⟩
        unfold Builtin.«set.__init__» noKeywords Builtin.Frozenset.updateFrom
        generalize hPI : pyIter = PI
        wp_walk
        subst hPI

        refine wpAny_pyIter_list hl1 ?_
        refine wpAny_bind (wpAny_runValue ?_)
        have hlS : l < s.heap.objs.size := Heap.lt_size hol
        have hh3 : A.in1.in1.in1.handled = none := by simp [hh]
        have hneI : l ≠ (s.heap.push { cls := .type "set", dict := none, data := .set #[] 0 (.fresh 0 0 led) }).objs.size := by
          rw [Heap.size_push]; exact Nat.ne_of_lt (Nat.lt_succ_of_lt hlS)
        have hSf : s.heap.objs.size ∉ [(s.heap.push { cls := .type "set", dict := none, data := .set #[] 0 (.fresh 0 0 led) }).objs.size, l] := by
          rw [Heap.size_push]; simp only [List.mem_cons, List.mem_singleton, List.not_mem_nil, or_false, not_or]
          exact ⟨Nat.ne_of_lt (Nat.lt_succ_self _), Nat.ne_of_gt hlS⟩
        have hsz : xs.length = items.size := by rw [← StrsAre.len_eq hi, Array.length_toList]
        have hval : ∀ (i : Nat) (v : Value), items[i]? = some v → ∃ t, v = .str (xs.getD i Str.empty) t := fun i v hv => SS.strs_at hi i v (by rw [Array.getElem?_toList]; exact hv)
        refine loopTx ((Walks.list hh3 _ l hneI items).toS) s.heap.objs.size
          hSf xs hsz (by rw [← hsz]; exact hn1) hval (items.size - 0) 0 _ (by omega) (Nat.zero_le _)
          ⟨⟨_, Heap.get?_push_size _ rfl, rfl, rfl⟩, (hl1.push _)⟩ ?hS0 ?hR
        case hS0 =>
          have hget : ((s.heap.push { cls := .type "set", dict := none, data := .set #[] 0 (.fresh 0 0 led) }).push { cls := .type "list_iterator", data := .fields #[.ref l, .int 0 0] }).get? s.heap.objs.size
              = some { cls := .type "set", dict := none, data := .set #[] 0 (.fresh 0 0 led) } := Heap.get?_push_of_some _ hS
          exact PyProof.Rows.SetOf_congr ((PyProof.Rows.setObjOf_fresh (knd := PySem.strKind prog w) led).setOf hget (by unfold scanBound; omega)) (fun _ => rfl) rfl
        case hR =>
          intro s' hm hS'
          obtain ⟨h', g', d', tk', os'⟩ := s'
          have eg : g' = s.gens := hm.gens
          have ed : d' = s.drawn := hm.drawn
          have eo : os' = s.os := hm.os
          subst eg; subst ed; subst eo
          show wpAny _ _ _ _ _ _
          refine wpAny_pure ?_
          show wpAny _ _ (ret Value.none) _ _ _
          refine wpAny_pure ⟨rfl, h', tk', rfl, hS', fun b o hb e => ?_⟩
          have hb1 : b ≠ s.heap.objs.size := Nat.ne_of_lt hb
          have hb2 : b ≠ (s.heap.push { cls := .type "set", dict := none, data := .set #[] 0 (.fresh 0 0 led) }).objs.size := by
            rw [Heap.size_push]; exact Nat.ne_of_lt (Nat.lt_succ_of_lt hb)
          exact hm.heap b o (by simp only [List.mem_cons, List.mem_singleton, List.not_mem_nil, or_false, not_or]; exact ⟨hb1, hb2⟩) (Heap.get?_push_of_some _ (Heap.get?_push_of_some _ e))

      · cases r₂ with
        | error e => exact hr₂
        | ok fl₂ =>
          cases fl₂ with
          | ret r =>
            obtain ⟨rfl, h', tk, rfl, hS', hk'⟩ := hr₂
            repeat (any_goals (first | assumption | wp_step))
            exact h _ _ hS' hk'
          | _ => exact hr₂.elim
    | _ => exact hr.elim

set_option maxHeartbeats 3200000 in
theorem call_set_tupX {l : Addr} {items : Array Value} {xs : List Str} {Q : Value → Shared → Prop}
    (hh : A.handled = none) (hl : s.heap.IsTuple l items) (hi : PyProof.Rows.StrsAre items.toList xs) (hn1 : xs.length + 1 < scanBound)
    (h : ∀ (h' : Heap) (tk : Nat), h'.SetOf (PySem.strKind prog w) s.heap.objs.size (fun k' => (xs.take items.size).any (· == k')) (dcn (xs.take items.size)) →
      (∀ b o, b < s.heap.objs.size → s.heap.get? b = some o → h'.get? b = some o) → Q (.ref s.heap.objs.size) { s with heap := h', toks := tk }) :
    wpAny (model prog w) A (call (.type "set") [.ref l]) Q E s := by
  obtain ⟨c, tl, hmro⟩ := PySem.F.called_set.mro
  have hmade := PySem.F.called_set.made
  have hsub := PySem.F.called_set.sub
  refine wpAny_call (codeAny_of_tree ?_)
  show wpAny _ _ (callAny (.type "set") _) _ _ _
  refine wpAny_pure ⟨Code.quiet_builtin _ (by decide +kernel), codeAny_builtin PySem.F.entry_type_call ?_⟩
  rw [Around.under_plain (weight_type_call_type "set" [.ref l] []) rfl]
  have h1 := PySem.F.called_set.notType
  have h2 := PySem.F.called_set.canCreate
  have hct := PySem.F.typeCall_set_1 (.ref l)
  repeat (any_goals (first | assumption | wp_step))

  refine codeAny_mono (code_set_new_1 (.ref l) (E := E) (Q₁ := fun obj s₁ => ∃ led : Bool, obj = .ref s.heap.objs.size ∧ s₁ = { s with heap := s.heap.push { cls := .type "set", dict := none, data := .set #[] 0 (.fresh 0 0 led) } }) fun led => ⟨led, rfl, rfl⟩) fun r s₁ hr => ?_
  cases r with
  | error e => exact hr
  | ok fl =>
    cases fl with
    | ret obj =>
      obtain ⟨led, rfl, rfl⟩ := hr
      have hS : (s.heap.push { cls := .type "set", dict := none, data := .set #[] 0 (.fresh 0 0 led) }).get? s.heap.objs.size = some { cls := .type "set", dict := none, data := .set #[] 0 (.fresh 0 0 led) } := Heap.get?_push_size _ rfl
      have hT : Shared.TypeIs { s with heap := s.heap.push { cls := .type "set", dict := none, data := .set #[] 0 (.fresh 0 0 led) } } (.ref s.heap.objs.size) "set" := ⟨_, hS, rfl⟩
      have hli := PySem.F.called_set.init.lookup
      have hbi := PySem.F.called_set.init.bind (.ref s.heap.objs.size)
      repeat (any_goals (first | assumption | wp_step))

      refine codeAny_mono (codeAny_call_builtin (R := wants (fun r s₂ => r = .none ∧ ∃ h' tk, s₂ = { s with heap := h', toks := tk } ∧
          h'.SetOf (PySem.strKind prog w) s.heap.objs.size (fun k' => (xs.take items.size).any (· == k')) (dcn (xs.take items.size)) ∧
          (∀ b o, b < s.heap.objs.size → s.heap.get? b = some o → h'.get? b = some o)) E) PySem.F.called_set.init.plain PySem.F.entry_set_init (check_set_init_1 hT ?_)) fun r₂ s₂ hr₂ => ?_
      · obtain ⟨ol, hol, hcl, nl, hdl⟩ := hl
        obtain ⟨ocls, odict, odata, oslots⟩ := ol
        simp only at hcl hdl
        subst hcl; subst hdl
        have hol' : (s.heap.push { cls := .type "set", dict := none, data := .set #[] 0 (.fresh 0 0 led) }).get? l = some { cls := .type "tuple", dict := odict, data := .seq items nl, slots := oslots } := Heap.get?_push_of_some _ hol
        have hsls := PySem.F.sub_tuple_set
        have hslf := PySem.F.sub_tuple_frozenset
        have hne : (Value.type "tuple" == Value.type "dict") = false := by decide
        have hl1 : (s.heap.push { cls := .type "set", dict := none, data := .set #[] 0 (.fresh 0 0 led) }).IsTuple l items := ⟨_, hol', rfl, nl, rfl⟩
        unfold Builtin.«set.__init__» noKeywords Builtin.Frozenset.updateFrom
        generalize hPI : pyIter = PI
        wp_walk
        subst hPI

        refine wpAny_pyIter_tuple hl1 ?_
        refine wpAny_bind (wpAny_runValue ?_)
        have hlS : l < s.heap.objs.size := Heap.lt_size hol
        have hh3 : A.in1.in1.in1.handled = none := by simp [hh]
        have hneI : l ≠ (s.heap.push { cls := .type "set", dict := none, data := .set #[] 0 (.fresh 0 0 led) }).objs.size := by
          rw [Heap.size_push]; exact Nat.ne_of_lt (Nat.lt_succ_of_lt hlS)
        have hSf : s.heap.objs.size ∉ [(s.heap.push { cls := .type "set", dict := none, data := .set #[] 0 (.fresh 0 0 led) }).objs.size, l] := by
          rw [Heap.size_push]; simp only [List.mem_cons, List.mem_singleton, List.not_mem_nil, or_false, not_or]
          exact ⟨Nat.ne_of_lt (Nat.lt_succ_self _), Nat.ne_of_gt hlS⟩
        have hsz : xs.length = items.size := by rw [← StrsAre.len_eq hi, Array.length_toList]
        have hval : ∀ (i : Nat) (v : Value), items[i]? = some v → ∃ t, v = .str (xs.getD i Str.empty) t := fun i v hv => SS.strs_at hi i v (by rw [Array.getElem?_toList]; exact hv)
        refine loopTx ((Walks.tuple hh3 _ l hneI items).toS) s.heap.objs.size
          hSf xs hsz (by rw [← hsz]; exact hn1) hval (items.size - 0) 0 _ (by omega) (Nat.zero_le _)
          ⟨⟨_, Heap.get?_push_size _ rfl, rfl, rfl⟩, (hl1.push _)⟩ ?hS0 ?hR
        case hS0 =>
          have hget : ((s.heap.push { cls := .type "set", dict := none, data := .set #[] 0 (.fresh 0 0 led) }).push { cls := .type "tuple_iterator", data := .fields #[.ref l, .int 0 0] }).get? s.heap.objs.size
              = some { cls := .type "set", dict := none, data := .set #[] 0 (.fresh 0 0 led) } := Heap.get?_push_of_some _ hS
          exact PyProof.Rows.SetOf_congr ((PyProof.Rows.setObjOf_fresh (knd := PySem.strKind prog w) led).setOf hget (by unfold scanBound; omega)) (fun _ => rfl) rfl
        case hR =>
          intro s' hm hS'
          obtain ⟨h', g', d', tk', os'⟩ := s'
          have eg : g' = s.gens := hm.gens
          have ed : d' = s.drawn := hm.drawn
          have eo : os' = s.os := hm.os
          subst eg; subst ed; subst eo
          show wpAny _ _ _ _ _ _
          refine wpAny_pure ?_
          show wpAny _ _ (ret Value.none) _ _ _
          refine wpAny_pure ⟨rfl, h', tk', rfl, hS', fun b o hb e => ?_⟩
          have hb1 : b ≠ s.heap.objs.size := Nat.ne_of_lt hb
          have hb2 : b ≠ (s.heap.push { cls := .type "set", dict := none, data := .set #[] 0 (.fresh 0 0 led) }).objs.size := by
            rw [Heap.size_push]; exact Nat.ne_of_lt (Nat.lt_succ_of_lt hb)
          exact hm.heap b o (by simp only [List.mem_cons, List.mem_singleton, List.not_mem_nil, or_false, not_or]; exact ⟨hb1, hb2⟩) (Heap.get?_push_of_some _ (Heap.get?_push_of_some _ e))

      · cases r₂ with
        | error e => exact hr₂
        | ok fl₂ =>
          cases fl₂ with
          | ret r =>
            obtain ⟨rfl, h', tk, rfl, hS', hk'⟩ := hr₂
            repeat (any_goals (first | assumption | wp_step))
            exact h _ _ hS' hk'
          | _ => exact hr₂.elim
    | _ => exact hr.elim

end
end
section
open PySem PySem.Spec PyProof.Rows L2
variable {X : Cx}
def tLenSetS (K : PySem.W.Frag) (ta : TE) : TE := fun σ H Q => ta σ H fun x H1 => ∃ l, ∃ xs : List Str, x = .ref l ∧ SqA K H1 l (xs.map V.str) ∧ xs.length ≤ 1000 ∧ Q (.int (dcn xs)) H1
theorem pe_lenSetS {a : Expr} {ta : TE} {p p2 q pos : Pos} (hc : X.calm = true) (hg : Gl X "len") (hm : X.mg "len" = none) (hg2 : Gl X "set") (hm2 : X.mg "set" = none) (ha : PE X a ta)
    (na : starEach [a] X.env = (false, eval a X.env) :: starEach [] X.env := by rfl) : PE X (.Call (.Name "len" p) [.Call (.Name "set" p2) [a] [] q] [] pos) (tLenSetS X.K ta) := by
  refine ⟨fun pins s σ H Q I h => ?_⟩
  refine Call_ (ld_blt I hg hm boot_len ?_)
  refine PyProof.Rows.callWith_builtin1 (PyProof.Rows.args_cons ?_ rfl) rfl rfl
  refine Call_ (ld_blt I hg2 hm2 boot_set ?_)
  refine PyProof.Rows.callWith_type1 (PyProof.Rows.args_cons (thn (ha.run pins s σ H _ I h) fun v s1 ⟨x, H1, I1, r1, q1⟩ => PyProof.Rows.args_nil ?_) na) na rfl
  obtain ⟨l, xs, rfl, hq, h1, q1⟩ := q1
  cases r1
  have hsb : xs.length + 1 < scanBound := by unfold scanBound; omega
  have fin : ∀ (its : List Value), Vals (xs.map V.str) its → ∀ (h' : Heap) (tk : Nat), h'.SetOf (PySem.strKind X.prog X.w) s1.heap.objs.size (fun k' => (xs.take its.toArray.size).any (· == k')) (dcn (xs.take its.toArray.size)) →
      (∀ b o, b < s1.heap.objs.size → s1.heap.get? b = some o → h'.get? b = some o) →
      wpAny (model X.prog X.w) X.A (spliced (backTo pos (starEach [] X.env))) (fun vs s₂ => wpAny (model X.prog X.w) X.A (call (.builtin "len") (Value.ref s1.heap.objs.size :: vs)) (EP X pins σ Q) X.xe s₂) X.xe { s1 with heap := h', toks := tk } := fun its r h' tk hS hk => by
    refine PyProof.Rows.args_nil ?_
    have hl : its.toArray.size = xs.length := by rw [List.size_toArray, ← r.length, List.length_map]
    rw [hl, List.take_length] at hS
    obtain ⟨o, es, ep, t, ho, hex, hd, _, _, _, hf, hn⟩ := hS
    have I2 : Inv X pins σ H1 { s1 with heap := h', toks := tk } := I1.kept fun b o e => hk b o (Heap.lt_size e) e
    have := dcn_le xs
    refine call_len_set ho hex hd hf (by rw [hn] <;> omega) ⟨.int (dcn xs), H1, I2.tok _, ⟨_, by rw [hn]⟩, q1⟩
  rcases hq with hq | hq
  · obtain ⟨its, r, pl, hz⟩ := I1.list hq
    exact call_set_listX (I1.ok.hd hc) pl.isList (by simpa using strsAre_of r) hsb fun h' tk hS hk => fin its r h' tk hS hk
  · obtain ⟨its, r, pl, hz⟩ := I1.tuple hq
    exact call_set_tupX (I1.ok.hd hc) pl (by simpa using strsAre_of r) hsb fun h' tk hS hk => fin its r h' tk hS hk
variable {z : Bool} {ta : TE} {a : ME} {K : PySem.W.Frag}
def mLenSet (a : ME) : ME := fun Γ P => a Γ fun x => ∃ ps : List Str, (x = .tuple (ps.map .str) ∨ x = .list (ps.map .str)) ∧ ps.length ≤ 1000 ∧ P (.int (dcn ps : Nat))
theorem re_lenSet (ha : RQ z ta a) : RE z (tLenSetS K ta) (mLenSet a) := fun T Γ σ B H P Q s nz e hm k =>
  ha T Γ σ B H _ _ s nz e hm fun d1 v1 B1 H1 ⟨ps, e1, hl, h1⟩ g1 r1 => by
    rcases e1 with rfl | rfl
    · obtain ⟨p, o, xs, rfl, hp, _, hr⟩ := r1.tup
      have := hr.strs
      subst this
      exact ⟨p, ps, rfl, .inr (.inl (.inr ⟨o, g1.st.sub _ _ hp⟩)), hl, k _ _ _ _ h1 g1 (.int _)⟩
    · obtain ⟨p, xs, rfl, hp, hr⟩ := r1.lst g1.st.sub
      have := hr.strs
      subst this
      exact ⟨p, ps, rfl, .inl (.of hp), hl, k _ _ _ _ h1 g1 (.int _)⟩
end
end LT

/-! LTv: min and max of two texts; a dict comprehension whose keys are tuples (the library's own rule for keys that are ints and texts, turned to these). -/
namespace LT
open PySem PySem.Spec PyProof.Rows L2
section
variable {prog : Program} {w : World} {A : Around} {E : Value → Shared → Prop} {s : Shared}
def ltS (x y : Str) : Bool := decide (x.cps.toList < y.cps.toList)
theorem cmpS_lt {x y : Str} {t u : Tok} : CmpOf prog w A .Lt (fun i v => #[Value.str x t, Value.str y u][i]? = some v) (fun i j => ltS (if i = 0 then x else y) (if j = 0 then x else y)) := fun i j vi vj s Q E hi hj h => by
  match i, j, hi, hj with
  | 0, 0, hi, hj => cases hi; cases hj; exact lt_str h
  | 0, 1, hi, hj => cases hi; cases hj; exact lt_str h
  | 1, 0, hi, hj => cases hi; cases hj; exact lt_str h
  | 1, 1, hi, hj => cases hi; cases hj; exact lt_str h
  | i + 2, _, hi, _ => simp at hi
  | 0, j + 2, _, hj => simp at hj
  | 1, j + 2, _, hj => simp at hj
theorem cmpS_gt {x y : Str} {t u : Tok} : CmpOf prog w A .Gt (fun i v => #[Value.str x t, Value.str y u][i]? = some v) (fun i j => ltS (if j = 0 then x else y) (if i = 0 then x else y)) := fun i j vi vj s Q E hi hj h => by
  match i, j, hi, hj with
  | 0, 0, hi, hj => cases hi; cases hj; exact compareOp_gives (op := .Gt) (typeIs_str _ _ _) (typeIs_str _ _ _) PySem.F.slot_str_gt PySem.F.entry_str_gt (PySem.F.args_str_gt_2 _ _) (gives_str_gt _ _ _ _) (fun e => nomatch e) h
  | 0, 1, hi, hj => cases hi; cases hj; exact compareOp_gives (op := .Gt) (typeIs_str _ _ _) (typeIs_str _ _ _) PySem.F.slot_str_gt PySem.F.entry_str_gt (PySem.F.args_str_gt_2 _ _) (gives_str_gt _ _ _ _) (fun e => nomatch e) h
  | 1, 0, hi, hj => cases hi; cases hj; exact compareOp_gives (op := .Gt) (typeIs_str _ _ _) (typeIs_str _ _ _) PySem.F.slot_str_gt PySem.F.entry_str_gt (PySem.F.args_str_gt_2 _ _) (gives_str_gt _ _ _ _) (fun e => nomatch e) h
  | 1, 1, hi, hj => cases hi; cases hj; exact compareOp_gives (op := .Gt) (typeIs_str _ _ _) (typeIs_str _ _ _) PySem.F.slot_str_gt PySem.F.entry_str_gt (PySem.F.args_str_gt_2 _ _) (gives_str_gt _ _ _ _) (fun e => nomatch e) h
  | i + 2, _, hi, _ => simp at hi
  | 0, j + 2, _, hj => simp at hj
  | 1, j + 2, _, hj => simp at hj
theorem two_new {h : Heap} {a b : Value} {wr : List Addr} (hw : ∀ c ∈ wr, h.objs.size < c) {h' : Heap} (hk : ∀ c o, c ∉ wr → ((h.push { cls := .type "tuple", data := .seq #[a, b] }).push { cls := .type "tuple_iterator", data := .fields #[.ref h.objs.size, .int 0 0] }).get? c = some o → h'.get? c = some o) :
    ∀ c o, h.get? c = some o → h'.get? c = some o := fun c o e => by
  refine hk c o (fun hm => ?_) (Heap.get?_push_of_some _ (Heap.get?_push_of_some _ e))
  have h1 := hw c hm
  have h2 := Heap.lt_size e
  exact Nat.lt_irrefl _ (Nat.lt_trans h2 h1)
theorem min_two_strs {x y : Str} {t u : Tok} {Q : Value → Shared → Prop} (hh : A.handled = none) (h : ∀ h' tk, (∀ c o, s.heap.get? c = some o → h'.get? c = some o) → Q (if ltS y x then .str y u else .str x t) { s with heap := h', toks := tk }) :
    wpAny (model prog w) A (call (.builtin "min") [.str x t, .str y u]) Q E s := by
  have hT : (s.heap.push { cls := .type "tuple", data := .seq #[.str x t, .str y u] }).IsTuple s.heap.objs.size #[.str x t, .str y u] := ⟨_, Heap.get?_push_size _ rfl, rfl, 0, rfl⟩
  refine call_min_two (wpAny_pyIter_tuple hT ?_)
  have hsz : (s.heap.push { cls := .type "tuple", data := .seq #[.str x t, .str y u] }).objs.size = s.heap.objs.size + 1 := Heap.size_push ..
  refine ⟨_, [_, s.heap.objs.size], [_], _, _, _, _, rfl, Walks.tuple (A := A.in1) hh _ s.heap.objs.size (by rw [hsz]; exact Nat.ne_of_lt (Nat.lt_succ_self _)) #[.str x t, .str y u],
    ⟨⟨_, Heap.get?_push_size _ rfl, rfl, rfl⟩, hT.push _⟩, fun c hc => ?_, by simp, cmpS_lt, fun v h' tk hP hk => ?_⟩
  · show c < ((s.heap.push _).push _).objs.size
    rw [Heap.size_push, hsz]
    simp only [List.mem_cons, List.not_mem_nil, or_false] at hc
    rcases hc with rfl | rfl
    · rw [hsz]; exact Nat.lt_succ_self _
    · exact Nat.lt_succ_of_lt (Nat.lt_succ_self _)
  · have := h h' tk (two_new (fun c hc => by rw [List.mem_singleton.mp hc, hsz]; exact Nat.lt_succ_self _) hk)
    have hv : v = if ltS y x then .str y u else .str x t := by
      cases hc : ltS y x <;> simp [argBest, hc] at hP <;> simp [hP]
    rw [hv]; exact this
theorem max_two_strs {x y : Str} {t u : Tok} {Q : Value → Shared → Prop} (hh : A.handled = none) (h : ∀ h' tk, (∀ c o, s.heap.get? c = some o → h'.get? c = some o) → Q (if ltS x y then .str y u else .str x t) { s with heap := h', toks := tk }) :
    wpAny (model prog w) A (call (.builtin "max") [.str x t, .str y u]) Q E s := by
  have hT : (s.heap.push { cls := .type "tuple", data := .seq #[.str x t, .str y u] }).IsTuple s.heap.objs.size #[.str x t, .str y u] := ⟨_, Heap.get?_push_size _ rfl, rfl, 0, rfl⟩
  refine call_max_two (wpAny_pyIter_tuple hT ?_)
  have hsz : (s.heap.push { cls := .type "tuple", data := .seq #[.str x t, .str y u] }).objs.size = s.heap.objs.size + 1 := Heap.size_push ..
  refine ⟨_, [_, s.heap.objs.size], [_], _, _, _, _, rfl, Walks.tuple (A := A.in1) hh _ s.heap.objs.size (by rw [hsz]; exact Nat.ne_of_lt (Nat.lt_succ_self _)) #[.str x t, .str y u],
    ⟨⟨_, Heap.get?_push_size _ rfl, rfl, rfl⟩, hT.push _⟩, fun c hc => ?_, by simp, cmpS_gt, fun v h' tk hP hk => ?_⟩
  · show c < ((s.heap.push _).push _).objs.size
    rw [Heap.size_push, hsz]
    simp only [List.mem_cons, List.not_mem_nil, or_false] at hc
    rcases hc with rfl | rfl
    · rw [hsz]; exact Nat.lt_succ_self _
    · exact Nat.lt_succ_of_lt (Nat.lt_succ_self _)
  · have := h h' tk (two_new (fun c hc => by rw [List.mem_singleton.mp hc, hsz]; exact Nat.lt_succ_self _) hk)
    have hv : v = if ltS x y then .str y u else .str x t := by
      cases hc : ltS x y <;> simp [argBest, hc] at hP <;> simp [hP]
    rw [hv]; exact this
end
section
variable {X : Cx}
def rMin2S : List V → Hp → VK → Prop := fun xs H Q => ∃ i j : Str, xs = [.str i, .str j] ∧ Q (.str (if ltS j i then j else i)) H
def rMax2S : List V → Hp → VK → Prop := fun xs H Q => ∃ i j : Str, xs = [.str i, .str j] ∧ Q (.str (if ltS i j then j else i)) H
theorem call_min2S (hc : X.calm = true) : CallR X (.builtin "min") rMin2S := by
  intro pins s σ H xs us Q I r h
  obtain ⟨i, j, rfl, q⟩ := h
  obtain ⟨u, w', rfl, ⟨t, rfl⟩, ⟨t', rfl⟩⟩ := vals2 r
  refine min_two_strs (I.ok.hd hc) fun h' tk k => ⟨_, H, I.kept k, ?_, q⟩
  cases ltS j i
  · exact ⟨_, rfl⟩
  · exact ⟨_, rfl⟩
theorem call_max2S (hc : X.calm = true) : CallR X (.builtin "max") rMax2S := by
  intro pins s σ H xs us Q I r h
  obtain ⟨i, j, rfl, q⟩ := h
  obtain ⟨u, w', rfl, ⟨t, rfl⟩, ⟨t', rfl⟩⟩ := vals2 r
  refine max_two_strs (I.ok.hd hc) fun h' tk k => ⟨_, H, I.kept k, ?_, q⟩
  cases ltS i j
  · exact ⟨_, rfl⟩
  · exact ⟨_, rfl⟩
end
/-- d[k] = v by a comprehension, k a tuple -/
theorem d_dictSetT {X : Cx} {pins : List (Addr × Obj)} {σ : L2.St} {H : Hp} {s : Shared} {E : Value → Shared → Prop} {D b : Addr} {kvs : List (List Key × V)} {k : List Key} {v : V} {u r : Value} {Q : Unit → Shared → Prop} (hu : X.A.units < cLine) (I : Inv X pins σ H s) (e : H D = some (.dT kvs)) (l : kvs.length < sizeLine)
    (eb : H b = some (.tup (k.map kV))) (ry : RelV (.ref b) u) (rv : RelV v r) (h : ∀ s', Inv X pins σ (upd H D (.dT (putK kvs k v))) s' → Q () s') : wpAny (model X.prog X.w) X.A (dictSet D u r) Q E s := by
  cases (show u = Value.ref b from ry)
  obtain ⟨z, hd, xs, rel, dd⟩ := dt_of I.hok e
  have hz : xs.length ≤ sizeLine := by rw [← Paired.length rel]; exact z
  have hl : (putK kvs k v).length ≤ sizeLine := by have := length_putK kvs k v; omega
  refine wpAny_dictSet_heap (hsz := hz) (show (tupleKind (mixKind X.prog X.w)).room X.A from hu) (key_of I.hok eb) dd fun h' dd' hs => h _ ?_
  obtain ⟨q, es, ep, hq, h2, h3, h4, _, h5⟩ := dd'
  refine d_write I (by rw [e]; exact True.intro) hs ⟨q, hq⟩ ⟨hl, hd, _, (rel.put k eb rv).keeps fun c ys ec => ?_, q, es, ep, hq, h2, h3, h4, h5⟩
  rw [upd_ne (ne_of ec e (fun z => nomatch z))]
  exact ec
section
variable {X : Cx}
def tDcT (wi : TI) (g : TG) (tt : TT) (tk tv : TE) (vs : List Nat) : TE := fun σ H Q => wi σ H fun J H1 => ∀ D, H1 D = none → ∃ W : Nat → Nat → Hp → Prop, (∃ m, W 0 m (upd H1 D (.dT []))) ∧ ∀ i m H, W i m H →
  (J.stop i H ∧ Q (.ref D) H) ∨ (J.go i H ∧ ∃ Nx : Hp → Prop, (∀ H', Nx H' → ∃ m', m' < m ∧ W (i + 1) m' H') ∧ ∀ x H', J.yld i H x H' → g x (L2.wipe σ vs) H' fun σ2 H2 => L2.wipe σ2 vs = L2.wipe σ vs ∧ tt σ2 H2 fun b H3 =>
    if b = true then tk σ2 H3 fun y H4 => tv σ2 H4 fun z H5 => ∃ kvs k b, y = .ref b ∧ H5 b = some (.tup (k.map kV)) ∧ H5 D = some (.dT kvs) ∧ kvs.length < sizeLine ∧ Nx (upd H5 D (.dT (putK kvs k z))) else Nx H3)
theorem dcT_core {pins : List (Addr × Obj)} {s : Shared} {σ : L2.St} {H : Hp} {Q : VK} {kx vx tg iter : Expr} {ifs : List Expr} {scope : Scope} {own : List (Str × Nat)} {pos pos' : Pos} {wi : TI} {g : TG} {tt : TT} {tk tv : TE} {use : Option (Value → Sem Unit)} {Qf : Value → Shared → Prop}
    (hu : X.A.units < cLine) (hc : X.calm = true) (hN : X.N.Nodup) (I : Inv X pins σ H s) (hi : PI X tg iter wi) (ok : BlkOk X.N X.env.scope scope own)
    (hg : ∀ (s : Shared) (H : Hp) (C : Addr) (cl : List (Str × Addr)) (fp : List Addr), PG (X.blk s H scope (compEnvC scope cl C X.env) fp) tg g) (ht : ∀ (s : Shared) (H : Hp) (C : Addr) (cl : List (Str × Addr)) (fp : List Addr), PTs (X.blk s H scope (compEnvC scope cl C X.env) fp) ifs tt)
    (hk : ∀ (s : Shared) (H : Hp) (C : Addr) (cl : List (Str × Addr)) (fp : List Addr), PE (X.blk s H scope (compEnvC scope cl C X.env) fp) kx tk)
    (he : ∀ (s : Shared) (H : Hp) (C : Addr) (cl : List (Str × Addr)) (fp : List Addr), PE (X.blk s H scope (compEnvC scope cl C X.env) fp) vx tv) (hs : ∀ x, foldedSetIterable iter X.env x = pure x)
    (h : tDcT wi g tt tk tv (own.map (·.2)) σ H Q)
    (hRR : ∀ D C s' m H', Inv X pins σ H' s' → Q (.ref D) H' → s'.heap.Ns C m → FpOk X pins H' C → compPost (model X.prog X.w) X.A X.xe use Qf (.ref D) C (.ok .next) s') :
    wpAny (model X.prog X.w) X.A (comprehension (.DictComp kx vx [⟨tg, iter, ifs, 0⟩] scope pos) scope X.env pos' newDict false (eval iter X.env) use) Qf X.xe s := by
  have hfree : ∀ y ∈ scope.names, y.2 = .free → ∃ c, X.env.cells.lookup y.1 = some c := fun y hy e => by
    rcases ok.free y hy e with k | k
    · exact I.ok.has _ (.inl k)
    · exact I.ok.has _ (.inr k)
  refine wpAny_comprehension_free (use := use) rfl hs (closure_ok hfree) ok.kind (fun y hy e => by rw [ok.uniq y hy, e])
    (thn (hi.run pins s σ H _ I h) fun xv s1 hx => thn hx fun itv s2 h2 => ?_)
  obtain ⟨it, fp, tn, J, H2, e, I2, T, st2, f2, q⟩ := h2
  subst e
  refine wpAny_newObj_type (newEnv_comp ?_)
  generalize hD : s2.heap.objs.size = D
  have hDn : H2 D = none := I2.hok.fresh (Nat.le_of_eq hD)
  obtain ⟨W, ⟨m0, w0⟩, turn⟩ := q D hDn
  -- the new list
  generalize hs3 : ({ s2 with heap := s2.heap.push { cls := .type "dict", data := .dict #[] } } : Shared) = s3
  have I3 : Inv X pins σ (upd H2 D (.dT [])) s3 := by
    rw [← hs3]
    refine I2.laid (t' := s2.toks) (fun b o e => Heap.get?_push_of_some _ e) (Nat.le_of_eq hD) ?_
    rw [← hD]
    exact dt_empty s2.heap I2.big
  have h3 : s3.heap = s2.heap.push { cls := .type "dict", data := .dict #[] } := by rw [← hs3]
  have sz : ∀ b ∈ fp, b < s2.heap.objs.size := fun b hb => by
    obtain ⟨o, e, _⟩ := T.obj _ _ st2 b hb
    exact Heap.lt_size e
  have f3 : ∀ b ∈ fp, FpOk X pins (upd H2 D (.dT [])) b ∧ b < s3.heap.objs.size := fun b hb => by
    have hlt := sz b hb
    refine ⟨⟨?_, (f2 b hb).2⟩, by rw [h3, Heap.size_push]; exact Nat.lt_succ_of_lt hlt⟩
    rw [upd_ne (by rw [← hD]; exact Nat.ne_of_lt hlt)]
    exact (f2 b hb).1
  have st3 : tn 0 s3.heap := T.keep _ _ _ st2 fun b _ o e => by rw [h3]; exact Heap.get?_push_of_some _ e
  have I4 := block_start I3 ok hN f3
  have pg := hg s3 (upd H2 D (.dT [])) s3.heap.objs.size (cellsFrom (s3.heap.objs.size + 1) scope.names (cloFrom X.env.cells scope.names [])) fp
  have pt := ht s3 (upd H2 D (.dT [])) s3.heap.objs.size (cellsFrom (s3.heap.objs.size + 1) scope.names (cloFrom X.env.cells scope.names [])) fp
  have pk := hk s3 (upd H2 D (.dT [])) s3.heap.objs.size (cellsFrom (s3.heap.objs.size + 1) scope.names (cloFrom X.env.cells scope.names [])) fp
  have pe := he s3 (upd H2 D (.dT [])) s3.heap.objs.size (cellsFrom (s3.heap.objs.size + 1) scope.names (cloFrom X.env.cells scope.names [])) fp
  show codeAny _ _ (.compStart (.DictComp kx vx [⟨tg, iter, ifs, 0⟩] scope pos) 0 (.ref it) (.ref D) (compEnvC scope (cellsFrom (s3.heap.objs.size + 1) scope.names (cloFrom X.env.cells scope.names [])) s3.heap.objs.size X.env)) (compPost (model X.prog X.w) X.A X.xe use Qf (.ref D) s3.heap.objs.size) { s3 with heap := pushCells (s3.heap.push { cls := .type "dict", data := .dict #[] }) scope.names }
  have nfp : ∀ b ∈ fp, (upd H2 D (.dT [])) b = none := fun b hb => (f3 b hb).1.1
  generalize hce : compEnvC scope (cellsFrom (s3.heap.objs.size + 1) scope.names (cloFrom X.env.cells scope.names [])) s3.heap.objs.size X.env = ce at I4 pg pt pk pe ⊢
  have cL : ce.locals = s3.heap.objs.size := by subst hce; rfl
  generalize hH3 : upd H2 D (.dT []) = H3 at I3 I4 pg pt pk pe w0 nfp f3
  generalize hs4 : ({ s3 with heap := pushCells (s3.heap.push { cls := .type "dict", data := .dict #[] }) scope.names } : Shared) = s4 at I4 ⊢
  have st4 : tn 0 s4.heap := T.keep _ _ _ st3 fun b _ o e => by rw [← hs4]; exact pushCells_keeps _ _ _ _ (Heap.get?_push_of_some _ e)
  have stat : ∀ {σ' : L2.St} {H' : Hp} {s' : Shared}, Inv (X.blk s3 H3 scope ce fp) [] σ' H' s' → (∀ b ∈ fp, H' b = none) → ∀ b ∈ fp, FpOk (X.blk s3 H3 scope ce fp) [] H' b := fun {σ' H' s'} I' hn b hb =>
    ⟨hn b hb, (I'.ok.exf b hb).1, I'.ok.exfs b hb, .inl hb, fun x c e => (I'.ok.exf b hb).2 x c e, fun p hp => absurd (show p ∈ ([] : List (Addr × Obj)) ++ [] from hp) (by simp)⟩
  have loop : codeAny (model X.prog X.w) X.A (.compLoop (.DictComp kx vx [⟨tg, iter, ifs, 0⟩] scope pos) 0 (.ref it) (.ref D) ce) (compPost (model X.prog X.w) X.A X.xe use Qf (.ref D) s3.heap.objs.size) s4 := by
    refine compLoop_anyD (fun n s' => ∃ i H', Inv (X.blk s3 H3 scope ce fp) [] (wipe σ (own.map (·.2))) H' s' ∧ tn i s'.heap ∧ (∀ b ∈ fp, H' b = none) ∧ W i n H') ?_ m0 ⟨0, H3, I4, st4, nfp, w0⟩
    rintro n s5 ⟨i, H5, I5, st5, n5, w5⟩
    rcases turn i n H5 w5 with ⟨stop, qq⟩ | ⟨go, Nx, hNx, step⟩
    · have td := T.done (X.blk s3 H3 scope ce fp) rfl rfl rfl hc i [] s5 _ H5 (fun _ _ => False) I5 (stat I5 n5) st5 stop
      refine thnF td fun r s6 ⟨hr, I6⟩ => ?_
      subst hr
      -- back in the def's context
      have I7 : Inv X pins σ H5 s6 := I3.call' (ch := fp) I6.os I6.base I6.hok I6.bare fun b hb => ⟨(f3 b hb).1.2.2.2.1, (f3 b hb).1.2.1, (f3 b hb).1.2.2.2.2.1, (f3 b hb).1.2.2.2.2.2⟩
      have nC : H5 s3.heap.objs.size = none := by
        have z : H5 ce.locals = none := I6.free
        rw [cL] at z
        exact z
      obtain ⟨m, hn, _⟩ := I6.loc
      have hn : s6.heap.Ns ce.locals m := hn
      rw [cL] at hn
      exact hRR D s3.heap.objs.size s6 m H5 I7 qq hn (I3.fpOk (Nat.le_refl _) nC)
    · have ti := T.item (X.blk s3 H3 scope ce fp) rfl rfl rfl hc i [] s5 _ H5 (fun _ _ => False) I5 (stat I5 n5) st5 go
      refine thnF ti fun r s6 ⟨u, hr, h6⟩ => ?_
      subst hr
      refine thnF h6 fun _ s7 ⟨x, H7, I7, r7, y7, st7, n7⟩ => ?_
      have I7' := I7.pinned (stat I7 n7) (T.obj _ _ st7)
      refine thnF (pg.run _ s7 _ H7 x u _ I7' r7 (step x H7 y7)) fun _ s8 ⟨σ8, H8, I8, hw8, q8⟩ => ?_
      refine thnF (pt.run _ s8 σ8 H8 _ I8 q8) fun b s9 ⟨H9, I9, q9⟩ => ?_
      -- the turn's end
      have fin : ∀ {s' : Shared} {H' : Hp}, Inv (X.blk s3 H3 scope ce fp) ([] ++ pinsAt fp s7.heap) σ8 H' s' → Nx H' → ∃ m, m < n ∧ ∃ i H', Inv (X.blk s3 H3 scope ce fp) [] (wipe σ (own.map (·.2))) H' s' ∧ tn i s'.heap ∧ (∀ b ∈ fp, H' b = none) ∧ W i m H' := fun {s' H'} I' nx => by
        obtain ⟨m', hm, w'⟩ := hNx H' nx
        have pin' : ∀ b ∈ fp, ∀ o, s7.heap.get? b = some o → s'.heap.get? b = some o ∧ H' b = none := fun b hb o e =>
          let z := I'.pin (b, o) (List.mem_append_right _ (List.mem_append_right _ (mem_pinsAt hb e)))
          ⟨z.1, z.2.1⟩
        have hl : (wipe σ (own.map (·.2))).length = σ8.length := by rw [← hw8, wipe_length]
        refine ⟨m', hm, i + 1, H', (I'.unpinned (pins := [])).weak hl (fun j v e => ?_), T.keep _ _ _ st7 fun b hb o e => (pin' b hb o e).1, fun b hb => ?_, w'⟩
        · rw [← hw8] at e
          exact (wipe_some e).1
        · obtain ⟨o, e, _⟩ := T.obj _ _ st7 b hb
          exact (pin' b hb o e).2
      cases b with
      | false =>
        simp only [Bool.false_eq_true, if_false] at q9 ⊢
        exact fin I9 q9
      | true =>
        simp only [if_true] at q9 ⊢
        refine thnF (pk.run _ s9 σ8 H9 _ I9 q9) fun z s10 ⟨yk, H10, I10, r10, q10⟩ => ?_
        refine thnF (pe.run _ s10 σ8 H10 _ I10 q10) fun z2 s11 ⟨yv, H11, I11, r11, kvs, k, b', ek, hb11, hD11, hz11, nx⟩ => ?_
        subst ek
        exact d_dictSetT (X := X.blk s3 H3 scope ce fp) hu I11 hD11 hz11 hb11 r10 r11 fun s12 I12 => fin I12 nx
  exact codeAny_compStart_dict loop (T.self X.A 0 _ _ _ st4 loop)
theorem pe_dcT {kx vx tg iter : Expr} {ifs : List Expr} {scope : Scope} {own : List (Str × Nat)} {pos : Pos} {wi : TI} {g : TG} {tt : TT} {tk tv : TE} (hu : X.A.units < cLine) (hc : X.calm = true) (hN : X.N.Nodup) (hi : PI X tg iter wi) (ok : BlkOk X.N X.env.scope scope own)
    (hg : ∀ (s : Shared) (H : Hp) (C : Addr) (cl : List (Str × Addr)) (fp : List Addr), PG (X.blk s H scope (compEnvC scope cl C X.env) fp) tg g) (ht : ∀ (s : Shared) (H : Hp) (C : Addr) (cl : List (Str × Addr)) (fp : List Addr), PTs (X.blk s H scope (compEnvC scope cl C X.env) fp) ifs tt)
    (hk : ∀ (s : Shared) (H : Hp) (C : Addr) (cl : List (Str × Addr)) (fp : List Addr), PE (X.blk s H scope (compEnvC scope cl C X.env) fp) kx tk)
    (he : ∀ (s : Shared) (H : Hp) (C : Addr) (cl : List (Str × Addr)) (fp : List Addr), PE (X.blk s H scope (compEnvC scope cl C X.env) fp) vx tv) (hs : ∀ x, foldedSetIterable iter X.env x = pure x := by intro _; rfl) :
    PE X (.DictComp kx vx [⟨tg, iter, ifs, 0⟩] scope pos) (tDcT wi g tt tk tv (own.map (·.2))) := by
  refine ⟨fun pins s σ H Q I h => ?_⟩
  rw [arm_eval_DictComp]
  refine dcT_core hu hc hN I hi ok hg ht hk he hs h fun D C s' m H' I' q hn f => ⟨m, hn, fun h'' sb => ?_⟩
  obtain ⟨f0, f1, f2, f3, f4, f5⟩ := f
  exact ⟨.ref D, H', I'.turned (t' := s'.toks) (fun b o hb e => (sb.2 b hb).trans e) f0 f1 f3 f4 f5, rfl, q⟩
end
end LT

/-! LP6: two fors in a comprehension, dicts with tuple keys, over plain data. -/
namespace LT
open PySem PySem.Spec PyProof.Rows L2
section
variable {z w w1 fr : Bool} {te ta tb tc : TE} {m a b c : ME} {ts : TS} {s : MS} {K : PySem.W.Frag}
abbrev fMin2S : F2 := fun x y P => ∃ i j : Str, x = .str i ∧ y = .str j ∧ P (.str (if ltS j i then j else i))
abbrev fMax2S : F2 := fun x y P => ∃ i j : Str, x = .str i ∧ y = .str j ∧ P (.str (if ltS i j then j else i))
theorem o2_min2S : O2 (fun x y H Q => rMin2S [x, y] H Q) fMin2S := fun T B H x y dx dy P Q s rx ry ⟨i, j, e1, e2, hp⟩ k => by
  subst e1 e2
  rw [rx.str, ry.str]
  exact ⟨i, j, rfl, k _ _ _ _ hp (.refl s) (.str _)⟩
theorem o2_max2S : O2 (fun x y H Q => rMax2S [x, y] H Q) fMax2S := fun T B H x y dx dy P Q s rx ry ⟨i, j, e1, e2, hp⟩ k => by
  subst e1 e2
  rw [rx.str, ry.str]
  exact ⟨i, j, rfl, k _ _ _ _ hp (.refl s) (.str _)⟩
/-! ### two fors -/
def LcJ (g1 : MG) (tt1 : MT) (te : ME) (vs1 : List Nat) (Γ2 : Gm) (ys : List PyData) (acc : List PyData) (Nx : List PyData → Prop) : Prop := ∃ I1 : Nat → List PyData → Prop, I1 0 acc ∧ (∀ (k : Nat) (y : PyData) (ac : List PyData), ys[k]? = some y → I1 k ac → g1 y (wipeG Γ2 vs1) fun Γ3 => tt1 Γ3 fun b =>
  if b = true then te Γ3 fun d => ac.length < 1000000 ∧ I1 (k + 1) (ac ++ [d]) else I1 (k + 1) ac) ∧ ∀ ac, I1 ys.length ac → Nx ac
def Lc2I (g : MG) (tt : MT) (it1 : MA) (g1 : MG) (tt1 : MT) (te : ME) (vs vs1 : List Nat) (Γ : Gm) (xs : List PyData) (P : Ow → Prop) : Prop := ∃ I : Nat → List PyData → Prop, I 0 [] ∧ (∀ (j : Nat) (x : PyData) (acc : List PyData), xs[j]? = some x → I j acc → g x (wipeG Γ vs) fun Γ2 => tt Γ2 fun b =>
  if b = true then it1 Γ2 fun ys => LcJ g1 tt1 te vs1 Γ2 ys acc (I (j + 1)) else I (j + 1) acc) ∧ ∀ acc, I xs.length acc → P (.lst acc)
def mLc2 (it : MA) (g : MG) (tt : MT) (it1 : MA) (g1 : MG) (tt1 : MT) (te : ME) (vs vs1 : List Nat) : MF := fun Γ P => it Γ fun xs => Lc2I g tt it1 g1 tt1 te vs vs1 Γ xs P
theorem lc2_in {J : It} {n : Nat} {G : Hp → Prop} {Y : Nat → Hp → V → Hp → Prop} (w : Walk J n G Y) {g : TG} {tt : TT} {te : TE} {vs : List Nat} {σ : L2.St} {H1 : Hp} {D : Addr} {Qd : Hp → Prop} (Pv : Nat → Hp → Prop) (h0 : Pv 0 H1) (hG : ∀ i H, i ≤ n → Pv i H → G H)
    (hs : ∀ i x H H', i < n → Pv i H → Y i H x H' → g x (L2.wipe σ vs) H' fun σ2 H2 => L2.wipe σ2 vs = L2.wipe σ vs ∧ tt σ2 H2 fun b H3 =>
      if b = true then te σ2 H3 fun y H4 => ∃ acc, H4 D = some (.lst acc) ∧ acc.length < sizeLine ∧ Pv (i + 1) (upd H4 D (.lst (acc ++ [y]))) else Pv (i + 1) H3) (hd : ∀ H, Pv n H → Qd H) :
    ∃ W : Nat → Nat → Hp → Prop, (∃ m, W 0 m H1) ∧ ∀ i m H, W i m H →
      (J.stop i H ∧ Qd H) ∨ (J.go i H ∧ ∃ Nx : Hp → Prop, (∀ H', Nx H' → ∃ m', m' < m ∧ W (i + 1) m' H') ∧ ∀ x H', J.yld i H x H' → g x (L2.wipe σ vs) H' fun σ2 H2 => L2.wipe σ2 vs = L2.wipe σ vs ∧ tt σ2 H2 fun b H3 =>
        if b = true then te σ2 H3 fun y H4 => ∃ acc, H4 D = some (.lst acc) ∧ acc.length < sizeLine ∧ Nx (upd H4 D (.lst (acc ++ [y]))) else Nx H3) := by
  refine ⟨fun i m H => m = n - i ∧ i ≤ n ∧ Pv i H, ⟨n, by simp, Nat.zero_le _, h0⟩, ?_⟩
  rintro i m H ⟨rfl, hi, p⟩
  have q := hG i H hi p
  by_cases hlt : i < n
  · refine .inr ⟨w.goes i H hlt q, Pv (i + 1), fun H' p' => ⟨n - (i + 1), by omega, rfl, hlt, p'⟩, fun x H' y => hs i x H H' hlt p (w.yields i H x H' hlt q y)⟩
  · have e : i = n := by omega
    subst e
    exact .inl ⟨w.stops H q, hd H p⟩
theorem rf_lc2 {it it1 : TI} {mi mi1 : MA} {vs vs1 : List Nat} {g g1 : TG} {mg mg1 : MG} {tt tt1 : TT} {mt mt1 : MT} (hsub : ∀ v ∈ vs1, v ∈ vs) (hi : RI z w it mi) (hg : RG w vs g mg) (ht : RT z tt mt) (hi1 : RI z w1 it1 mi1) (hg1 : RG w1 vs1 g1 mg1) (ht1 : RT z tt1 mt1) (he : RE z te m) :
    RF z (tLc2 it g tt it1 g1 tt1 te vs vs1) (mLc2 mi mg mt mi1 mg1 mt1 m vs vs1) := fun T Γ σ B H P Q s nz e hm k =>
  hi T Γ σ B H _ _ s nz e hm fun xs J B1 H1 ⟨I, i0, is, ie⟩ g1' wk => fun D nD => by
    have nt := g1'.st.ntp nD
    have hb1 := g1'.st.fr nD
    let Pv : Nat → Hp → Prop := fun j H2 => ∃ acc ds B2, Gr T B1 H1 B2 H2 ∧ B2 D = none ∧ H2 D = some (.lst acc) ∧ RpA B2 acc ds ∧ I j ds
    refine ⟨fun i m H => m = xs.length - i ∧ i ≤ xs.length ∧ Pv i H, ⟨xs.length, by simp, Nat.zero_le _, [], [], B1, (Gr.refl g1'.st).mut nD hb1 nt, hb1, upd_same, .nil, i0⟩, ?_⟩
    rintro j mm H2 ⟨rfl, hj, acc, ds, B2, g2, hD, hH, hr, hI⟩
    have hG : Same B1 H2 := g2.sb.trans g2.st.sub
    by_cases hlt : j < xs.length
    · refine .inr ⟨wk.goes j H2 hlt hG, Pv (j + 1), fun H' p' => ⟨xs.length - (j + 1), by omega, rfl, hlt, p'⟩, fun x H2' yl => ?_⟩
      obtain ⟨d, hd, y⟩ := wk.yields j H2 x H2' hlt hG yl
      obtain ⟨B3, g3, wp⟩ := YD.step g2.st g2.sb y
      have g13 := g1'.trans (g2.trans g3)
      have e3 := (e.grow g13).wipe vs
      refine hg T B3 H2' _ _ x d _ _ g3.st e3 wp (is j d ds hd hI) fun σ2 Γ2 h2 e2 sbo2 wq => ⟨by rw [wq]; exact wipe_wipe vs fun _ h => h, ?_⟩
      have hH3 := g3.sh _ _ nt hH
      have hD3 := (g3.nw _ _ hH).1.trans hD
      refine ht T Γ2 σ2 B3 H2' _ _ g3.st (fun z => g13.nofz (nz z)) e2 h2 fun b B4 H4 h4 g4 => ?_
      have hH4 := g4.sh _ _ nt hH3
      have hD4 := (g4.nw _ _ hH3).1.trans hD3
      have hr4 := hr.grow (g3.sb.trans g4.sb)
      have g24 := (g2.trans g3).trans g4
      cases b with
      | false =>
        rw [if_neg Bool.false_ne_true] at h4 ⊢
        exact ⟨acc, ds, B4, g24, hD4, hH4, hr4, h4⟩
      | true =>
        rw [if_pos rfl] at h4 ⊢
        refine hi1 T Γ2 σ2 B4 H4 _ _ g4.st (fun z => (g13.trans g4).nofz (nz z)) (e2.grow g4) h4 fun ys J1 B5 H5 ⟨I1, j0, js, je⟩ g5 wk1 => ?_
        have hH5 := g5.sh _ _ nt hH4
        have hD5 := (g5.nw _ _ hH4).1.trans hD4
        refine lc2_in (D := D) wk1 (fun k H6 => ∃ ac as B6, Gr T B1 H1 B6 H6 ∧ Same B5 B6 ∧ En T B6 H6 σ2 Γ2 ∧ B6 D = none ∧ H6 D = some (.lst ac) ∧ RpA B6 ac as ∧ I1 k as)
          ⟨acc, ds, B5, g24.trans g5, Same.refl _, (e2.grow g4).grow g5, hD5, hH5, hr4.grow g5.sb, j0⟩ (fun k H6 _ ⟨_, _, B6, g6, sb6, _⟩ => sb6.trans g6.st.sub) ?_ ?_
        · rintro k' x' H6 H6' hk' ⟨ac, as, B6, g6, sb6, e6, hD6, hH6, hr6, hI6⟩ ⟨d', hd', y'⟩
          obtain ⟨B7, g7, wp'⟩ := YD.step g6.st sb6 y'
          have e7 := (e6.grow g7).wipe vs1
          refine hg1 T B7 H6' _ _ x' d' _ _ g7.st e7 wp' (js k' d' as hd' hI6) fun σ3 Γ3 h3 e3' sbo3 wq' => ⟨by rw [wq']; exact wipe_wipe vs1 fun _ h => h, ?_⟩
          have hH7 := g7.sh _ _ nt hH6
          have hD7 := (g7.nw _ _ hH6).1.trans hD6
          have gall := g1'.trans (g6.trans g7)
          refine ht1 T Γ3 σ3 B7 H6' _ _ g7.st (fun z => gall.nofz (nz z)) e3' h3 fun b' B8 H8 h8 g8 => ?_
          have hH8 := g8.sh _ _ nt hH7
          have hD8 := (g8.nw _ _ hH7).1.trans hD7
          cases b' with
          | false =>
            rw [if_neg Bool.false_ne_true] at h8 ⊢
            exact ⟨ac, as, B8, (g6.trans g7).trans g8, (sb6.trans g7.sb).trans g8.sb, (e6.grow g7).grow g8, hD8, hH8, hr6.grow (g7.sb.trans g8.sb), h8⟩
          | true =>
            rw [if_pos rfl] at h8 ⊢
            refine he T Γ3 σ3 B8 H8 _ _ g8.st (fun z => (gall.trans g8).nofz (nz z)) (e3'.grow g8) h8 fun dd vv B9 H9 ⟨hl, h9⟩ g9 r9 => ?_
            have hH9 := g9.sh _ _ nt hH8
            have hD9 := (g9.nw _ _ hH8).1.trans hD8
            have hr9 := hr6.grow ((g7.sb.trans g8.sb).trans g9.sb)
            have e9 := ((e6.grow g7).grow g8).grow g9
            have gm := (((g6.trans g7).trans g8).trans g9).mut (o := .lst (ac ++ [vv])) nD hD9 nt
            refine ⟨ac, hH9, by rw [hr9.length]; exact lt_line (by omega), ac ++ [vv], as ++ [dd], B9, gm, ((sb6.trans g7.sb).trans g8.sb).trans g9.sb, ⟨e9.len, fun i x g hx hg => ?_⟩, hD9, upd_same, hr9.snoc r9, h9⟩
            -- own slots stand apart from the new list
            have ok9 := e9.ok i x g hx hg
            cases g with
            | no => trivial
            | dat d => exact ok9
            | tape => exact ok9
            | own o =>
              obtain ⟨l, el, hb, ntl, okl⟩ := ok9
              have hne : l ≠ D := fun q => by
                obtain ⟨q1, q2⟩ := sbo2 i o hg
                obtain ⟨l', el', _, _, ok'⟩ := (e.wipe vs).ok i x (.own o) (by rw [← q2]; exact hx) q1
                rw [el] at el'
                cases el'
                obtain ⟨u, hu⟩ := ok'.get
                rw [q, g1'.back nD] at hu; cases hu
              exact ⟨l, el, hb, ntl, okl.grow (Same.refl _) fun u hu => by rw [upd_ne hne]; exact hu⟩
        · rintro H6 ⟨ac, as, B6, g6, sb6, e6, hD6, hH6, hr6, hI6⟩
          exact ⟨ac, as, B6, g6, hD6, hH6, hr6, je _ hI6⟩
    · have e' : j = xs.length := by omega
      subst e'
      exact .inl ⟨wk.stops H2 hG, k _ _ _ _ (ie _ hI) (g1'.trans g2) (g1'.back nD) hD ⟨acc, hH, hr⟩⟩
/-! ### dicts whose keys are pairs of texts -/
abbrev pkD (k : List Key × Int) : Prop := True
def putT (kvs : List (List Key × Int)) (k : List Key) (v : Int) : List (List Key × Int) := if (kvs.any fun kv => decide (kv.1 = k)) = true then kvs.map (fun kv => if kv.1 = k then (kv.1, v) else kv) else kvs ++ [(k, v)]
abbrev tkv (kvs : List (List Key × Int)) : List (List Key × V) := kvs.map fun p => (p.1, .int p.2)
theorem putT_tkv (kvs : List (List Key × Int)) (k : List Key) (v : Int) : putK (tkv kvs) k (.int v) = tkv (putT kvs k v) := by
  unfold putK putT tkv
  have e : ((kvs.map fun p => (p.1, V.int p.2)).any fun kv => decide (kv.1 = k)) = kvs.any fun kv => decide (kv.1 = k) := by
    rw [List.any_map]; rfl
  rw [e]
  split
  · rw [List.map_map, List.map_map]
    apply List.map_congr_left
    intro p _
    simp only [Function.comp]
    split <;> rfl
  · rw [List.map_append]; rfl
def valT (kvs : List (List Key × Int)) (k : List Key) : Option Int := (kvs.find? fun kv => decide (kv.1 = k)).map (·.2)
theorem valT_tkv (kvs : List (List Key × Int)) (k : List Key) : valV (tkv kvs) k = (valT kvs k).map V.int := by
  unfold valV valT tkv
  rw [List.find?_map, Option.map_map, Option.map_map]
  rfl
abbrev kT (x y : Str) : List Key := [.inr x, .inr y]
def DcTI (g : MG) (tt : MT) (tk tv : ME) (vs : List Nat) (Γ : Gm) (xs : List PyData) (P : Ow → Prop) : Prop := ∃ I : Nat → List (List Key × Int) → Prop, I 0 [] ∧ (∀ (j : Nat) (x : PyData) (acc : List (List Key × Int)), xs[j]? = some x → I j acc → g x (wipeG Γ vs) fun Γ2 => tt Γ2 fun b =>
  if b = true then tk Γ2 fun d => tv Γ2 fun d' => ∃ (x y : Str) (v : Int), d = wpD x y ∧ d' = .int v ∧ acc.length < 1000000 ∧ I (j + 1) (putT acc (kT x y) v) else I (j + 1) acc) ∧ ∀ acc, I xs.length acc → P (.dct acc)
def mDcT (it : MA) (g : MG) (tt : MT) (tk tv : ME) (vs : List Nat) : MF := fun Γ P => it Γ fun xs => DcTI g tt tk tv vs Γ xs P
theorem dcT_it {J : It} {n : Nat} {G : Hp → Prop} {Y : Nat → Hp → V → Hp → Prop} (w : Walk J n G Y) {g : TG} {tt : TT} {tk tv : TE} {vs : List Nat} {σ : L2.St} {H1 : Hp} {D : Addr} {Qd : Hp → Prop} (Pv : Nat → Hp → Prop) (h0 : Pv 0 (upd H1 D (.dT []))) (hG : ∀ i H, i ≤ n → Pv i H → G H)
    (hs : ∀ i x H H', i < n → Pv i H → Y i H x H' → g x (L2.wipe σ vs) H' fun σ2 H2 => L2.wipe σ2 vs = L2.wipe σ vs ∧ tt σ2 H2 fun b H3 =>
      if b = true then tk σ2 H3 fun y H4 => tv σ2 H4 fun z H5 => ∃ kvs k b, y = .ref b ∧ H5 b = some (.tup (k.map kV)) ∧ H5 D = some (.dT kvs) ∧ kvs.length < sizeLine ∧ Pv (i + 1) (upd H5 D (.dT (putK kvs k z))) else Pv (i + 1) H3) (hd : ∀ H, Pv n H → Qd H) :
    ∃ W : Nat → Nat → Hp → Prop, (∃ m, W 0 m (upd H1 D (.dT []))) ∧ ∀ i m H, W i m H →
      (J.stop i H ∧ Qd H) ∨ (J.go i H ∧ ∃ Nx : Hp → Prop, (∀ H', Nx H' → ∃ m', m' < m ∧ W (i + 1) m' H') ∧ ∀ x H', J.yld i H x H' → g x (L2.wipe σ vs) H' fun σ2 H2 => L2.wipe σ2 vs = L2.wipe σ vs ∧ tt σ2 H2 fun b H3 =>
        if b = true then tk σ2 H3 fun y H4 => tv σ2 H4 fun z H5 => ∃ kvs k b, y = .ref b ∧ H5 b = some (.tup (k.map kV)) ∧ H5 D = some (.dT kvs) ∧ kvs.length < sizeLine ∧ Nx (upd H5 D (.dT (putK kvs k z))) else Nx H3) := by
  refine ⟨fun i m H => m = n - i ∧ i ≤ n ∧ Pv i H, ⟨n, by simp, Nat.zero_le _, h0⟩, ?_⟩
  rintro i m H ⟨rfl, hi, p⟩
  have q := hG i H hi p
  by_cases hlt : i < n
  · refine .inr ⟨w.goes i H hlt q, Pv (i + 1), fun H' p' => ⟨n - (i + 1), by omega, rfl, hlt, p'⟩, fun x H' y => hs i x H H' hlt p (w.yields i H x H' hlt q y)⟩
  · have e : i = n := by omega
    subst e
    exact .inl ⟨w.stops H q, hd H p⟩
theorem rf_dcT {it : TI} {mi : MA} {vs : List Nat} {g : TG} {mg : MG} {tt : TT} {mt : MT} {tk tv : TE} {mk mv : ME} (hi : RI z w it mi) (hg : RG w vs g mg) (ht : RT z tt mt) (hk : RE z tk mk) (he : RE z tv mv) : RF z (tDcT it g tt tk tv vs) (mDcT mi mg mt mk mv vs) := fun T Γ σ B H P Q s nz e hm k =>
  hi T Γ σ B H _ _ s nz e hm fun xs J B1 H1 ⟨I, i0, is, ie⟩ g1 wk => fun D nD => by
    have nt := g1.st.ntp nD
    have hb1 := g1.st.fr nD
    refine dcT_it wk (fun j H2 => ∃ kvs B2, Gr T B1 H1 B2 H2 ∧ B2 D = none ∧ H2 D = some (.dT (tkv kvs)) ∧ I j kvs)
      ⟨[], B1, (Gr.refl g1.st).mut nD hb1 nt, hb1, upd_same, i0⟩ (fun j H2 _ ⟨_, B2, g2, _⟩ => g2.sb.trans g2.st.sub) ?_ ?_
    · rintro j x H2 H2' hj ⟨kvs, B2, g2, hD, hH, hI⟩ ⟨d, hd, y⟩
      obtain ⟨B3, g3, wp⟩ := YD.step g2.st g2.sb y
      have g13 := g1.trans (g2.trans g3)
      have e3 := (e.grow g13).wipe vs
      refine hg T B3 H2' _ _ x d _ _ g3.st e3 wp (is j d kvs hd hI) fun σ2 Γ2 h2 e2 _ wq => ⟨by rw [wq]; exact wipe_wipe vs fun _ h => h, ?_⟩
      have hH3 := g3.sh _ _ nt hH
      have hD3 := (g3.nw _ _ hH).1.trans hD
      refine ht T Γ2 σ2 B3 H2' _ _ g3.st (fun z => g13.nofz (nz z)) e2 h2 fun b B4 H4 h4 g4 => ?_
      have hH4 := g4.sh _ _ nt hH3
      have hD4 := (g4.nw _ _ hH3).1.trans hD3
      cases b with
      | false =>
        rw [if_neg Bool.false_ne_true] at h4 ⊢
        exact ⟨kvs, B4, (g2.trans g3).trans g4, hD4, hH4, h4⟩
      | true =>
        rw [if_pos rfl] at h4 ⊢
        refine hk T Γ2 σ2 B4 H4 _ _ g4.st (fun z => (g13.trans g4).nofz (nz z)) (e2.grow g4) h4 fun d' v B5 H5 h5 g5 r5 => he T Γ2 σ2 B5 H5 _ _ g5.st (fun z => ((g13.trans g4).trans g5).nofz (nz z)) ((e2.grow g4).grow g5) h5 fun d'' v' B6 H6 ⟨kx, ky, vv, ek, ev, hl, h6⟩ g6 r6 => ?_
        have hH6 := g6.sh _ _ nt (g5.sh _ _ nt hH4)
        have hD6 := (g6.nw _ _ (g5.sh _ _ nt hH4)).1.trans ((g5.nw _ _ hH4).1.trans hD4)
        subst ev
        obtain ⟨ka, rfl, hka⟩ := r5.wp_inv ek
        refine ⟨tkv kvs, kT kx ky, ka, rfl, g6.st.sub _ _ (g6.sb _ _ hka), hH6, by rw [List.length_map]; exact lt_line (by omega), putT kvs (kT kx ky) vv, B6, ((((g2.trans g3).trans g4).trans g5).trans g6).mut nD hD6 nt, hD6, ?_, h6⟩
        rw [upd_same, r6.int_inv, putT_tkv]
    · rintro H2 ⟨kvs, B2, g2, hD, hH, hI⟩
      exact k _ _ _ _ (ie _ hI) (g1.trans g2) (g1.back nD) hD hH
/-- found[pair], found the def's own -/
def mTGet (i : Nat) (b : ME) : ME := fun Γ P => ∃ kvs, Γ[i]? = some (.own (.dct kvs)) ∧ b Γ fun d => ∃ (x y : Str) (v : Int), d = wpD x y ∧ valT kvs (kT x y) = some v ∧ P (.int v)
theorem re_tget {i : Nat} (hb : RE z tb b) : RE z (tDGet (tVar i) tb) (mTGet i b) := fun T Γ σ B H P Q s nz e ⟨kvs, h1, hm⟩ k => by
  obtain ⟨x, hx, l, rfl, hbl, nt, ok⟩ := e.at h1
  have ok : H l = some (.dT (tkv kvs)) := ok
  refine ⟨_, hx, hb T Γ σ B H _ _ s nz e hm fun d v B1 H1 ⟨kx, ky, vv, ek, hv, hp⟩ g1 r => ?_⟩
  obtain ⟨ka, rfl, hka⟩ := r.wp_inv ek
  have hg : DGet H1 l (.ref ka) (valV (tkv kvs) (kT kx ky)) := DGet.t (g1.sh _ _ nt ok) (g1.st.sub _ _ hka)
  rw [valT_tkv, hv] at hg
  exact ⟨l, .int vv, rfl, hg, k _ _ _ _ hp g1 (.int vv)⟩
/-- found[pair] += e -/
def mDAugT (i : Nat) (a b : ME) (f : Int → Int → Int) : MS := fun Γ P => ∃ kvs, Γ[i]? = some (.own (.dct kvs)) ∧ kvs.length < 1000000 ∧ a Γ fun d => ∃ (x y : Str) (v : Int), d = wpD x y ∧ valT kvs (kT x y) = some v ∧ b Γ fun d' => ∃ u, d' = .int u ∧ P (.nx (Γ.set i (.own (.dct (putT kvs (kT x y) (f v u))))))
theorem rs_daugT_add {i : Nat} (ha : RE z ta a) (hb : RE z tb b) : RS z fr (sDAug (tVar i) ta tb rAdd) (mDAugT i a b (fun i j => i + j)) := fun T B0 H0 Γ σ B H P D nz e ⟨kvs, h1, hl, hm⟩ kn kr => by
  obtain ⟨l, hx, hbl, nt, ok, hl0⟩ := e.own h1
  have ok : H l = some (.dT (tkv kvs)) := ok
  refine ⟨_, hx, ha T Γ σ B H _ _ e.st (fun z => e.gr.nofz (nz z)) e.env hm fun d v B1 H1 ⟨kx, ky, vv, ek, hv, h2⟩ g1 r => ?_⟩
  obtain ⟨ka, rfl, hka⟩ := r.wp_inv ek
  have hg : DGet H1 l (.ref ka) (valV (tkv kvs) (kT kx ky)) := DGet.t (g1.sh _ _ nt ok) (g1.st.sub _ _ hka)
  rw [valT_tkv, hv] at hg
  refine ⟨l, .int vv, rfl, hg, hb T Γ σ B1 H1 _ _ g1.st (fun z => (e.gr.trans g1).nofz (nz z)) (e.env.grow g1) h2 fun d' v' B2 H2 ⟨u, eu, hp⟩ g2 r2 => ?_⟩
  subst eu
  have e2 := e.grow (g1.trans g2)
  have hH2 : H2 l = some (.dT (tkv kvs)) := g2.sh _ _ nt (g1.sh _ _ nt ok)
  refine ⟨vv, u, rfl, r2.int_inv, _, DPut.t (k := kT kx ky) hH2 (g2.st.sub _ _ (g2.sb _ _ hka)) (by rw [List.length_map]; exact lt_line (by omega)), kn _ _ _ _ hp (g1.sb.trans g2.sb) (e2.mut hx h1 ?_)⟩
  show upd H2 l _ l = _
  rw [upd_same, putT_tkv]
/-! ### new lists told to the asker -/
def endF (P : PyData → Prop) : Out → Prop
  | .rt d => P d
  | .nx _ => False
def bodyF (k : Nat) (m : MS) : FW := fun ds P => m (ds.map .dat ++ List.replicate k .no) (endF P)
theorem sem_F2 {n k : Nat} {N : List Str} {vs : List V} {H : Hp} {Q : VK} {E : XK} (hN : N.length = n + k) (rs : RS z true ts s) (h : spF z n (bodyF k s) vs H Q E) : ts { nx := fun _ H' => Q .non H', rt := Q } (start N vs) H := by
  obtain ⟨ds, B, P, hl, st, nz, r, hF, q⟩ := h
  exact rs none B H _ _ B H (endF P) _ nz ⟨.refl st, en_start r (by omega), fun i l o _ h => (own_start h).elim, fun i j l o o' _ _ h => (own_start h).elim⟩ hF (fun Γ' σ' B' H' hp _ e => False.elim hp) (fun d v B' H' hp g r f => q _ _ _ _ hp g r (f rfl))
theorem Ev.mutN {T : Tx} {B H B0 H0 B1 H1 : Hp} {σ : L2.St} {Γ : Gm} (e : Ev T B0 H0 B H σ Γ) (g : Gr T B H B1 H1) {l : Addr} {c : HO} (hl : H l = none) (hb : B1 l = none) (nt : ¬ tpA T l) : Ev T B0 H0 B1 (upd H1 l c) σ Γ := by
  refine ⟨e.gr.trans (g.mut hl hb nt), ⟨e.env.len, fun i x gv hx hg => ?_⟩, e.new, e.inj⟩
  have ok0 := e.env.ok i x gv hx hg
  have ok1 := (e.env.grow g).ok i x gv hx hg
  cases gv with
  | no => trivial
  | dat d => exact ok1
  | tape => exact ok1
  | own o =>
    obtain ⟨l0, el0, _, _, k0⟩ := ok0
    obtain ⟨l1, el1, h1, h2, k1⟩ := ok1
    rw [el0] at el1; cases el1
    have hne : l0 ≠ l := fun q => by
      obtain ⟨u, hu⟩ := k0.get
      rw [q, hl] at hu; cases hu
    exact ⟨l0, el0, h1, h2, k1.grow (Same.refl _) fun u hu => by rw [upd_ne hne]; exact hu⟩
/-- f(..).append(e) -/
def mAppF (f : MF) (a : ME) : MS := fun Γ P => f Γ fun o => ∃ ds, o = .lst ds ∧ ds.length < 1000000 ∧ a Γ fun _ => P (.nx Γ)
theorem rs_appF {f : MF} (hf : RF z te f) (ha : RE z ta a) : RS z fr (tDrop (tBM K "list" rAppend te (tCons ta tNil))) (mAppF f a) := fun T B0 H0 Γ σ B H P D nz e hm kn kr =>
  hf T Γ σ B H _ _ e.st (fun z => e.gr.nofz (nz z)) e.env hm fun o l B1 H1 ⟨ds, eo, hlen, h1⟩ g1 hl hb ok => by
    subst eo
    obtain ⟨vs, hH, hr⟩ := ok
    have nt := e.st.ntp hl
    refine ⟨.inl ⟨rfl, _, .of hH⟩, ha T Γ σ B1 H1 _ _ g1.st (fun z => (e.gr.trans g1).nofz (nz z)) (e.env.grow g1) h1 fun d v B2 H2 hp g2 r => ?_⟩
    have hH2 := g2.sh _ _ nt hH
    have hb2 := (g2.nw _ _ hH).1.trans hb
    exact nil_go ⟨l, vs, v, rfl, rfl, hH2, by rw [hr.length]; exact lt_line (by omega), kn _ _ _ _ hp (g1.sb.trans g2.sb) (e.mutN (g1.trans g2) hl hb2 nt)⟩
/-- f(own, e) that answers True or False -/
def mCallO (i : Nat) (F : FW) (b : ME) : ME := fun Γ P => ∃ ds, Γ[i]? = some (.own (.lst ds)) ∧ b Γ fun y => F [.list ds, y] fun d => ∃ k, d = .bool k ∧ P (.bool k)
theorem re_callO {i : Nat} {F : FW} (hb : RE z tb b) : RE z (tCall (spW false 2 F) [] E0 (tCons (tVar i) (tCons tb tNil))) (mCallO i F b) := fun T Γ σ B H P Q s nz e ⟨ds, h1, hm⟩ k => by
  obtain ⟨x, hx, l, rfl, hbl, nt, vs, hH, hr⟩ := e.at h1
  refine ⟨_, hx, hb T Γ σ B H _ _ s nz e hm fun y v B1 H1 hF g1 r => ?_⟩
  have hb1 := (g1.nw _ _ hH).1.trans hbl
  have hH1 := g1.sh _ _ nt hH
  have sb1 : Same B1 (upd B1 l (.lst vs)) := same_upd hb1
  have st1 : Stt none (upd B1 l (.lst vs)) H1 := ⟨fun a o ha => by
    by_cases q : a = l
    · subst q; rw [upd_same] at ha; cases ha; exact hH1
    · rw [upd_ne q] at ha; exact g1.st.sub _ _ ha, fun _ _ e => nomatch e⟩
  refine ⟨[.list ds, y], upd B1 l (.lst vs), _, rfl, st1, (fun e => nomatch e), .cons (.lst upd_same (hr.grow (g1.sb.trans sb1))) (.cons (r.grow sb1) .nil), hF, fun d v' B2 H2 ⟨kk, ed, hp⟩ g2 r2 => ?_⟩
  subst ed
  rw [r2.bl_inv]
  have sh : Same H1 H2 := fun a o h => g2.sh a o (fun ⟨_, e⟩ => nomatch e) h
  refine k _ _ (del B2 l) H2 hp (g1.trans ⟨⟨del_same.trans g2.st.sub, fun t s' et => ?_⟩, fun a o ha => ?_, fun a o _ h => sh a o h, fun a o ha => ?_, fun a f u ha => ?_⟩) (.bl kk)
  · obtain ⟨q1, q2, q3⟩ := g1.st.tp t s' et
    obtain ⟨xs, hxs⟩ := q1.get
    refine ⟨q1.grow sh, q2.grow fun a o ha => ?_, ?_⟩
    · rw [del_ne (ne_of_none ha hb1)]; exact g2.sb _ _ (sb1 _ _ ha)
    · have htl : t ≠ l := fun q => nt ⟨s', by rw [← q]; exact et⟩
      rw [del_ne htl, (g2.nw _ _ hxs).1, upd_ne htl]; exact q3
  · rw [del_ne (ne_of_none ha hb1)]; exact g2.sb _ _ (sb1 _ _ ha)
  · obtain ⟨e1, e2⟩ := g2.nw a o ha
    refine ⟨?_, e2⟩
    by_cases q : a = l
    · subst q; rw [del_at, hb1]
    · rw [del_ne q, e1, upd_ne q]
  · obtain ⟨q, h2⟩ := del_get ha
    have := g2.fz a f u h2
    rw [upd_ne q] at this
    exact this
end
end LT

/-! LTw: dict(a tuple of pairs) (the library's rule for a list of pairs, turned to a tuple); a tuple read backward. -/
namespace LT
open PySem PySem.Spec PyProof.Rows L2
theorem tuple_keys_none : typeLookup (.type "tuple") "keys" = pure none := am_miss_of_fast (by first | decide +kernel | rfl)
section
variable {prog : Program} {w : World} {A : Around} {E : Value → Shared → Prop}
theorem miss_tuple {s : Shared} {a : Addr} {o : Obj} {xs : Array Value} {k : Nat} {Q : Option Value → Shared → Prop} (hx : s.heap.get? a = some o) (hc : o.cls = .type "tuple") (hdat : o.data = .seq xs k) (hd : o.dict = none) (hA : A.handled = none)
    (h : ∀ h' tk, (∀ b ob, s.heap.get? b = some ob → h'.get? b = some ob) → Q none { s with heap := h', toks := tk }) : wpAny (model prog w) A (getAttr? (.ref a) "keys") Q E s := by
  obtain ⟨c, dct, dat, sl⟩ := o
  simp only at hc hdat hd
  subst hc hdat hd
  obtain ⟨hp, g, d, tk, os⟩ := s
  have hT : ∀ tk', (⟨hp, g, d, tk', os⟩ : Shared).TypeIs (.ref a) "tuple" := fun _ => ⟨_, hx, rfl⟩
  have hmiss := tuple_keys_none
  have hname : (["__module__", "__name__", "__qualname__", "__doc__", "__annotations__"] : List Str).contains "keys" = false := by decide +kernel
  have hsz : ("keys" : Str).length + 100 ≤ sizeLine := by first | size_fits | decide +kernel
  have f1 := sub_AttributeError
  have f3 := PySem.F.slot_tuple_getattribute.lookup
  have f4 := PySem.F.slot_tuple_getattribute.bind (.ref a)
  have f5 := am_tuple_getattr_none
  unfold getAttr? getAttrBy? getAttrBy
  repeat (any_goals (first | assumption | exact hT _ | ((with_reducible show wpAny _ _ (call (Value.builtin "tuple.__getattribute__") _ _) _ _ _); refine call_meets PySem.F.slot_tuple_getattribute (hT _) am_entry_tuple_getattribute (PySem.F.args_tuple_getattribute_2 _ _) (meets_getattribute_miss_tuple a xs k sl "keys" _ hmiss hname hsz) ⟨hx, hA, fun h' tk' e hx' => ?_⟩) | wp_step))
  obtain ⟨t', u', he⟩ := hx'.there
  show wpAny _ _ (getattributeRaised _ _ _ _ _ _ _) _ _ _
  unfold getattributeRaised
  repeat (any_goals (first | assumption | wp_step))
  all_goals first | exact h _ _ hx'.keeps | (dsimp only; repeat (any_goals (first | assumption | exact h _ _ hx'.keeps | wp_step)))

theorem upd_loopT {R : Result → Shared → Prop} {S I l : Addr} {items : Array Value} {res : Value} (hh : A.handled = none) (hlI : l ≠ I) (hSI : S ≠ I) (hSl : S ≠ l) :
    ∀ (rest : List (Key × Value)) (i : Nat) (acc : List (Key × Value)) (ix : Int) (t : Tok) (s : Shared), items.size = i + rest.length → acc.length + rest.length ≤ sizeLine →
      (∀ (j : Nat) (q : Key × Value), rest[j]? = some q → ∃ (b : Addr) (u : Value), items[i + j]? = some (.ref b) ∧ b ≠ S ∧ b ≠ I ∧ IsTup s.heap b #[u, q.2] ∧ keyIs q.1 u = true) →
      s.heap.IsTupleIter I l i → s.heap.IsTuple l items → s.heap.DictOf (mixKind prog w) S acc →
      (∀ h' tk, h'.DictOf (mixKind prog w) S (merged acc rest) → (∀ b o, b ≠ S → b ≠ I → s.heap.get? b = some o → h'.get? b = some o) → R (.ok (.ret res)) { s with heap := h', toks := tk }) →
      codeAny (model prog w) A (.builtin "dict.update.loop" ⟨[.ref S, .ref I, .int ix t, res], []⟩) R s
  | [], i, acc, ix, t, s, hsz, hln, ht, hit, hl, hm, hR => by
    refine codeAny_builtin ud_entry ?_
    rw [Around.under_plainId ud_plain _]
    show wpAny _ A.in1 (pyNext (.ref I) >>= _) _ _ s
    refine wpAny_bind (wpAny_pyNext_tuple_end (A := A.in1) hh hit hl (by first | exact Array.getElem?_eq_none (Nat.le_of_eq hsz) | (simp at hsz; simp; omega)) fun h' he => ?_)
    show wpAny _ A.in1 (Builtin.Dict.addKeywords S [] >>= _) _ _ _
    refine wpAny_bind (wpAny_pure (wpAny_pure ?_))
    exact hR h' s.toks (hm.extBut he hSI) fun b o _ hb e => he b o hb e
  | q :: rest, i, acc, ix, t, s, hsz, hln, ht, hit, hl, hm, hR => by
    obtain ⟨b, u, hb, hbS, hbI, htup, hk⟩ := ht 0 q rfl
    rw [List.length_cons] at hsz hln
    refine codeAny_builtin ud_entry ?_
    rw [Around.under_plainId ud_plain _]
    show wpAny _ A.in1 (pyNext (.ref I) >>= _) _ _ s
    refine wpAny_bind (wpAny_pyNext_tuple_item (x := .ref b) hit hl (by simpa using hb) fun h1 hit1 hs1 => ?_)
    have ht1 : IsTup h1 b #[u, q.2] := htup.extBut hs1.extBut hbI
    have hl1 : h1.IsTuple l items := hl.extBut hs1.extBut hlI
    have hm1 : h1.DictOf (mixKind prog w) S acc := hm.extBut hs1.extBut hSI
    obtain ⟨o, ho, hc, n, hd⟩ := id ht1
    show wpAny _ A.in1 (holding [Value.ref b] _ >>= _) _ _ _
    refine wpAny_bind (wpAny_holding ?_)
    refine wpAny_bind (wpAny_tryCatch ?_)
    unfold Builtin.Dict.pairItems
    refine wpAny_bind (wpAny_typeOf (T := "tuple") ⟨o, ho, hc⟩ ?_)
    rw [if_pos (by first | decide | rfl | simp)]
    refine wpAny_bind (wpAny_seqItems ho hd (wpAny_pure ?_))
    show wpAny _ A.in1 (holding [u, q.2] (dictSet S u q.2)) _ _ _
    refine wpAny_holding (wpAny_dictSet_pairs (knd := mixKind prog w) (k := q.1) hk hm1 (fun h2 hm2 hs2 => ?_) (by omega))
    refine wpAny_pure ⟨plainId_quiet ud_plain _, upd_loopT (items := items) hh hlI hSI hSl rest (i + 1) (stored acc q.1 q.2) (ix + 1) 0 _ (show items.size = i + 1 + rest.length by omega) ?_ (fun j q' e => ?_) ?_ ?_ hm2 fun h' tk hd' k => ?_⟩
    · have z := stored_length_le acc q.1 q.2
      omega
    · obtain ⟨b', u', hb', hbS', hbI', htup', hk'⟩ := ht (j + 1) q' (by simpa using e)
      refine ⟨b', u', ?_, hbS', hbI', (htup'.extBut hs1.extBut hbI').extBut hs2.extBut hbS', hk'⟩
      rw [show i + 1 + j = i + (j + 1) by omega]
      exact hb'
    · exact hit1.at fun o' e => hs2.extBut I o' (Ne.symm hSI) e
    · exact hl1.extBut hs2.extBut (Ne.symm hSl)
    · exact hR h' tk hd' fun c oc h3 h4 e => k c oc h3 h4 (hs2.extBut c oc h3 (hs1.extBut c oc h4 e))

theorem call_dict_pairsT {s : Shared} {l : Addr} {ol : Obj} {items : Array Value} {n : Nat} {prs : List (Key × Value)} {Q : Value → Shared → Prop} (hh : A.handled = none) (hl : s.heap.get? l = some ol) (hc : ol.cls = .type "tuple") (hd : ol.dict = none)
    (hdat : ol.data = .seq items n) (hsz : items.size = prs.length) (hln : prs.length ≤ sizeLine)
    (ht : ∀ (j : Nat) (q : Key × Value), prs[j]? = some q → ∃ (b : Addr) (u : Value), items[j]? = some (.ref b) ∧ IsTup s.heap b #[u, q.2] ∧ keyIs q.1 u = true)
    (h : ∀ h' tk, h'.DictOf (mixKind prog w) s.heap.objs.size (merged [] prs) → (∀ b o, s.heap.get? b = some o → h'.get? b = some o) → Q (.ref s.heap.objs.size) { s with heap := h', toks := tk }) :
    wpAny (model prog w) A (call (.type "dict") [.ref l]) Q E s := by
  refine callType_codes (Q₁ := fun obj s₁ => obj = .ref s.heap.objs.size ∧ s₁ = { s with heap := s.heap.push { cls := .type "dict", data := .dict #[] } }) PySem.F.kt_called_dict (PySem.F.kt_typeCall_dict_1 _) PySem.F.entry_dict_init (kt_code_dict_new _ ⟨rfl, rfl⟩) ?_
  rintro obj s₁ ⟨rfl, rfl⟩
  have hnew : (s.heap.push { cls := .type "dict", data := .dict #[] }).DictOf (mixKind prog w) s.heap.objs.size [] := Heap.DictOf.new s.heap
  have k0 : ∀ b o, s.heap.get? b = some o → (s.heap.push { cls := .type "dict", data := .dict #[] }).get? b = some o := fun b o e => Heap.get?_push_of_some _ e
  refine ⟨hnew.typeIs, PySem.F.args_dict_init_2 _ _, ?_⟩
  unfold Builtin.«dict.__init__»
  refine wpAny_bind ?_
  unfold Builtin.Dict.selfAndRest
  refine wpAny_bind (wpAny_notOrdered_dict hnew.typeIs ?_)
  show wpAny _ _ (pure (s.heap.objs.size, [Value.ref l])) _ _ _
  refine wpAny_pure ?_
  show wpAny _ _ (Builtin.Dict.updateFrom "dict.__init__" s.heap.objs.size (.ref l) [] .none) _ _ _
  unfold Builtin.Dict.updateFrom
  refine wpAny_bind (wpAny_typeOf (T := "tuple") ⟨ol, k0 _ _ hl, hc⟩ ?_)
  rw [if_pos (by first | decide | rfl | simp)]
  refine wpAny_bind (miss_tuple (k0 _ _ hl) hc hdat hd hh fun h1 tk1 hk1 => ?_)
  rw [if_pos (show (none : Option Value).isNone = true from rfl)]
  refine wpAny_bind (wpAny_rule ?_)
  have hl1 : h1.IsTuple l items := ⟨ol, hk1 _ _ (k0 _ _ hl), hc, n, hdat⟩
  have hS1 : s.heap.objs.size < h1.objs.size := by
    have e : (s.heap.push { cls := .type "dict", data := .dict #[] }).get? s.heap.objs.size = some { cls := .type "dict", data := .dict #[] } := Heap.get?_push_size _ rfl
    exact Heap.lt_size (hk1 _ _ e)
  refine wpAny_bind (wpAny_pyIter_tuple hl1 ?_)
  have k2 : ∀ b o, h1.get? b = some o → (h1.push { cls := .type "tuple_iterator", data := .fields #[.ref l, .int 0 0] }).get? b = some o := fun b o e => Heap.get?_push_of_some _ e
  have hlt : l < s.heap.objs.size := Heap.lt_size hl
  have key := upd_loopT (prog := prog) (w := w) (A := A.in1) (R := wants (fun r s₂ => r = .none ∧ Q (.ref s.heap.objs.size) s₂) E) (S := s.heap.objs.size) (I := h1.objs.size) (l := l) (items := items) (res := Value.none) hh
    (Nat.ne_of_lt (Nat.lt_trans hlt hS1)) (Nat.ne_of_lt hS1) (Nat.ne_of_gt hlt) prs 0 [] 0 0
    { s with heap := h1.push { cls := .type "tuple_iterator", data := .fields #[.ref l, .int 0 0] }, toks := tk1 } (by rw [hsz, Nat.zero_add]) (by rw [List.length_nil, Nat.zero_add]; exact hln)
    (fun j q e => by
      obtain ⟨b, u, e1, e2, e3⟩ := ht j q e
      have hb : b < s.heap.objs.size := e2.lt
      exact ⟨b, u, by rw [Nat.zero_add]; exact e1, Nat.ne_of_lt hb, Nat.ne_of_lt (Nat.lt_trans hb hS1), e2.keeps fun c o z => k2 _ _ (hk1 _ _ (k0 _ _ z)), e3⟩)
    ⟨_, Heap.get?_push_size _ rfl, rfl, rfl⟩ (hl1.at fun o e => k2 _ _ e) ((hnew.at fun o e => hk1 _ _ e).at fun o e => k2 _ _ e)
    (fun h' tk hd' k => ⟨rfl, h h' tk hd' fun b o e => k b o (Nat.ne_of_lt (Heap.lt_size e)) (Nat.ne_of_lt (Nat.lt_trans (Heap.lt_size e) hS1)) (k2 _ _ (hk1 _ _ (k0 _ _ e)))⟩)
  first
    | exact wpAny_pure ⟨plainId_quiet ud_plain _, key⟩
    | exact wpAny_bind (wpAny_pure (wpAny_pure ⟨plainId_quiet ud_plain _, key⟩))
end
section
variable {X : Cx}
def rDictT (K : PySem.W.Frag) : List V → Hp → VK → Prop := fun xs H Q => ∃ (a : Addr) (ps : List Addr) (kvs : List (Key × V)), xs = [.ref a] ∧ (∃ o, H a = some (.frz o (.tup (ps.map V.ref))) ∧ o.dict = none) ∧ Paired (fun p kv => SqT K H p [kV kv.1, kv.2]) ps kvs ∧
    ∀ p, H p = none → Q (.ref p) (upd H p (.dK (mergeK [] kvs)))
theorem call_dictT (hcalm : X.calm = true) : CallR X (.type "dict") (rDictT X.K) := by
  intro pins s σ H xs us Q I r q
  obtain ⟨a, ps, kvs, ex, hq, hp, q⟩ := q
  subst ex
  obtain ⟨u, eu, rx⟩ := vals1 r
  subst eu
  cases rx
  obtain ⟨o, ho', hd⟩ := hq
  obtain ⟨ho, hz, its, rv, o2, ho2, hc2, n, hdat2⟩ := I.hok a _ ho'
  rw [ho] at ho2
  cases ho2
  have hc := hc2
  have hdat := hdat2
  have ei := refs_at rv
  subst ei
  rw [List.length_map] at hz
  obtain ⟨prs, rel, hl, hpr⟩ := L2.pairs_of I hp
  refine call_dict_pairsT (prs := prs) (I.ok.hd hcalm) ho hc hd hdat (by simp [hl]) (by rw [hl]; exact hz) (fun j q' e => ?_) fun h' tk hd' k => ?_
  · obtain ⟨b, u, e1, e2, e3⟩ := hpr j q' e
    exact ⟨b, u, by simp [e1], e2, e3⟩
  · have hm : (s.heap.objs.size == sysModules) = false := beq_eq_false_iff_ne.mpr (Nat.ne_of_gt I.big)
    have hlen : (mergeK [] kvs).length ≤ sizeLine := by
      refine Nat.le_trans (length_mergeK kvs []) ?_
      rw [List.length_nil, Nat.zero_add, rel.length, hl]
      exact hz
    exact ⟨.ref s.heap.objs.size, upd H s.heap.objs.size (.dK (mergeK [] kvs)), I.laid (t' := tk) k (Nat.le_refl _) (show ObjOk X.prog X.w _ _ _ (.dK (mergeK [] kvs)) from ⟨hlen, hm, merged [] prs, KV.merge rel .nil, hd'⟩), rfl, q _ (I.hok.fresh (Nat.le_refl _))⟩
end
section
variable {prog : Program} {w : World} {A : Around} {E : Value → Shared → Prop} {s : Shared}
theorem adj_rev (n : Nat) : Builtin.Slice.sliceAdjust none none (-1) (n : Int) = ((n : Int) - 1, -1) := by
  unfold Builtin.Slice.sliceAdjust
  simp
theorem places_rev (n : Nat) : Builtin.Slice.slicePlaces ((n : Int) - 1) (-1) (-1) = n := by
  unfold Builtin.Slice.slicePlaces
  rw [if_neg (by decide)]
  by_cases h : n = 0
  · subst h; rfl
  · rw [if_pos (by omega)]
    have : ((n : Int) - 1 - -1 - 1) / (- -1) + 1 = n := by
      have e : (- -1 : Int) = 1 := rfl
      rw [e, Int.ediv_one]; omega
    rw [this]; rfl
theorem sliceApplied_rev {sl : Addr} {vl vu vs : Value} {n : Nat} {Q : Int × Int × Nat → Shared → Prop} (hs : s.heap.IsSliceOf sl vl vu vs) (pl : IsPart vl none) (pu : IsPart vu none) (ps : IsPart vs (some (-1)))
    (h : Q ((n : Int) - 1, -1, n) s) : wpAny (model prog w) A (Builtin.Slice.sliceApplied (.ref sl) (pure (n : Int))) Q E s := by
  obtain ⟨os, hos, hcs, hds⟩ := id hs
  unfold Builtin.Slice.sliceApplied Builtin.Slice.sliceFields
  refine wpAny_bind (wpAny_bind (wpAny_field hos hds (x := vl) rfl (wpAny_bind (wpAny_field hos hds (x := vu) rfl (wpAny_bind (wpAny_field hos hds (x := vs) rfl (wpAny_pure ?_)))))))
  refine wpAny_bind (HT.slicePart_ ps ?_)
  show wpAny _ _ (if ((-1 : Int) == 0) = true then _ else _) _ _ s
  rw [if_neg (by decide)]
  refine wpAny_bind (HT.slicePart_ pl (wpAny_bind (HT.slicePart_ pu (wpAny_bind (wpAny_pure ?_)))))
  show wpAny _ _ (match Builtin.Slice.sliceAdjust none none (-1) (n : Int) with | (lo, hi) => pure (lo, (-1 : Int), Builtin.Slice.slicePlaces lo hi (-1))) _ _ s
  rw [adj_rev n]
  show wpAny _ _ (pure ((n : Int) - 1, (-1 : Int), Builtin.Slice.slicePlaces ((n : Int) - 1) (-1) (-1))) _ _ s
  rw [places_rev]
  exact wpAny_pure h
theorem fm_congr {α β : Type} {f g : α → Option β} : ∀ {l : List α}, (∀ x ∈ l, f x = g x) → l.filterMap f = l.filterMap g
  | [], _ => rfl
  | a :: l, h => by rw [List.filterMap_cons, List.filterMap_cons, h a (List.mem_cons_self ..), fm_congr fun x hx => h x (List.mem_cons_of_mem _ hx)]
theorem pick_rev (xs : Array Value) : ((List.range xs.size).filterMap fun (k : Nat) => xs[(((xs.size : Int) - 1) + (k : Int) * (-1)).toNat]?) = xs.toList.reverse := by
  have e : ((List.range xs.size).filterMap fun (k : Nat) => xs[(((xs.size : Int) - 1) + (k : Int) * (-1)).toNat]?) = (List.range xs.size).filterMap (some ∘ fun k => xs.getD (xs.size - 1 - k) .none) := by
    apply fm_congr
    intro k hk
    have hk := List.mem_range.mp hk
    have : (((xs.size : Int) - 1) + (k : Int) * (-1)).toNat = xs.size - 1 - k := by omega
    rw [this]
    have hlt : xs.size - 1 - k < xs.size := by omega
    simp [hlt]
  rw [e, List.filterMap_eq_map]
  apply List.ext_getElem
  · simp
  · intro i h1 h2
    rw [List.length_map, List.length_range] at h1
    have hlt : xs.size - 1 - i < xs.size := by omega
    simp [hlt]
theorem getItem_tuple_rev {t sl : Addr} {items : Array Value} {vl vu vs : Value} {Q : Value → Shared → Prop} (ht : IsTup s.heap t items) (hs : s.heap.IsSliceOf sl vl vu vs) (pl : IsPart vl none) (pu : IsPart vu none) (ps : IsPart vs (some (-1)))
    (h : Q (.ref s.heap.objs.size) { s with heap := s.heap.push { cls := .type "tuple", data := .seq items.toList.reverse.toArray } }) (hsz : items.size ≤ sizeLine) : wpAny (model prog w) A (getItem (.ref t) (.ref sl)) Q E s := by
  have htake : sizeOk (.seq items.toList.reverse.toArray) := by
    show items.toList.reverse.toArray.size ≤ sizeLine
    simpa using hsz
  obtain ⟨os, hos, hcs, hds⟩ := id hs
  have hTs : s.TypeIs (.ref sl) "slice" := ⟨os, hos, hcs⟩
  unfold getItem
  try with_reducible refine wpAny_holding ?_
  first | refine wpAny_bind (wpAny_pure ?_) | skip
  refine wpAny_bind (wpAny_sequenceKey ht.typeIs (by decide) ?_)
  refine wpAny_bind (wpAny_callSpecial?_slot (name := Str.ofString "__getitem__") ht.typeIs PyProof.Rows.slot_tuple_getitem
    (wpAny_call_entry PyProof.Rows.slot_tuple_getitem ht.typeIs PyProof.Rows.entry_tuple_getitem ?_ (PyProof.Rows.args_tuple_getitem _ _)))
  show wpAny _ _ (Builtin.Tuple.tupleItemsOf (.ref t) >>= _) _ _ s
  refine wpAny_bind (PyProof.Rows.tupleItemsOf_ ht ?_)
  refine wpAny_bind (wpAny_typeOf hTs ?_)
  rw [if_pos (by decide)]
  refine wpAny_bind (sliceApplied_rev hs pl pu ps ?_)
  have hno : ¬ ((((items.size : Int) - 1) == 0 && (-1 : Int) == 1 && items.size == items.size) = true) := by
    intro q
    rw [Bool.and_eq_true, Bool.and_eq_true] at q
    exact absurd q.1.2 (by decide)
  show wpAny _ _ (if ((((items.size : Int) - 1) == 0 && (-1 : Int) == 1 && items.size == items.size) = true) then _ else _) _ _ s
  rw [if_neg hno, pick_rev]
  first
    | exact wpAny_bind (m := Builtin.Tuple.tupleExact _) (wpAny_newObj_type (wpAny_pure ⟨_, rfl, wpAny_pure h⟩) htake)
    | exact wpAny_bind (m := Builtin.Tuple.tupleExact _) (wpAny_newObj_type (wpAny_bind (wpAny_pure (wpAny_pure ⟨_, rfl, wpAny_pure h⟩))) htake)
    | exact wpAny_bind (wpAny_bind (m := Builtin.Tuple.tupleExact _) (wpAny_newObj_type (wpAny_pure (wpAny_pure ⟨_, rfl, wpAny_pure h⟩)) htake))
    | exact wpAny_bind (wpAny_bind (m := Builtin.Tuple.tupleExact _) (wpAny_newObj_type (wpAny_pure ⟨_, rfl, wpAny_pure h⟩) htake))
end
section
variable {X : Cx}
def tRevT (K : PySem.W.Frag) (te : TE) : TE := fun σ H Q => te σ H fun x H1 => ∃ a xs, x = .ref a ∧ SqT K H1 a xs ∧ tupO H1 xs.reverse Q
theorem pe_revT {e : Expr} {te : TE} {k : Nat} {p1 p2 p3 pos : Pos} (he : PE X e te) : PE X (.Subscript e (.Slice none none (some (.UnaryOp .USub (.Constant (.int 1) k p1) p2)) p3) pos) (tRevT X.K te) := by
  refine ⟨fun pins s σ H Q I h => ?_⟩
  refine Subscript_ (thn (he.run pins s σ H _ I h) fun v s1 ⟨x, H1, I1, r1, q1⟩ => ?_)
  obtain ⟨a, xs, ex, hx, q⟩ := q1
  subst ex
  cases r1
  have hst : PO X (some (.UnaryOp .USub (.Constant (.int 1) k p1) p2)) (tPart (tUn (rU fun i => .int (-i)) (tC (.int 1)))) := po_some (pe_un un_neg pe_int)
  refine wpAny_Slice (thn (po_none.run pins s1 σ H1 (fun o H2 => o = none ∧ H2 = H1) I1 ⟨rfl, rfl⟩) fun vl s2 ⟨l, H2, I2, pl, el, e2⟩ => ?_)
  subst el e2
  refine thn (po_none.run pins s2 σ H2 (fun o H3 => o = none ∧ H3 = H2) I2 ⟨rfl, rfl⟩) fun vu s3 ⟨u, H3, I3, pu, eu, e3⟩ => ?_
  subst eu e3
  refine thn (hst.run pins s3 σ H3 (fun o H4 => o = some (-1) ∧ H4 = H3) I3 ⟨1, rfl, -1, rfl, rfl, rfl⟩) fun vs s4 ⟨o, H4, I4, ps, eo, e4⟩ => ?_
  subst eo e4
  have I5 : Inv X pins σ H4 { s4 with heap := s4.heap.push { cls := .type "slice", data := .fields #[vl, vu, vs] } } := I4.kept (t' := s4.toks) fun b ob q => Heap.get?_push_of_some _ q
  obtain ⟨its, r, ht, hz⟩ := I5.tuple hx
  have hlen := r.length
  show wpAny (model X.prog X.w) X.A (subscriptTail e (.Slice none none (some (.UnaryOp .USub (.Constant (.int 1) k p1) p2)) p3) (.ref a) (.ref s4.heap.objs.size)) (EP X pins σ Q) X.xe { s4 with heap := s4.heap.push { cls := .type "slice", data := .fields #[vl, vu, vs] } }
  refine tail_any (ops := [.ref a, .ref s4.heap.objs.size]) ht.typeIs (PyProof.Rows.slot_tuple_getitem.lookup) ?_ (by with_unfolding_all rfl)
  refine getItem_tuple_rev ht (Heap.IsSliceOf.new _ vl vu vs) pl pu ps ?_ (by rw [List.size_toArray]; omega)
  refine ⟨.ref _, _, I5.laid (t' := s4.toks) (o := .frz { cls := .type "tuple", data := .seq its.reverse.toArray } (.tup xs.reverse)) (fun b ob q => Heap.get?_push_of_some _ q) (Nat.le_refl _) ?_, rfl, q _ _ (I5.hok.fresh (Nat.le_refl _)) rfl⟩
  exact ⟨Heap.get?_push_size _ rfl, by rw [List.length_reverse]; exact hz, _, r.reverse, IsTup.new _ _⟩
end
end LT

/-! LP7: dict(pairs), in, d[k], tuples backward, over plain data. -/
namespace LT
open PySem PySem.Spec PyProof.Rows L2
section
variable {z w w1 fr : Bool} {te ta tb tc : TE} {m a b c : ME} {ts : TS} {s : MS} {K : PySem.W.Frag}
def mRevT (a : ME) : ME := fun Γ P => a Γ fun x => ∃ ds, x = .tuple ds ∧ ds.length ≤ 1000 ∧ P (.tuple ds.reverse)
theorem re_revT (ha : RQ z ta a) : RE z (tRevT K ta) (mRevT a) := fun T Γ σ B H P Q s nz e hm k =>
  ha T Γ σ B H _ _ s nz e hm fun d1 v1 B1 H1 ⟨ds, e1, hl, h1⟩ g1 r1 => by
    subst e1
    obtain ⟨p, o, xs, rfl, hp, hd, hr⟩ := r1.tup
    refine ⟨p, xs, rfl, .inl (.inr ⟨o, g1.st.sub _ _ hp⟩), fun q o' hq hd' => ?_⟩
    have g := Gr.new (o := .frz o' (.tup xs.reverse)) g1.st hq (fun _ _ e => nomatch e)
    exact k _ _ _ _ h1 (g1.trans g) (.tup upd_same hd' (hr.reverse.grow g.sb))
def mgS (acc more : List (Key × Sc)) : List (Key × Sc) := more.foldl (fun ac kv => putS ac kv.1 kv.2) acc
theorem mgS_dkv (more acc : List (Key × Sc)) : mergeK (dkv acc) (dkv more) = dkv (mgS acc more) := by
  induction more generalizing acc with
  | nil => rfl
  | cons p r ih =>
    show mergeK (putK (dkv acc) p.1 (scV p.2)) (dkv r) = _
    rw [putS_dkv, ih]; rfl
def prD (p : Str × Int) : PyData := .tuple [.str p.1, .int p.2]
def prK (p : Str × Int) : Key × Sc := (.inr p.1, .inl p.2)
theorem pairs_rp {B H : Hp} (sb : Same B H) : ∀ {ps : List (Str × Int)} {vs : List V}, RpA B vs (ps.map prD) → ∃ as : List Addr, vs = as.map V.ref ∧ Paired (fun p (kv : Key × V) => SqT K H p [kV kv.1, kv.2]) as (dkv (ps.map prK))
  | [], vs, h => by cases h; exact ⟨[], rfl, .nil⟩
  | p :: ps, vs, h => by
    cases h with
    | cons h1 h2 =>
      obtain ⟨as, e, q⟩ := pairs_rp sb h2
      obtain ⟨a, o, xs, e1, h3, _, h4⟩ := h1.tup_inv
      obtain ⟨x, y, e2, h5, h6⟩ := h4.two
      subst e e1 e2
      cases h5.str_inv
      cases h6.int_inv
      exact ⟨a :: as, rfl, .cons (.inl (.inr ⟨o, sb _ _ h3⟩)) q⟩
def mDictT (a : ME) : MF := fun Γ P => a Γ fun x => ∃ ps : List (Str × Int), x = .tuple (ps.map prD) ∧ P (.dic (mgS [] (ps.map prK)))
theorem rf_dictT (ha : RQ z ta a) : RF z (tCB (rDictT K) (tCons ta tNil)) (mDictT a) := fun T Γ σ B H P Q s nz e hm k =>
  ha T Γ σ B H _ _ s nz e hm fun d1 v1 B1 H1 ⟨ps, e1, h1⟩ g1 r1 => by
    subst e1
    obtain ⟨p, o, xs, rfl, hp, hd, hr⟩ := r1.tup
    obtain ⟨as, rfl, q⟩ := pairs_rp (K := K) g1.st.sub hr
    refine ⟨p, as, _, rfl, ⟨o, g1.st.sub _ _ hp, hd⟩, q, fun l hn => ?_⟩
    refine k _ l _ _ h1 (g1.trans ((Gr.refl g1.st).mut hn (g1.st.fr hn) (g1.st.ntp hn))) (g1.back hn) (g1.st.fr hn) ?_
    show upd H1 l _ l = _
    rw [upd_same]
    exact congrArg (fun x => some (HO.dK x)) (mgS_dkv (ps.map prK) [])
def valS (kvs : List (Key × Sc)) (k : Key) : Option Sc := (kvs.find? fun kv => decide (kv.1 = k)).map (·.2)
theorem valS_dkv (kvs : List (Key × Sc)) (k : Key) : valV (dkv kvs) k = (valS kvs k).map scV := by
  unfold valV valS dkv
  rw [List.find?_map, Option.map_map, Option.map_map]
  rfl
def mDIn (neg : Bool) (a b : ME) : ME := fun Γ P => a Γ fun y => b Γ fun x => ∃ kvs k, x = dD kvs ∧ y = kyD k ∧ P (.bool (if neg = true then !(valS kvs k).isSome else (valS kvs k).isSome))
theorem Rq.ky {T : Tx} {B H : Hp} {v : V} {k : Key} (h : Rq T B H v (kyD k)) : v = kV k := by
  cases k with
  | inl i => exact h.int
  | inr i => exact h.str
theorem re_din (ha : RQ z ta a) (hb : RQ z tb b) : RE z (tDIn ta tb) (mDIn false a b) := fun T Γ σ B H P Q s nz e hm k =>
  ha T Γ σ B H _ _ s nz e hm fun d1 v1 B1 H1 h1 g1 r1 => hb T Γ σ B1 H1 _ _ g1.st (fun z => g1.nofz (nz z)) (e.grow g1) h1 fun d2 v2 B2 H2 ⟨kvs, y, e1, e2, h2⟩ g2 r2 => by
    subst e2
    obtain ⟨p, rfl, hp⟩ := r2.dic e1 g2.st.sub
    refine ⟨p, _, rfl, .inl ⟨_, y, hp, r1.ky, rfl⟩, ?_⟩
    rw [valS_dkv, Option.isSome_map]
    exact k _ _ _ _ h2 (g1.trans g2) (.bl _)
theorem re_dnotin (ha : RQ z ta a) (hb : RQ z tb b) : RE z (tDNotIn ta tb) (mDIn true a b) := fun T Γ σ B H P Q s nz e hm k =>
  ha T Γ σ B H _ _ s nz e hm fun d1 v1 B1 H1 h1 g1 r1 => hb T Γ σ B1 H1 _ _ g1.st (fun z => g1.nofz (nz z)) (e.grow g1) h1 fun d2 v2 B2 H2 ⟨kvs, y, e1, e2, h2⟩ g2 r2 => by
    subst e2
    obtain ⟨p, rfl, hp⟩ := r2.dic e1 g2.st.sub
    refine ⟨p, _, rfl, .inl ⟨_, y, hp, r1.ky, rfl⟩, ?_⟩
    rw [valS_dkv, Option.isSome_map]
    exact k _ _ _ _ h2 (g1.trans g2) (.bl _)
def mDGet (a b : ME) : ME := fun Γ P => a Γ fun x => b Γ fun y => ∃ kvs k v, x = dD kvs ∧ y = kyD k ∧ valS kvs k = some v ∧ P (scD v)
theorem re_dget (ha : RQ z ta a) (hb : RQ z tb b) : RE z (tDGet ta tb) (mDGet a b) := fun T Γ σ B H P Q s nz e hm k =>
  ha T Γ σ B H _ _ s nz e hm fun d1 v1 B1 H1 h1 g1 r1 => hb T Γ σ B1 H1 _ _ g1.st (fun z => g1.nofz (nz z)) (e.grow g1) h1 fun d2 v2 B2 H2 ⟨kvs, y, v, e1, e2, hv, h2⟩ g2 r2 => by
    subst e2
    obtain ⟨p, rfl, hp⟩ := (r1.grow g2).dic e1 g2.st.sub
    refine ⟨p, scV v, rfl, .inl ⟨_, y, hp, r2.ky, ?_⟩, k _ _ _ _ h2 (g1.trans g2) (rp_sc v)⟩
    rw [valS_dkv, hv]; rfl
end
end LT

/-! LTy: sorted of (int, text) pairs (the library's rule for pairs of ints, turned to texts behind). -/
namespace LT
open PySem PySem.Spec PyProof.Rows L2 SrtO
def IsIS (h : Heap) (v : Value) (x : Int) (y : Str) : Prop := ∃ a o t u n, v = .ref a ∧ h.get? a = some o ∧ o.cls = .type "tuple" ∧ o.data = .seq #[.int x t, .str y u] n
theorem IsIS.keeps {h h' : Heap} {v : Value} {x : Int} {y : Str} (p : IsIS h v x y) (k : ∀ b o, h.get? b = some o → o.cls = .type "tuple" → h'.get? b = some o) : IsIS h' v x y := by
  obtain ⟨a, o, t, u, n, e, ho, hc, hd⟩ := p
  exact ⟨a, o, t, u, n, e, k _ _ ho hc, hc, hd⟩
theorem firsts_is {h : Heap} : ∀ {vs : List Value}, (∀ v ∈ vs, ∃ x y, IsIS h v x y) → ∃ fs : List Value, PySem.W.KatTups h vs fs ∧ fs.length = vs.length ∧ ∀ f ∈ fs, ∃ x t, f = Value.int x t
  | [], _ => ⟨[], PySem.W.KatTups.nil, rfl, fun _ hm => by simp at hm⟩
  | v :: vs, hp => by
    obtain ⟨fs, h1, h2, h3⟩ := firsts_is (vs := vs) fun v' hm => hp v' (List.mem_cons_of_mem _ hm)
    obtain ⟨x, y, a, o, t, u, n, e, ho, hc, hd⟩ := hp v (List.mem_cons_self ..)
    subst e
    refine ⟨.int x t :: fs, PySem.W.KatTups.cons ho hc hd rfl h1, by rw [List.length_cons, List.length_cons, h2], fun f hm => ?_⟩
    rcases List.mem_cons.mp hm with rfl | hm
    · exact ⟨x, t, rfl⟩
    · exact h3 f hm
def lexS (p q : Int × Str) : Bool := if p.1 = q.1 then decide (p.2.cps.toList < q.2.cps.toList) else decide (p.1 < q.1)
theorem lexS_iff {p q : Int × Str} : lexS p q = true ↔ p.1 < q.1 ∨ (p.1 = q.1 ∧ p.2.cps.toList < q.2.cps.toList) := by
  unfold lexS
  by_cases e : p.1 = q.1
  · rw [if_pos e, decide_eq_true_eq]
    constructor
    · intro h; exact .inr ⟨e, h⟩
    · rintro (h | h)
      · omega
      · exact h.2
  · rw [if_neg e, decide_eq_true_eq]
    constructor
    · intro h; exact .inl h
    · rintro (h | h)
      · exact h
      · exact absurd h.1 e
theorem lexS_no {p q : Int × Str} : lexS p q = false ↔ q.1 < p.1 ∨ (p.1 = q.1 ∧ q.2.cps.toList ≤ p.2.cps.toList) := by
  rw [← Bool.not_eq_true, lexS_iff]
  constructor
  · intro h
    by_cases e : p.1 = q.1
    · exact .inr ⟨e, List.not_lt.mp fun z => h (.inr ⟨e, z⟩)⟩
    · left
      have : ¬ p.1 < q.1 := fun z => h (.inl z)
      omega
  · rintro (h | ⟨h1, h2⟩) (q | ⟨q1, q2⟩)
    · omega
    · omega
    · omega
    · exact absurd q2 (List.not_lt.mpr h2)
theorem swo_lexS {α : Type} (k : α → Int × Str) : Swo fun v u => lexS (k v) (k u) := by
  refine ⟨fun x y h => ?_, fun x y z h1 h2 => ?_⟩
  · refine lexS_no.mpr ?_
    rcases lexS_iff.mp h with a | ⟨a, b⟩
    · exact .inl a
    · exact .inr ⟨a.symm, List.le_of_lt b⟩
  · refine lexS_no.mpr ?_
    rcases lexS_no.mp h1 with a | ⟨a, b⟩ <;> rcases lexS_no.mp h2 with c | ⟨c, d⟩
    · left; omega
    · left; omega
    · left; omega
    · right; exact ⟨by omega, List.le_trans b d⟩
section
variable {prog : Program} {w : World} {A : Around} {E : Value → Shared → Prop} {s : Shared}
theorem is_cmp {vs : List Value} {k : Value → Int × Str} (hp : ∀ v ∈ vs, IsIS s.heap v (k v).1 (k v).2) : Cmp prog w A s (tuples' true) (fun p => p.1 ∈ vs) (lt2 fun v u => lexS (k v) (k u)) := by
  intro p q hm hm'
  have h1 := hp _ hm
  have h2 := hp _ hm'
  show wpAny (model prog w) A (keyLt' (tuples' true) p.1 q.1) (fun r s' => s' = s ∧ r = lexS (k p.1) (k q.1)) (fun _ _ => False) s
  unfold lexS
  generalize (k p.1).1 = x at h1 ⊢
  generalize (k p.1).2 = y at h1 ⊢
  generalize (k q.1).1 = x' at h2 ⊢
  generalize (k q.1).2 = y' at h2 ⊢
  obtain ⟨a, o, t, u, n, e, ho, hc, hd⟩ := h1
  obtain ⟨a', o', t', u', n', e', ho', hc', hd'⟩ := h2
  rw [e, e']
  refine PySem.W.kat_lt ho hd ho' hd' ?_
  show PySem.W.KatLex prog w A true (decide (2 < 2)) _ [(.int x t, .int x' t'), (.str y u, .str y' u')] 0 s
  refine PySem.W.kat_cons (SeqAt.EqAt.int_int x t x' t' prog w _ _ ?_)
  refine PySem.W.kat_go (fun e1 => ?_) (fun e1 => ?_)
  · have ex : x = x' := by simpa using e1
    refine PySem.W.kat_yes (PySem.W.kat_cons (SeqAt.EqAt.str_str y u y' u' prog w _ _ ?_))
    refine PySem.W.kat_go (fun e2 => ?_) (fun e2 => ?_)
    · have ey : y = y' := by simpa using e2
      have e3 : (if x = x' then decide (y.cps.toList < y'.cps.toList) else decide (x < x')) = false := by
        rw [if_pos ex, ey]
        exact decide_eq_false (List.lt_irrefl _)
      exact PySem.W.kat_yes (PySem.W.kat_nil ⟨rfl, e3.symm⟩)
    · have e3 : (if x = x' then decide (y.cps.toList < y'.cps.toList) else decide (x < x')) = decide (y.cps.toList < y'.cps.toList) := if_pos ex
      refine PySem.W.kat_no (PySem.W.kat_one _ _ (PyProof.Rows.lt_str ?_))
      exact (show s = s ∧ decide (y.cps.toList < y'.cps.toList) = (if x = x' then decide (y.cps.toList < y'.cps.toList) else decide (x < x')) from ⟨rfl, e3.symm⟩)
  · have ex : ¬ x = x' := by simpa using e1
    have e3 : (if x = x' then decide (y.cps.toList < y'.cps.toList) else decide (x < x')) = decide (x < x') := if_neg ex
    exact PySem.W.kat_no (oneLt_int ⟨rfl, e3.symm⟩)
theorem is_sortableO {a : Addr} {vs : List Value} {k : Value → Int × Str} (h0 : 0 < vs.length) (hp : ∀ v ∈ vs, IsIS s.heap v (k v).1 (k v).2) (ha : ∀ o, s.heap.get? a = some o → o.cls ≠ .type "tuple") : SortableO prog w A s a vs fun v u => lexS (k v) (k u) := by
  intro h' keep
  have hp' : ∀ v ∈ vs, IsIS h' v (k v).1 (k v).2 := fun v hm => (hp v hm).keeps fun b o e c => keep b o (fun z => by subst z; exact ha o e c) e
  obtain ⟨fs, h1, h2, h3⟩ := firsts_is fun v hm => ⟨_, _, hp' v hm⟩
  refine ⟨tuples' true, fun Q E hq => ?_, is_cmp hp'⟩
  refine PySem.W.kat_kind (T := .type "int") h1 (by omega) (fun f hm => ?_) (by rfl) ?_
  · obtain ⟨x, t, rfl⟩ := h3 f hm
    exact PySem.W.Looks.now
  · have e : (Value.type "int" != Value.type "tuple") = true := by first | decide +kernel | rfl | decide
    rw [e]
    exact hq
theorem sorted_isO {l : Addr} {vs : List Value} {k : Value → Int × Str} {Q : Value → Shared → Prop} (hl : s.heap.IsList l vs.toArray) (hz : vs.length ≤ sizeLine) (hp : ∀ v ∈ vs, IsIS s.heap v (k v).1 (k v).2)
    (h : ∀ (h' : Heap) (d : Addr) (out : List Value), Srtd (fun v u => lexS (k v) (k u)) out → Stb (fun v u => lexS (k v) (k u)) out vs → (∀ b o, s.heap.get? b = some o → h'.get? b = some o) → s.heap.objs.size ≤ d → (∃ n, h'.get? d = some (seqObj "list" out.toArray n)) → Q (.ref d) { s with heap := h' }) :
    wpAny (model prog w) A (call (.builtin "sorted") [.ref l]) Q E s := by
  refine sorted_ord (swo_lexS k) hl hz (fun h2 h₁ a ha kk => ?_) fun out hs hb => ?_
  · refine is_sortableO (s := { s with heap := h₁ }) (by omega) (fun v hm => (hp v hm).keeps fun b o e _ => (kk b o e).2) fun o e => ?_
    have e' : some o = some (seqObj "list" vs.toArray 0) := e.symm.trans ha
    cases e'
    intro c
    exact absurd (Value.type.inj c) (by decide)
  · exact h _ _ out hs hb (fun b o e => sortedAll_old e) (Nat.le_succ _) (sortedAll_at s.heap vs out.toArray)
end
abbrev ltIS (k : V → Int × Str) (x y : V) : Bool := lexS (k x) (k y)
def rSortedIS (K : PySem.W.Frag) : List V → Hp → VK → Prop := fun vs H Q => ∃ (a : Addr) (xs : List V) (k : V → Int × Str), vs = [V.ref a] ∧ SqL K H a xs ∧ (∀ x ∈ xs, ∃ t, x = V.ref t ∧ Rd H t (.tup [.int (k x).1, .str (k x).2])) ∧
  ∀ ys p, Srtd (ltIS k) ys → ys.Perm xs → H p = none → Q (.ref p) (upd H p (.lst ys))
section
variable {X : Cx}
theorem cr_sortedIS : CallR X (.builtin "sorted") (rSortedIS X.K) := by
  intro pins s σ H vs us Q I r h
  obtain ⟨a, xs, k, rfl, hs, hx, q⟩ := h
  obtain ⟨its, rv, hl, hz⟩ := I.list hs
  obtain ⟨u, rfl, ru⟩ := vals1 r
  obtain rfl : u = Value.ref a := ru
  obtain ⟨e1, e2⟩ := refs_back rv fun x m => by
    obtain ⟨t, e, _⟩ := hx x m
    exact ⟨t, e⟩
  refine sorted_isO (k := fun u => k (backV u)) hl.isList (by rw [← rv.length]; exact hz) (fun v hv => ?_) fun h' d out h1 h2 kp hd hn => ?_
  · obtain ⟨t, rfl⟩ := e2 v hv
    have hm : V.ref t ∈ xs := by rw [e1]; exact List.mem_map.mpr ⟨_, hv, rfl⟩
    obtain ⟨t', e, ht⟩ := hx _ hm
    cases e
    obtain ⟨_, its2, r2, o, ho, hc, n, hd⟩ := ht.ok I.hok
    obtain ⟨u1, u2, rfl, ri, rj⟩ := vals2 r2
    obtain ⟨t1, rfl⟩ := ri
    obtain ⟨t2, rfl⟩ := rj
    exact ⟨t, o, t1, t2, n, rfl, ho, hc, hd⟩
  · have h3 : ∀ u ∈ out, ∃ a, u = Value.ref a := fun u hu => e2 u (h2.perm.mem_iff.mp hu)
    obtain ⟨n, hn⟩ := hn
    have hb : Stb (ltIS k) (out.map backV) xs := by
      rw [e1]
      exact Stb.map (swo_lexS k) backV h2
    refine ⟨.ref d, upd H d (.lst (out.map backV)), I.laid (t' := s.toks) kp hd ⟨?_, out, n, vals_back h3, hn⟩, rfl, q _ d (srtd_map h1) hb.perm (I.hok.fresh hd)⟩
    rw [hb.len]
    exact hz
end
section
variable {z : Bool} {ta : TE} {a : ME} {K : PySem.W.Frag}
abbrev isD (p : Int × Str) : PyData := .tuple [.int p.1, .str p.2]
/-- what a pair stands for, by its address -/
def isK (H : Hp) (v : V) : Int × Str := match v with
  | .ref t => match H t with
    | some (.frz _ (.tup [.int i, .str s])) => (i, s)
    | _ => (0, ⟨#[]⟩)
  | _ => (0, ⟨#[]⟩)
theorem is_of {B H : Hp} (sb : Same B H) {v : V} {p : Int × Str} (h : Rp B v (isD p)) : isK H v = p ∧ ∃ t, v = .ref t ∧ Rd H t (.tup [.int p.1, .str p.2]) := by
  obtain ⟨t, o, xs, rfl, h1, _, h2⟩ := h.tup_inv
  obtain ⟨x, y, rfl, h3, h4⟩ := h2.two
  cases h3.int_inv
  cases h4.str_inv
  have h5 := sb _ _ h1
  refine ⟨?_, t, rfl, .inr ⟨o, h5⟩⟩
  simp [isK, h5]
theorem rpa_is {B H : Hp} (sb : Same B H) : ∀ {vs : List V} {ps : List (Int × Str)}, RpA B vs (ps.map isD) → vs.map (isK H) = ps ∧ ∀ x ∈ vs, Rp B x (isD (isK H x)) ∧ ∃ t, x = .ref t ∧ Rd H t (.tup [.int (isK H x).1, .str (isK H x).2])
  | [], [], _ => ⟨rfl, fun _ h => nomatch h⟩
  | [], p :: ps, h => by cases h
  | v :: vs, [], h => by cases h
  | v :: vs, p :: ps, h => by
    cases h with
    | cons h1 h2 =>
      obtain ⟨e1, e2⟩ := is_of sb h1
      obtain ⟨f1, f2⟩ := rpa_is sb h2
      refine ⟨by rw [List.map_cons, e1, f1], fun x hx => ?_⟩
      rcases List.mem_cons.mp hx with rfl | hx
      · rw [e1]; exact ⟨h1, e2⟩
      · exact f2 x hx
theorem rpa_all {B H : Hp} : ∀ {vs : List V}, (∀ x ∈ vs, Rp B x (isD (isK H x))) → RpA B vs ((vs.map (isK H)).map isD)
  | [], _ => .nil
  | v :: vs, h => .cons (h v (List.mem_cons_self ..)) (rpa_all fun x hx => h x (List.mem_cons_of_mem _ hx))
def mSortedIS (a : ME) : MF := fun Γ P => a Γ fun x => ∃ ps : List (Int × Str), x = .list (ps.map isD) ∧ ∀ ys : List (Int × Str), ys.Perm ps → ys.Pairwise (fun p q => p.1 ≤ q.1) → P (.lst (ys.map isD))
theorem rf_sortedIS (ha : RQ z ta a) : RF z (tCB (rSortedIS K) (tCons ta tNil)) (mSortedIS a) := fun T Γ σ B H P Q s nz e hm k =>
  ha T Γ σ B H _ _ s nz e hm fun d1 v1 B1 H1 ⟨ps, e1, h1⟩ g1 r1 => by
    subst e1
    obtain ⟨p, xs, rfl, hp, hr⟩ := r1.lst g1.st.sub
    obtain ⟨f1, f2⟩ := rpa_is g1.st.sub hr
    refine ⟨p, xs, isK H1, rfl, .of hp, fun x hx => (f2 x hx).2, fun ys q so pm hq => ?_⟩
    have r2 : RpA B1 ys ((ys.map (isK H1)).map isD) := rpa_all fun x hx => (f2 x (pm.mem_iff.mp hx)).1
    refine rf_new g1 r2 (h1 _ ?_ ?_) k q hq
    · rw [← f1]; exact pm.map _
    · rw [List.pairwise_map]
      refine List.Pairwise.imp ?_ so
      intro x y hxy
      rcases lexS_no.mp hxy with h | h
      · exact Int.le_of_lt h
      · exact Int.le_of_eq h.1.symm
end
end LT

/-! LTx: list(d.values()), sum(d.values()) of a dict with int values (after the library's min(d.values())). -/
namespace LT
open PySem PySem.Spec PyProof.Rows L2
section
variable {X : Cx} {o : Expr} {p pos apos mpos : Pos} {td : TE}
/-- list(o.values()) -/
def tListVals (td : TE) : TE := fun σ H Q => td σ H fun x H1 => ∃ a kvs, x = V.ref a ∧ Rd H1 a (.dK kvs) ∧ ∀ q, H1 q = none → Q (.ref q) (upd H1 q (.lst (kvs.map (·.2))))
theorem vals_kv : ∀ {kvs : List (Key × V)} {vs : List (Key × Value)}, KV kvs vs → ∀ {us : List Value}, us.length = vs.length → (∀ (j : Nat) (v : Value), us[j]? = some v → ∃ k, vs[j]? = some (k, v)) → Vals (kvs.map (·.2)) us := by
  intro kvs vs r
  unfold KV at r
  induction r with
  | nil =>
    intro us hl _
    have : us = [] := List.length_eq_zero_iff.mp hl
    subst this
    exact .nil
  | @cons p q ps qs h t ih =>
    intro us hl hv
    cases us with
    | nil => simp at hl
    | cons u us =>
      obtain ⟨k, hk⟩ := hv 0 u rfl
      have e : q = (k, u) := by simpa using hk
      refine .cons (by rw [e] at h; exact h.2) (ih (by simpa using hl) fun j v e => ?_)
      obtain ⟨k, hk⟩ := hv (j + 1) v (by simpa using e)
      exact ⟨k, by simpa using hk⟩
theorem pe_listVals (hc : X.calm = true) (hg : Gl X "list") (hm : X.mg "list" = none) (hd : PE X o td) (hbase : attributeBase o "values" X.env (eval o X.env) = eval o X.env := by rfl) (hline : (apos.endLine == mpos.line) = true := by rfl)
    (hse : starEach [Expr.Call (.Attribute o "values" apos) [] [] mpos] X.env = [(false, eval (Expr.Call (.Attribute o "values" apos) [] [] mpos) X.env)] := by rfl) :
    PE X (.Call (.Name "list" p) [.Call (.Attribute o "values" apos) [] [] mpos] [] pos) (tListVals td) := by
  refine ⟨fun pins s σ H Q I h => ?_⟩
  refine wpAny_Call_Name_kw (ld_blt I hg hm (u := .type "list") (by first | rfl | decide +kernel) ?_ (by first | decide +kernel | decide) (by first | decide +kernel | decide))
  rw [hse]
  refine PySem.callWith_type1 (wpAny_Call_method0_late hbase hline (thn (hd.run pins s σ H _ I h) fun v s1 ⟨x, H1, I1, r1, a, kvs, ex, ha, q⟩ => ?_))
  subst ex
  obtain rfl : v = Value.ref a := r1
  obtain ⟨z, hsys, vs, rel, dof⟩ := dk_rd I1.hok ha
  obtain ⟨ep, dat⟩ := dof.dictAt
  have dat' := dat
  obtain ⟨ob, es, ho, ex, hdat, hko, hpr, hnd⟩ := dat'
  refine ⟨"dict", "dict.values", F.plainAttrs_dict, F.slot_dict_values, F.type_dict_values, ⟨ob, ho, ex.1⟩, fun b e => ?_, Calls.callWith_builtin rfl (PySem.evalArgs_none ?_)⟩
  · cases e
    exact ⟨ob, ho, ex.2.1⟩
  refine call_meetsIn F.slot_dict_values ⟨ob, ho, ex.1⟩ F.entry_dict_values (F.args_dict_values_1 _) (meets_dict_values (mixKind X.prog X.w) a hsys) ⟨⟨vs, dof⟩, ?_⟩
  have k1 : ∀ b u, s1.heap.get? b = some u → (s1.heap.push { cls := .type "dict_values", data := .fields #[.ref a] }).get? b = some u := fun b u e => Heap.get?_push_of_some _ e
  have dat1 : (s1.heap.push { cls := .type "dict_values", data := .fields #[.ref a] }).DictAt (mixKind X.prog X.w) a vs ep := dat.keep k1
  have I2 : Inv X pins σ H1 { s1 with heap := s1.heap.push { cls := .type "dict_values", data := .fields #[.ref a] } } := I1.kept (t' := s1.toks) k1
  refine PySem.W.kdl_call (PySem.W.kdl_values (knd := mixKind X.prog X.w) (r := s1.heap.objs.size) (d := a) (kvs := vs) (ep := ep)) (I.ok.hd hc) ⟨⟨_, Heap.get?_push_size _ rfl, rfl, rfl⟩, dat1⟩ (by rw [← rel.length]; exact z) fun h' tk acc c' hk hD hacc => ?_
  have hv : Vals (kvs.map (·.2)) acc.toList := vals_kv rel (by rw [Array.length_toList]; exact hacc.1) fun j v e => hacc.2 j v (by rw [← Array.getElem?_toList]; exact e)
  exact ⟨.ref _, upd H1 _ (.lst (kvs.map (·.2))), I2.laid (t' := tk) hk (Nat.le_refl _)
    (show ObjOk X.prog X.w _ _ _ (.lst (kvs.map (·.2))) from ⟨by rw [List.length_map]; exact z, acc.toList, c', hv, by rw [Array.toArray_toList]; exact hD⟩), rfl, q _ (I2.hok.fresh (Nat.le_refl _))⟩
/-- sum(o.values()), ints -/
def tSumVals (td : TE) : TE := fun σ H Q => td σ H fun x H1 => ∃ a kvs, ∃ is : List Int, x = V.ref a ∧ Rd H1 a (.dK kvs) ∧ kvs.map (·.2) = is.map V.int ∧ is.length ≤ 1000 ∧ (∀ i ∈ is, 0 ≤ i ∧ i ≤ 1000) ∧ Q (.int is.sum) H1
theorem preSum_take (is : List Int) : ∀ n, n ≤ is.length → preSum (fun i => is.getD i 0) n = (is.take n).sum
  | 0, _ => by simp [preSum]
  | n + 1, h => by
    have ih := preSum_take is n (by omega)
    have hn : n < is.length := by omega
    show preSum (fun i => is.getD i 0) n + is.getD n 0 = _
    rw [ih, take_snoc (List.getElem?_eq_getElem hn), List.sum_append]
    have e : is.getD n 0 = is[n] := by simp [List.getD, hn]
    rw [e]
    simp
theorem sum_bound : ∀ (is : List Int), (∀ i ∈ is, 0 ≤ i ∧ i ≤ 1000) → 0 ≤ is.sum ∧ is.sum ≤ 1000 * is.length
  | [], _ => by simp
  | i :: is, h => by
    have h1 := h i (List.mem_cons_self ..)
    have h2 := sum_bound is fun j hj => h j (List.mem_cons_of_mem _ hj)
    rw [List.sum_cons, List.length_cons]
    constructor <;> omega
theorem pe_sumVals (hc : X.calm = true) (hg : Gl X "sum") (hm : X.mg "sum" = none) (hd : PE X o td) (hbase : attributeBase o "values" X.env (eval o X.env) = eval o X.env := by rfl) (hline : (apos.endLine == mpos.line) = true := by rfl)
    (hse : starEach [Expr.Call (.Attribute o "values" apos) [] [] mpos] X.env = [(false, eval (Expr.Call (.Attribute o "values" apos) [] [] mpos) X.env)] := by rfl) :
    PE X (.Call (.Name "sum" p) [.Call (.Attribute o "values" apos) [] [] mpos] [] pos) (tSumVals td) := by
  refine ⟨fun pins s σ H Q I h => ?_⟩
  refine wpAny_Call_Name_kw (ld_blt I hg hm (u := .builtin "sum") (by first | rfl | decide +kernel) ?_ (by first | decide +kernel | decide) (by first | decide +kernel | decide))
  rw [hse]
  refine PySem.callWith_builtin1 (wpAny_Call_method0_late hbase hline (thn (hd.run pins s σ H _ I h) fun v s1 ⟨x, H1, I1, r1, a, kvs, is, ex, ha, hv, hil, hib, q⟩ => ?_))
  subst ex
  obtain rfl : v = Value.ref a := r1
  obtain ⟨_, hsys, vs, rel, dof⟩ := dk_rd I1.hok ha
  obtain ⟨ep, dat⟩ := dof.dictAt
  have dat' := dat
  obtain ⟨ob, es, ho, ex, hdat, hko, hpr, hnd⟩ := dat'
  refine ⟨"dict", "dict.values", F.plainAttrs_dict, F.slot_dict_values, F.type_dict_values, ⟨ob, ho, ex.1⟩, fun b e => ?_, Calls.callWith_builtin rfl (PySem.evalArgs_none ?_)⟩
  · cases e
    exact ⟨ob, ho, ex.2.1⟩
  refine call_meetsIn F.slot_dict_values ⟨ob, ho, ex.1⟩ F.entry_dict_values (F.args_dict_values_1 _) (meets_dict_values (mixKind X.prog X.w) a hsys) ⟨⟨vs, dof⟩, ?_⟩
  have k1 : ∀ b u, s1.heap.get? b = some u → (s1.heap.push { cls := .type "dict_values", data := .fields #[.ref a] }).get? b = some u := fun b u e => Heap.get?_push_of_some _ e
  have dat1 : (s1.heap.push { cls := .type "dict_values", data := .fields #[.ref a] }).DictAt (mixKind X.prog X.w) a vs ep := dat.keep k1
  have hlv : vs.length = is.length := by
    have e1 := congrArg List.length hv
    rw [List.length_map, List.length_map] at e1
    rw [← e1]
    exact (KV.length rel).symm
  have hval : ∀ (i : Nat) (v : Value), (∃ k, vs[i]? = some (k, v)) → ∃ t, v = Value.int (is.getD i 0) t := fun i v ⟨k, hk⟩ => by
    obtain ⟨x, h1, h2⟩ := KV.at' rel hk
    have e1 : (kvs.map (·.2))[i]? = some x := by rw [List.getElem?_map, h1] <;> rfl
    rw [hv, List.getElem?_map] at e1
    obtain ⟨j, hj, e2⟩ := Option.map_eq_some_iff.mp e1
    subst e2
    obtain ⟨t, e3⟩ := h2
    refine ⟨t, ?_⟩
    rw [e3, List.getD_eq_getElem?_getD, hj] <;> rfl
  refine call_sum_walk (wpAny_pyIter_values (v := s1.heap.objs.size) (d := a) ⟨_, Heap.get?_push_size _ rfl, rfl, rfl⟩ dat1 ?_)
  have hlt : a < s1.heap.objs.size := Heap.lt_size ho
  have hsz : (s1.heap.push { cls := .type "dict_values", data := .fields #[.ref a] }).objs.size = s1.heap.objs.size + 1 := Heap.size_push _ _
  refine ⟨_, _, _, _, _, _, fun i => is.getD i 0, rfl, Walks.dictValues (knd := mixKind X.prog X.w) (A := X.A.in1) (I.ok.hd hc) (s1.heap.push { cls := .type "dict_values", data := .fields #[.ref a] }).objs.size a (by rw [hsz]; exact Nat.ne_of_lt (Nat.lt_succ_of_lt hlt)) vs ep,
    ⟨⟨_, Heap.get?_push_size _ rfl, rfl, rfl⟩, dat1.keep fun b u e => Heap.get?_push_of_some _ e⟩, fun b hb => ?_, hval, fun j hj => ?_, fun h' tk t' hk => ?_⟩
  · show b < ((s1.heap.push _).push _).objs.size
    rw [Heap.size_push, Heap.size_push]
    rw [hsz] at hb
    rcases List.mem_cons.mp hb with e | hb
    · rw [e]
      exact Nat.lt_succ_self _
    · have e : b = a := List.mem_singleton.mp hb
      rw [e]
      exact Nat.lt_succ_of_lt (Nat.lt_succ_of_lt hlt)
  · rw [hlv] at hj
    have hj' : is.getD j 0 = is[j] := by simp [List.getD, hj]
    have b1 := hib _ (List.getElem_mem hj)
    have b2 := sum_bound (is.take (j + 1)) fun i hi => hib i (List.mem_of_mem_take hi)
    rw [List.length_take] at b2
    show InLong (is.getD j 0) ∧ InLong (preSum (fun i => is.getD i 0) (j + 1))
    rw [preSum_take is (j + 1) (by omega), hj']
    have b3 : (min (j + 1) is.length : Nat) ≤ 1000 := by omega
    constructor
    · constructor <;> omega
    · constructor <;> omega
  · refine ⟨.int _, H1, I1.kept (t' := tk) fun b u e => hk b u (fun hmem => ?_) (Heap.get?_push_of_some _ (k1 b u e)), ⟨t', rfl⟩, ?_⟩
    · have e1 : b = (s1.heap.push { cls := .type "dict_values", data := .fields #[.ref a] }).objs.size := List.mem_singleton.mp hmem
      have e2 := Heap.lt_size e
      rw [hsz] at e1
      rw [e1] at e2
      exact absurd e2 (Nat.not_lt.mpr (Nat.le_succ _))
    · rw [hlv, preSum_take is is.length (Nat.le_refl _), List.take_length]
      exact q
end
end LT

/-! LTz: min(d), max(d) of a dict with int keys; sum(lists, []). -/
namespace LT
open PySem PySem.Spec PyProof.Rows L2
section
variable {X : Cx}
def rMinDk : List V → Hp → VK → Prop := fun xs H Q => ∃ (a : Addr) (kvs : List (Key × V)) (ns : List Int), xs = [.ref a] ∧ Rd H a (.dK kvs) ∧ kvs.map (·.1) = ns.map Sum.inl ∧ ns ≠ [] ∧ ∀ m, m ∈ ns → (∀ y ∈ ns, m ≤ y) → Q (.int m) H
def rMaxDk : List V → Hp → VK → Prop := fun xs H Q => ∃ (a : Addr) (kvs : List (Key × V)) (ns : List Int), xs = [.ref a] ∧ Rd H a (.dK kvs) ∧ kvs.map (·.1) = ns.map Sum.inl ∧ ns ≠ [] ∧ ∀ m, m ∈ ns → (∀ y ∈ ns, y ≤ m) → Q (.int m) H
theorem keys_int {vs : List (Key × Value)} {ns : List Int} (hk : vs.map (·.1) = ns.map Sum.inl) (i : Nat) (v : Value) (h : ∃ k x, vs[i]? = some (k, x) ∧ (mixKind X.prog X.w).is k v = true) : ∃ t, v = Value.int (ns.getD i 0) t := by
  obtain ⟨k, x, h1, h2⟩ := h
  have e1 : (vs.map (·.1))[i]? = some k := by rw [List.getElem?_map, h1]; rfl
  rw [hk, List.getElem?_map] at e1
  obtain ⟨j, hj, rfl⟩ := Option.map_eq_some_iff.mp e1
  obtain ⟨t, e3⟩ := Value.isInt_shape (k := j) (v := v) h2
  refine ⟨t, ?_⟩
  rw [e3, List.getD_eq_getElem?_getD, hj]; rfl
theorem getD_of {ns : List Int} {y : Int} (h : y ∈ ns) : ∃ j, j < ns.length ∧ ns.getD j 0 = y := by
  obtain ⟨j, hj, e⟩ := List.mem_iff_getElem.mp h
  exact ⟨j, hj, by rw [List.getD_eq_getElem?_getD, List.getElem?_eq_getElem hj, ← e]; rfl⟩
theorem cr_minD (hc : X.calm = true) : CallR X (.builtin "min") rMinDk := by
  intro pins s σ H xs us Q I r h
  obtain ⟨a, kvs, ns, rfl, ha, hk, hne, q⟩ := h
  rw [Vals.ref1 r]
  obtain ⟨_, hsys, vs, rel, dof⟩ := dk_rd I.hok ha
  obtain ⟨ep, dat⟩ := dof.dictAt
  obtain ⟨ob, _, ho, _⟩ := id dat
  have hlt := Heap.lt_size ho
  have hks : vs.map (·.1) = ns.map Sum.inl := (KV.keys rel).symm.trans hk
  have hl : vs.length = ns.length := by
    have := congrArg List.length hks
    rwa [List.length_map, List.length_map] at this
  have h0 : 0 < ns.length := List.length_pos_iff.mpr hne
  refine call_min_walk (wpAny_pyIter_dict (knd := mixKind X.prog X.w) hsys dat ⟨_, _, _, _, _, _, _, rfl, Walks.dictKeys (knd := mixKind X.prog X.w) (A := X.A.in1) (I.ok.hd hc) _ a (Nat.ne_of_lt hlt) vs ep,
    ⟨⟨_, Heap.get?_push_size _ rfl, rfl, rfl⟩, dat.keep fun b u e => Heap.get?_push_of_some _ e⟩, fun b hb => ?_, by omega, CmpOf.ints_lt (fun i => ns.getD i 0) (keys_int (X := X) hks), fun v h' tk hP hkp => ?_⟩)
  · rw [Heap.size_push]
    rcases List.mem_cons.mp hb with e | hb
    · rw [e]; exact Nat.lt_succ_self _
    · rw [List.mem_singleton.mp hb]; exact Nat.lt_succ_of_lt hlt
  · obtain ⟨t, rfl⟩ := keys_int (X := X) hks _ v hP
    obtain ⟨b1, b2⟩ := argBest_lt (fun i => ns.getD i 0) (vs.length - 1)
    have hk2 : ∀ b o, s.heap.get? b = some o → h'.get? b = some o := fun b o e => hkp b o (fun z => by rw [List.mem_singleton.mp z] at e; exact absurd (Heap.lt_size e) (Nat.lt_irrefl _)) (Heap.get?_push_of_some _ e)
    refine ⟨.int _, H, I.kept (t' := tk) hk2, ⟨t, rfl⟩, q _ (PySem.getD_mem (Nat.lt_of_le_of_lt b1 (by omega))) fun y hy => ?_⟩
    obtain ⟨j, hj, rfl⟩ := getD_of hy
    exact b2 j (by omega)
theorem cr_maxD (hc : X.calm = true) : CallR X (.builtin "max") rMaxDk := by
  intro pins s σ H xs us Q I r h
  obtain ⟨a, kvs, ns, rfl, ha, hk, hne, q⟩ := h
  rw [Vals.ref1 r]
  obtain ⟨_, hsys, vs, rel, dof⟩ := dk_rd I.hok ha
  obtain ⟨ep, dat⟩ := dof.dictAt
  obtain ⟨ob, _, ho, _⟩ := id dat
  have hlt := Heap.lt_size ho
  have hks : vs.map (·.1) = ns.map Sum.inl := (KV.keys rel).symm.trans hk
  have hl : vs.length = ns.length := by
    have := congrArg List.length hks
    rwa [List.length_map, List.length_map] at this
  have h0 : 0 < ns.length := List.length_pos_iff.mpr hne
  refine call_max_walk (wpAny_pyIter_dict (knd := mixKind X.prog X.w) hsys dat ⟨_, _, _, _, _, _, _, rfl, Walks.dictKeys (knd := mixKind X.prog X.w) (A := X.A.in1) (I.ok.hd hc) _ a (Nat.ne_of_lt hlt) vs ep,
    ⟨⟨_, Heap.get?_push_size _ rfl, rfl, rfl⟩, dat.keep fun b u e => Heap.get?_push_of_some _ e⟩, fun b hb => ?_, by omega, CmpOf.ints_gt (fun i => ns.getD i 0) (keys_int (X := X) hks), fun v h' tk hP hkp => ?_⟩)
  · rw [Heap.size_push]
    rcases List.mem_cons.mp hb with e | hb
    · rw [e]; exact Nat.lt_succ_self _
    · rw [List.mem_singleton.mp hb]; exact Nat.lt_succ_of_lt hlt
  · obtain ⟨t, rfl⟩ := keys_int (X := X) hks _ v hP
    obtain ⟨b1, b2⟩ := argBest_gt (fun i => ns.getD i 0) (vs.length - 1)
    have hk2 : ∀ b o, s.heap.get? b = some o → h'.get? b = some o := fun b o e => hkp b o (fun z => by rw [List.mem_singleton.mp z] at e; exact absurd (Heap.lt_size e) (Nat.lt_irrefl _)) (Heap.get?_push_of_some _ e)
    refine ⟨.int _, H, I.kept (t' := tk) hk2, ⟨t, rfl⟩, q _ (PySem.getD_mem (Nat.lt_of_le_of_lt b1 (by omega))) fun y hy => ?_⟩
    obtain ⟨j, hj, rfl⟩ := getD_of hy
    exact b2 j (by omega)
end
/-! ### sum(lists, []) -/
section
variable {prog : Program} {w : World} {A : Around} {R : Result → Shared → Prop} {I : Addr}
theorem args_sumTwo (a b : Value) : argsOk "sum" ⟨[a, b], []⟩ := by unfold argsOk; kernel_rfl
theorem sub_list_str : isSubtype (.type "list") (.type "str") = pure false := by rw [isSubtype_type]; kernel_rfl
theorem sub_list_bytes : isSubtype (.type "list") (.type "bytes") = pure false := by rw [isSubtype_type]; kernel_rfl
theorem sub_list_bytearray : isSubtype (.type "list") (.type "bytearray") = pure false := by rw [isSubtype_type]; kernel_rfl
/-- the lists that stand at places as: their items -/
def LsAt (h : Heap) (as : List Addr) (its : List (List Value)) : Prop := as.length = its.length ∧ ∀ (i : Nat) (a : Addr) (l : List Value), as[i]? = some a → its[i]? = some l → ∃ n, PySem.IsL h a l.toArray n
theorem sumL_loop {fp : List Addr} {St : Nat → Heap → Prop} {as : List Addr} {its : List (List Value)} (W : Walks prog w A.in1 I fp [I] as.length (fun i v => (as.map Value.ref)[i]? = some v) St) (hI : ∀ i h, St i h → I < h.objs.size) (S : Addr) (hSf : S ∉ fp) (hsz : its.flatten.length ≤ sizeLine) :
    ∀ (k i : Nat) (s : Shared) (T : Addr) (c n : Nat), as.length - i = k → i ≤ as.length → St i s.heap → s.heap.get? S = some { cls := .type "list", dict := none, data := .seq #[.ref T] c, slots := #[] } → PySem.IsL s.heap T ((its.take i).flatten).toArray n → T ≠ I → T ≠ S → LsAt s.heap as its → (∀ a ∈ as, a ≠ I ∧ a ≠ S) →
    (∀ h' tk T' n', PySem.IsL h' T' (its.flatten).toArray n' → (∀ b o, b ≠ I → b ≠ S → s.heap.get? b = some o → h'.get? b = some o) → (i < as.length → T' ≠ I ∧ T' ≠ S ∧ s.heap.get? T' = none) → (i = as.length → T' = T) → R (.ok (.ret (.ref T'))) { s with heap := h', toks := tk }) →
    codeAny (model prog w) A (.builtin "sum.loop" ⟨[.ref I, .ref S, rawInt 2, rawInt 0], []⟩) R s := by
  have hSI : S ≠ I := fun h => hSf (W.sub _ (by rw [h]; exact List.mem_singleton.mpr rfl))
  intro k
  induction k with
  | zero =>
    intro i s T c n hk hi hst hS hT hTw hTS hL hA hR
    have hin : i = as.length := by omega
    subst hin
    refine codeAny_builtin F.entry_sum_loop ?_
    rw [Around.under_plainId F.plain_sum_loop _]
    show wpAny _ A.in1 (seqItems? (.ref S) >>= _) _ _ s
    refine wpAny_bind (wpAny_seqItems hS rfl ?_)
    show wpAny _ A.in1 (tryCatch (pyNext (.ref I)) _ >>= _) _ _ s
    refine wpAny_bind (wpAny_tryCatch (W.done s _ _ hst fun h' tk hk' => ?_))
    rw [hL.1, List.take_length] at hT
    have hk2 : ∀ b o, b ≠ I → s.heap.get? b = some o → h'.get? b = some o := fun b o hb e => hk' b o (fun z => hb (List.mem_singleton.mp z)) e
    exact wpAny_pure (hR h' tk T n (hk2 T _ hTw hT) (fun b o hbw _ e => hk2 b o hbw e) (fun h => absurd h (Nat.lt_irrefl _)) fun _ => rfl)
  | succ k ih =>
    intro i s T c n hk hi hst hS hT hTw hTS hL hA hR
    have hlt : i < as.length := by omega
    refine codeAny_builtin F.entry_sum_loop ?_
    rw [Around.under_plainId F.plain_sum_loop _]
    show wpAny _ A.in1 (seqItems? (.ref S) >>= _) _ _ s
    refine wpAny_bind (wpAny_seqItems hS rfl ?_)
    show wpAny _ A.in1 (tryCatch (pyNext (.ref I)) _ >>= _) _ _ s
    refine wpAny_bind (wpAny_tryCatch (W.item i s _ _ hlt hst fun v h' tk hP hst' hk' => ?_))
    have hk2 : ∀ b o, b ≠ I → s.heap.get? b = some o → h'.get? b = some o := fun b o hb e => hk' b o (fun z => hb (List.mem_singleton.mp z)) e
    have hai : as[i]? = some as[i] := List.getElem?_eq_getElem hlt
    have hv : v = .ref as[i] := by
      rw [List.getElem?_map, hai] at hP
      exact (Option.some.inj hP).symm
    subst hv
    have hli : i < its.length := by rw [← hL.1]; exact hlt
    have hits : its[i]? = some its[i] := List.getElem?_eq_getElem hli
    obtain ⟨na, ha⟩ := hL.2 i _ _ hai hits
    have hS' := hk2 S _ hSI hS
    have hT' : PySem.IsL h' T ((its.take i).flatten).toArray n := hk2 T _ hTw hT
    obtain ⟨haw, haS⟩ := hA _ (List.getElem_mem hlt)
    have ha' : PySem.IsL h' as[i] (its[i]).toArray na := hk2 _ _ haw ha
    have hadd : (its.take i).flatten ++ its[i] = (its.take (i + 1)).flatten := by
      rw [take_snoc hits, List.flatten_append]; simp
    have hlen : ((its.take (i + 1)).flatten).length ≤ sizeLine := by
      have e : its.flatten = (its.take (i + 1)).flatten ++ (its.drop (i + 1)).flatten := by rw [← List.flatten_append, List.take_append_drop]
      rw [e, List.length_append] at hsz
      omega
    show wpAny _ A.in1 ((holding [Value.ref as[i]] (binaryOp .Add (.ref T) (.ref as[i]))).attempt >>= _) _ _ _
    refine wpAny_bind (wpAny_attempt (wpAny_holding (PySem.P.add_list (s := { s with heap := h', toks := tk }) hT' ha' ?_ (by rw [← hadd, List.length_append] at hlen; rw [List.size_toArray, List.size_toArray]; exact hlen))))
    have ea : ((its.take i).flatten).toArray ++ (its[i]).toArray = ((its.take (i + 1)).flatten).toArray := by rw [← hadd]; simp
    rw [ea]
    have kN : ∀ b o, h'.get? b = some o → (h'.push { cls := .type "list", data := .seq ((its.take (i + 1)).flatten).toArray }).get? b = some o := fun b o e => Heap.get?_push_of_some _ e
    have atN : (h'.push { cls := .type "list", data := .seq ((its.take (i + 1)).flatten).toArray }).get? h'.objs.size = some { cls := .type "list", data := .seq ((its.take (i + 1)).flatten).toArray } := Heap.get?_push_size _ rfl
    have hSN := kN _ _ hS'
    show wpAny _ A.in1 (updateSeq S (fun _ => #[.ref h'.objs.size]) >>= _) _ _ _
    refine wpAny_bind (wpAny_updateSeq hSN rfl ?_)
    have hS₂ := Heap.get?_update_self (Obj.mapSeq fun _ => #[Value.ref h'.objs.size]) hSN rfl
    refine wpAny_bind (wpAny_letGo ?_)
    have hne : S ≠ h'.objs.size := Nat.ne_of_lt (Heap.lt_size hS')
    have hnI : I ≠ h'.objs.size := Nat.ne_of_lt (hI _ _ hst')
    have k3 : ∀ b o, b ≠ S → h'.get? b = some o → (((h'.push { cls := .type "list", data := .seq ((its.take (i + 1)).flatten).toArray }).update S (Obj.mapSeq fun _ => #[Value.ref h'.objs.size])).update S (Obj.mapSeq fun _ => #[Value.ref h'.objs.size])).get? b = some o := fun b o hb e =>
      (Heap.get?_update_other _ _ (Ne.symm hb)).trans ((Heap.get?_update_other _ _ (Ne.symm hb)).trans (kN _ _ e))
    refine wpAny_bind (wpAny_updateSeq hS₂ rfl (wpAny_pure ⟨plainId_quiet F.plain_sum_loop _, ih (i + 1) _ h'.objs.size _ 0 (by omega) hlt (W.frame _ _ _ hst' fun b hb o e => k3 b o (fun h => hSf (h ▸ hb)) e) (Heap.get?_update_self _ hS₂ rfl) ((Heap.get?_update_other _ _ hne).trans ((Heap.get?_update_other _ _ hne).trans atN)) (Ne.symm hnI) (Ne.symm hne) ⟨hL.1, fun j a l h1 h2 => ?_⟩ hA fun h'' tk'' T'' n'' hT'' hk'' hn'' he'' => ?_⟩))
    · obtain ⟨m, hm⟩ := hL.2 j a l h1 h2
      obtain ⟨q1, q2⟩ := hA a (List.mem_of_getElem? h1)
      exact ⟨m, k3 a _ q2 (hk2 a _ q1 hm)⟩
    · refine hR h'' tk'' T'' n'' hT'' (fun b o hb1 hb2 e => hk'' b o hb1 hb2 (k3 b o hb2 (hk2 b o hb1 e))) (fun _ => ?_) fun h => absurd h (Nat.ne_of_lt hlt)
      by_cases hl : i + 1 < as.length
      · obtain ⟨q1, q2, q3⟩ := hn'' hl
        refine ⟨q1, q2, ?_⟩
        cases e : s.heap.get? T'' with
        | none => rfl
        | some o => rw [k3 T'' o q2 (hk2 T'' o q1 e)] at q3; cases q3
      · have eT := he'' (by omega)
        rw [eT]
        refine ⟨Ne.symm hnI, Ne.symm hne, ?_⟩
        cases e : s.heap.get? h'.objs.size with
        | none => rfl
        | some o => exact absurd (Heap.lt_size (hk2 _ o (Ne.symm hnI) e)) (Nat.lt_irrefl _)
end
section
variable {X : Cx}
/-- sum(lists, []): lists of a list, at least one -/
def rSumL : List V → Hp → VK → Prop := fun xs H Q => ∃ (a b : Addr) (as : List Addr) (ls : List (List V)), xs = [.ref a, .ref b] ∧ H a = some (.lst (as.map V.ref)) ∧ H b = some (.lst []) ∧ as.length = ls.length ∧ (∀ (i : Nat) (p : Addr) (l : List V), as[i]? = some p → ls[i]? = some l → H p = some (.lst l)) ∧ 0 < as.length ∧ ls.flatten.length ≤ sizeLine ∧
  ∀ p, H p = none → Q (.ref p) (upd H p (.lst ls.flatten))
theorem obj_some {P : Program} {w : World} {H : Hp} {h : Heap} {a : Addr} {o : HO} (x : ObjOk P w H h a o) : ∃ u, h.get? a = some u := by
  cases o with
  | lst xs => obtain ⟨_, _, _, _, e⟩ := x; exact ⟨_, e⟩
  | tup xs => obtain ⟨_, _, _, _, e, _⟩ := x; exact ⟨_, e⟩
  | dK kvs => obtain ⟨_, _, _, _, _, _, _, e, _⟩ := x; exact ⟨_, e⟩
  | dT kvs => obtain ⟨_, _, _, _, _, _, _, e, _⟩ := x; exact ⟨_, e⟩
  | set S n => obtain ⟨_, _, _, _, e, _⟩ := x; exact ⟨_, e⟩
  | ins C dx fs => obtain ⟨_, _, _, e, _⟩ := x; exact ⟨_, e⟩
  | own y => exact x
  | xd fs => obtain ⟨_, ⟨_, _, _, e, _⟩, _⟩ := x; exact ⟨_, e⟩
  | rng lo hi => obtain ⟨_, _, _, e⟩ := x; exact ⟨_, e⟩
  | frz ob u => exact ⟨_, x.1⟩
  | tbl ps => exact ⟨_, show h.get? a = some _ from x⟩
  | met f y => exact ⟨_, show h.get? a = some _ from x⟩
  | ext φ => exact x.2.1
theorem vals_refs : ∀ {as : List Addr} {us : List Value}, Vals (as.map V.ref) us → us = as.map Value.ref
  | [], us, h => by cases h; rfl
  | a :: as, us, h => by
    cases h with
    | cons r t =>
      cases r
      rw [vals_refs t]; rfl
theorem cr_sumL (hc : X.calm = true) : CallR X (.builtin "sum") rSumL := by
  intro pins s σ H xs us Q I r h
  obtain ⟨a, b, as, ls, rfl, ha, hb, hll, hp, h0, hz, q⟩ := h
  obtain ⟨ua, ub, rfl, ra, rb⟩ := vals2 r
  obtain rfl : ua = Value.ref a := ra
  obtain rfl : ub = Value.ref b := rb
  obtain ⟨_, ita, na, rva, _, ea⟩ := I.lstM ha
  obtain ⟨_, itb, nb, rvb, _, eb⟩ := I.lstM hb
  have : itb = [] := by cases rvb; rfl
  subst this
  have hita := vals_refs rva
  subst hita
  have hla : s.heap.IsList a (as.map Value.ref).toArray := ⟨_, ea, rfl, _, rfl⟩
  have halt : a < s.heap.objs.size := Heap.lt_size ea
  have hblt : b < s.heap.objs.size := Heap.lt_size eb
  -- the items of the lists
  have key : ∀ (bs : List Addr) (ms : List (List V)), bs.length = ms.length → (∀ (i : Nat) (p : Addr) (l : List V), bs[i]? = some p → ms[i]? = some l → H p = some (.lst l)) → ∃ its : List (List Value), LsAt s.heap bs its ∧ Vals ms.flatten its.flatten := by
    intro bs
    induction bs with
    | nil =>
      intro ms hl _
      have : ms = [] := List.length_eq_zero_iff.mp hl.symm
      subst this
      exact ⟨[], ⟨rfl, fun i a l h => by simp at h⟩, .nil⟩
    | cons p bs ih =>
      intro ms hl hh
      cases ms with
      | nil => simp at hl
      | cons l ms =>
        obtain ⟨its, h1, h2⟩ := ih ms (by simpa using hl) fun i p' l' e1 e2 => hh (i + 1) p' l' (by simpa using e1) (by simpa using e2)
        obtain ⟨_, it, n, rv, _, e⟩ := I.lstM (hh 0 p l rfl rfl)
        refine ⟨it :: its, ⟨by simp [h1.1], fun i a' l' e1 e2 => ?_⟩, ?_⟩
        · cases i with
          | zero =>
            cases e1; cases e2
            exact ⟨n, e⟩
          | succ i => exact h1.2 i a' l' (by simpa using e1) (by simpa using e2)
        · rw [List.flatten_cons, List.flatten_cons]
          exact rv.append h2
  obtain ⟨its, hL, hV⟩ := key as ls hll hp
  have hasl : ∀ x ∈ as, x < s.heap.objs.size := fun x hx => by
    obtain ⟨i, hi, rfl⟩ := List.mem_iff_getElem.mp hx
    have hi2 : i < its.length := by rw [← hL.1]; exact hi
    obtain ⟨n, e⟩ := hL.2 i _ _ (List.getElem?_eq_getElem hi) (List.getElem?_eq_getElem hi2)
    exact Heap.lt_size e
  have hflen : its.flatten.length ≤ sizeLine := by rw [← hV.length]; exact hz
  refine call_function_tree F.kind_sum F.plain_sum F.entry_sum (args_sumTwo _ _) ?_
  unfold Builtin.«sum»
  simp only [List.length_cons, List.length_nil]
  rw [if_neg (by decide)]
  refine wpAny_bind (wpAny_of_eq (show Builtin.Builtins.bindParams "sum" ["start"] 0 ⟨[.ref b], []⟩ = pure [some (.ref b)] from rfl) ?_)
  refine wpAny_bind (wpAny_pyIter_list hla ?_)
  have k1 : ∀ c u, s.heap.get? c = some u → (s.heap.push { cls := .type "list_iterator", data := .fields #[.ref a, .int 0 0] }).get? c = some u := fun c u e => Heap.get?_push_of_some _ e
  have hTy : ({ s with heap := s.heap.push { cls := .type "list_iterator", data := .fields #[.ref a, .int 0 0] } } : Shared).TypeIs (.ref b) "list" := ⟨_, k1 _ _ eb, rfl⟩
  refine wpAny_bind (wpAny_pure ?_)
  simp only [List.forIn_cons, List.forIn_nil]
  refine wpAny_bind (wpAny_bind (wpAny_bind (wpAny_isInstance (T := "list") (b := false) hTy sub_list_str ?_)))
  simp only [Bool.false_eq_true, if_false]
  refine wpAny_pure (wpAny_bind (wpAny_bind (wpAny_isInstance (T := "list") (b := false) hTy sub_list_bytes ?_)))
  simp only [Bool.false_eq_true, if_false]
  refine wpAny_pure (wpAny_bind (wpAny_bind (wpAny_isInstance (T := "list") (b := false) hTy sub_list_bytearray ?_)))
  simp only [Bool.false_eq_true, if_false]
  refine wpAny_pure (wpAny_pure ?_)
  refine wpAny_bind (wpAny_newObj_type ?_)
  generalize eh : s.heap.push { cls := .type "list_iterator", data := .fields #[.ref a, .int 0 0] } = h1 at k1 hTy ⊢
  have hs1 : h1.objs.size = s.heap.objs.size + 1 := by rw [← eh]; exact Heap.size_push _ _
  have hit : h1.IsListIter s.heap.objs.size a 0 := by rw [← eh]; exact ⟨_, Heap.get?_push_size _ rfl, rfl, rfl⟩
  have hli : h1.IsList a (as.map Value.ref).toArray := ⟨_, k1 _ _ ea, rfl, _, rfl⟩
  have W := Walks.list (prog := X.prog) (w := X.w) (A := X.A.in1) (I.ok.hd hc) s.heap.objs.size a (Nat.ne_of_lt halt) (as.map Value.ref).toArray
  have eW : (as.map Value.ref).toArray.size = as.length := by simp
  rw [eW] at W
  have W' : Walks X.prog X.w X.A.in1 s.heap.objs.size [s.heap.objs.size, a] [s.heap.objs.size] as.length (fun i v => (as.map Value.ref)[i]? = some v) (fun i h => h.IsListIter s.heap.objs.size a i ∧ h.IsList a (as.map Value.ref).toArray) := by
    have e : (fun (i : Nat) (v : Value) => (as.map Value.ref).toArray[i]? = some v) = fun i v => (as.map Value.ref)[i]? = some v := by
      funext i v
      simp
    rw [e] at W; exact W
  have hSf : h1.objs.size ∉ [s.heap.objs.size, a] := fun hm => by
    simp only [List.mem_cons, List.not_mem_nil, or_false] at hm
    rw [hs1] at hm
    rcases hm with q | q
    · exact absurd q (Nat.succ_ne_self _)
    · exact absurd halt (by rw [← q]; exact Nat.not_lt.mpr (Nat.le_succ _))
  have far : ∀ c, c < s.heap.objs.size → c ≠ s.heap.objs.size ∧ c ≠ h1.objs.size := fun c hcs => ⟨Nat.ne_of_lt hcs, Nat.ne_of_lt (by rw [hs1]; exact Nat.lt_succ_of_lt hcs)⟩
  have k2 : ∀ c u, h1.get? c = some u → (h1.push { cls := .type "list", data := .seq #[.ref b] }).get? c = some u := fun c u e => Heap.get?_push_of_some _ e
  refine wpAny_pure ⟨plainId_quiet F.plain_sum_loop _, sumL_loop (its := its) W' (fun i h st => by obtain ⟨⟨_, e, _⟩, _⟩ := st; exact Heap.lt_size e) h1.objs.size hSf hflen as.length 0 _ b 0 nb rfl (Nat.zero_le _)
    (W'.frame _ _ _ ⟨hit, hli⟩ fun c _ o e => k2 _ _ e) (Heap.get?_push_size _ rfl) (k2 _ _ (k1 _ _ eb)) (far b hblt).1 (far b hblt).2 ⟨hL.1, fun j c l e1 e2 => ?_⟩ (fun c hcm => ?_) fun h' tk T n hT hk hf _ => ?_⟩
  · obtain ⟨n, e⟩ := hL.2 j c l e1 e2
    exact ⟨n, k2 _ _ (k1 _ _ e)⟩
  · exact far c (hasl c hcm)
  · obtain ⟨f1, f2, f3⟩ := hf h0
    have hall : ∀ c u, s.heap.get? c = some u → h'.get? c = some u := fun c u e => by
      have hf := far c (Heap.lt_size e)
      exact hk c u hf.1 hf.2 (k2 _ _ (k1 _ _ e))
    have hTs : s.heap.get? T = none := by
      cases e : s.heap.get? T with
      | none => rfl
      | some u => rw [k2 _ _ (k1 _ _ e)] at f3; cases f3
    have hTn : H T = none := by
      cases e : H T with
      | none => rfl
      | some u =>
        obtain ⟨v, hv⟩ := obj_some (I.hok _ _ e)
        rw [hv] at hTs; cases hTs
    exact ⟨.ref T, _, I.laidN (t' := tk) (o := .lst ls.flatten) hall hTs hTn (show ObjOk X.prog X.w _ _ _ (.lst ls.flatten) from ⟨hz, its.flatten, n, hV, hT⟩), rfl, q T hTn⟩
end
end LT

/-! LTk: calls with names alone; a tuple times a number. -/
namespace LT
open PySem PySem.Spec PyProof.Rows L2
/-- a def that is called by names alone, ks in the order in which they stand; rv: the other way round -/
structure CalK (P : Program) (w : World) (K : PySem.W.Frag) (mg : Str → Option Value) (base : Heap) (k : Nat) (x : Str) (ps ks : List Str) (sp : Sp) : Prop where
  ex : ∃ (f : Addr) (fd : FuncData), FnOk P w K mg base CX0 k f fd ps sp ∧ mg x = some (.ref f) ∧ PySem.W.keepIn K (.ref f) = true ∧ ∀ (s : Shared) (ws : List Value), K.In s.heap → ws.length = ps.length → BindsTo s fd ⟨[], ks.zip ws⟩ (ps.zip ws)
structure CalR (P : Program) (w : World) (K : PySem.W.Frag) (mg : Str → Option Value) (base : Heap) (k : Nat) (x : Str) (ps ks : List Str) (sp : Sp) : Prop where
  ex : ∃ (f : Addr) (fd : FuncData), FnOk P w K mg base CX0 k f fd ps sp ∧ mg x = some (.ref f) ∧ PySem.W.keepIn K (.ref f) = true ∧ ∀ (s : Shared) (w1 w2 : Value), K.In s.heap → BindsTo s fd ⟨[], ks.zip [w1, w2]⟩ (ps.zip [w2, w1])
section
variable {X : Cx} {k j : Nat} {x : Str} {ps ks : List Str} {sp : Sp} {p pos : Pos} {kws : List Keyword} {tk : TA}
theorem pe_calk (c : CalK X.prog X.w X.K X.mg X.base k x ps ks sp) (hr : Room j X.A) (hk : k ≤ j) (hg : Gl X x) (hkw : PK X kws tk)
    (hall : (backToKw pos (keywordEach kws X.env)).all (·.1.isSome) = true := by rfl) (hks : (backToKw pos (keywordEach kws X.env)).filterMap (·.1) = ks := by rfl) (hdb : (x == ("__debug__" : Str)) = false := by decide)
    (hpl : ((backTo pos (starEach [] X.env)).any (·.1) || (backToKw pos (keywordEach kws X.env)).any (·.1.isNone)) = false := by rfl) : PE X (.Call (.Name x p) [] kws pos) (tCall sp [] E0 tk) := by
  obtain ⟨f, fd, F, hm, kp, b⟩ := c.ex
  refine ⟨fun pins s σ H Q I h => ?_⟩
  refine wpAny_Call_Name_kw (ld_glob I hg hm ?_ hdb)
  refine PySem.W.callWith_KW0 (h₀ := X.base) I.ok.mod.kin kp hall (thn (hkw.run pos pins s σ H _ I h) fun ws s2 ⟨zs, H2, I2, rz, q2⟩ => ⟨I2.kIn, ?_⟩) hpl
  rw [hks]
  have q2 : sp (zs ++ []) H2 Q E0 := q2
  rw [List.append_nil] at q2
  have hl : ws.length = ps.length := by rw [← rz.length]; exact F.len _ _ _ _ q2
  refine wpAny_call (codeAny_mono (F.run X.A X.stack s2 H2 ⟨[], ks.zip ws⟩ ws zs Q E0 (hr.mono hk) I2.env0 (b s2 ws I2.kIn hl) rz q2) fun r s' hq => ?_)
  cases r with
  | error e => exact pass0 pins σ H2 s2 e s' I2 hq
  | ok fl =>
    cases fl with
    | ret u => exact I2.after hq
    | next => exact False.elim hq
    | brk => exact False.elim hq
    | cont => exact False.elim hq
def tCallR (sp : Sp) (t : TA) : TE := fun σ H Q => t σ H fun zs H1 => ∃ z1 z2, zs = [z1, z2] ∧ sp [z2, z1] H1 Q E0
theorem pe_calr (c : CalR X.prog X.w X.K X.mg X.base k x ps ks sp) (hr : Room j X.A) (hk : k ≤ j) (hg : Gl X x) (hkw : PK X kws tk)
    (hall : (backToKw pos (keywordEach kws X.env)).all (·.1.isSome) = true := by rfl) (hks : (backToKw pos (keywordEach kws X.env)).filterMap (·.1) = ks := by rfl) (hdb : (x == ("__debug__" : Str)) = false := by decide)
    (hpl : ((backTo pos (starEach [] X.env)).any (·.1) || (backToKw pos (keywordEach kws X.env)).any (·.1.isNone)) = false := by rfl) : PE X (.Call (.Name x p) [] kws pos) (tCallR sp tk) := by
  obtain ⟨f, fd, F, hm, kp, b⟩ := c.ex
  refine ⟨fun pins s σ H Q I h => ?_⟩
  refine wpAny_Call_Name_kw (ld_glob I hg hm ?_ hdb)
  refine PySem.W.callWith_KW0 (h₀ := X.base) I.ok.mod.kin kp hall (thn (hkw.run pos pins s σ H _ I h) fun ws s2 ⟨zs, H2, I2, rz, z1, z2, ez, q2⟩ => ⟨I2.kIn, ?_⟩) hpl
  rw [hks]
  subst ez
  obtain ⟨w1, w2, rfl, r1, r2⟩ := vals2 rz
  refine wpAny_call (codeAny_mono (F.run X.A X.stack s2 H2 ⟨[], ks.zip [w1, w2]⟩ [w2, w1] [z2, z1] Q E0 (hr.mono hk) I2.env0 (b s2 w1 w2 I2.kIn) (.cons r2 (.cons r1 .nil)) q2) fun r s' hq => ?_)
  cases r with
  | error e => exact pass0 pins σ H2 s2 e s' I2 hq
  | ok fl =>
    cases fl with
    | ret u => exact I2.after hq
    | next => exact False.elim hq
    | brk => exact False.elim hq
    | cont => exact False.elim hq
end
/-! ### a tuple times a number -/
theorem tuple_mul1 (l : Addr) (items : Array Value) (n : Nat) (dd : Option Addr) (sl : Array (Option Value)) (u : Tok) (c1 : (items.isEmpty || (1 : Int) == 1) = true) :
    Meets (Builtin.«tuple.__mul__» ⟨[.ref l, .int 1 u], []⟩) (fun _ R s => s.heap.get? l = some { cls := .type "tuple", dict := dd, data := .seq items n, slots := sl } ∧ R (.ok (.ret (Value.ref l))) s) :=
  .of_wp fun prog w A R s h => by
    obtain ⟨hp, g, d, tk, os⟩ := s
    obtain ⟨hl, h⟩ := h
    have f1 := AutoSeq1.idx_int
    wp_walk using wpAny_loadPart' hl
    repeat (first
      | (refine wpAny_ite_false (decide_eq_false (by decide)) ?_; wp_walk using wpAny_loadPart' hl)
      | (refine wpAny_ite_true (decide_eq_true c1) ?_; wp_walk using wpAny_loadPart' hl))
    exact ⟨_, rfl, h⟩
def rRepS (K : PySem.W.Frag) : R2 := fun x y H Q => ∃ l k xs, x = .ref l ∧ y = .int k ∧ SqT K H l xs ∧ xs ≠ [] ∧ 1 ≤ k ∧ k ≤ 1000 ∧ xs.length ≤ 1000 ∧ (k = 1 → Q (.ref l) H) ∧ (2 ≤ k → tupO H (List.replicate k.toNat xs).flatten Q)
section
variable {X : Cx}
theorem op_repS : OpR X (binaryOp .Mult) (rRepS X.K) := by
  intro pins s σ H x y v u Q I rx ry h
  obtain ⟨l, k, xs, rfl, rfl, hT, hne, h1, h2, hz, qa, qb⟩ := h
  cases rx
  obtain ⟨t, rfl⟩ := ry
  obtain ⟨its, r, ⟨⟨cls, dd, data, sl⟩, ho, hc, n, hd⟩, hs⟩ := I.tuple hT
  simp only at hc hd
  subst hc hd
  have hle : its.length = xs.length := r.length.symm
  have hi : its.toArray.isEmpty = false := by
    cases its with
    | nil => exact absurd (List.eq_nil_of_length_eq_zero hle.symm) hne
    | cons a b => rfl
  by_cases h2k : 2 ≤ k
  · have hsz0 : its.toArray.size = xs.length := by rw [List.size_toArray, hle]
    have hm : ((its.toArray.size : Nat) : Int) * k ≤ 1000000 := by
      rw [hsz0]
      have a1 : ((xs.length : Nat) : Int) * k ≤ 1000 * k := Int.mul_le_mul_of_nonneg_right (by omega) (by omega)
      omega
    have hmm : k.toNat * xs.length ≤ 1000 * 1000 := Nat.mul_le_mul (by omega) hz
    have flen : (List.replicate k.toNat its).flatten.length ≤ sizeLine := by
      rw [PyProof.Rows.lm_len_rep_flat, hle, sizeLine_eq]; omega
    have c0 : (decide (k < -(2 ^ 63)) || decide (k ≥ 2 ^ 63)) = false := by
      rw [decide_eq_false (by omega), decide_eq_false (by omega)]; rfl
    have c1 : (its.toArray.isEmpty || k == 1) = false := by rw [hi, Bool.false_or]; exact beq_eq_false_iff_ne.mpr (by omega)
    have c2 : (decide (k ≤ 0) || its.toArray.isEmpty) = false := by rw [hi, Bool.or_false]; exact decide_eq_false (by omega)
    have c4 : Builtin.Tuple.tupleTooMany (((its.toArray.size : Nat) : Int) * k) = false := by
      unfold Builtin.Tuple.tupleTooMany
      rw [sizeLine_eq]; exact decide_eq_false (by omega)
    refine wpAny_binaryOp_repeat_ref (T := "tuple") (U := "int") (by decide) ⟨_, ho, rfl⟩ (fun s' => typeIs_int s' k t) noFill_tuple_mul F.fills_int_mul F.slot_int_rmul repeat_tuple F.slot_int_index.lookup
      (call_meets F.slot_int_rmul (typeIs_int s k t) F.entry_int_rmul (F.args_int_rmul_2 _ _) (int_rmul_tuple k t l its.toArray n dd sl)
        ⟨ho, rfl, ⟨_, ho, rfl⟩, call_meets F.slot_tuple_mul ⟨_, ho, rfl⟩ F.entry_tuple_mul (F.args_tuple_mul_2 _ _) (tuple_mulW l its.toArray n dd sl k t c0 c1 c2 (by omega) c4 (by rw [size_rep, List.size_toArray]; exact flen)) ⟨ho, ?_⟩⟩)
    rw [size_rep]
    refine ⟨.ref s.heap.objs.size, _, I.laid (t' := s.toks) (o := .frz { cls := .type "tuple", data := .seq (List.replicate k.toNat its).flatten.toArray } (.tup (List.replicate k.toNat xs).flatten)) (fun b ob q => Heap.get?_push_of_some _ q) (Nat.le_refl _) ?_, rfl, qb h2k _ _ (I.hok.fresh (Nat.le_refl _)) rfl⟩
    exact ⟨Heap.get?_push_size _ rfl, by rw [PyProof.Rows.lm_len_rep_flat, sizeLine_eq]; omega, _, r.rep k.toNat, IsTup.new _ _⟩
  · have e1 : k = 1 := by omega
    subst e1
    exact wpAny_binaryOp_repeat_ref (T := "tuple") (U := "int") (by decide) ⟨_, ho, rfl⟩ (fun s' => typeIs_int s' 1 t) noFill_tuple_mul F.fills_int_mul F.slot_int_rmul repeat_tuple F.slot_int_index.lookup
      (call_meets F.slot_int_rmul (typeIs_int s 1 t) F.entry_int_rmul (F.args_int_rmul_2 _ _) (int_rmul_tuple 1 t l its.toArray n dd sl)
        ⟨ho, rfl, ⟨_, ho, rfl⟩, call_meets F.slot_tuple_mul ⟨_, ho, rfl⟩ F.entry_tuple_mul (F.args_tuple_mul_2 _ _) (tuple_mul1 l its.toArray n dd sl t (by rw [hi]; rfl)) ⟨ho, .ref l, H, I, rfl, qa rfl⟩⟩)
end
end LT

/-! LP8: dicts: copies, keys, values, items put, over plain data. -/
namespace LT
open PySem PySem.Spec PyProof.Rows L2
abbrev rSortedDk : List V → Hp → VK → Prop := fun xs H Q => ∃ (a : Addr) (kvs : List (Key × V)) (ks : List Str), xs = [.ref a] ∧ Rd H a (.dK kvs) ∧ kvs.map (·.1) = ks.map Sum.inr ∧ ks.length < 64 ∧
    ∀ ys p, ys.Perm ks → sortedS ys = true → H p = none → Q (.ref p) (upd H p (.lst (ys.map V.str)))
abbrev rSortedDi : List V → Hp → VK → Prop := fun xs H Q => ∃ (a : Addr) (kvs : List (Key × V)) (ks : List Int), xs = [.ref a] ∧ Rd H a (.dK kvs) ∧ kvs.map (·.1) = ks.map Sum.inl ∧ ks.length < 64 ∧
    ∀ (ys : List Int) (p : Addr), ys.Perm ks → ys.Pairwise (· ≤ ·) → H p = none → Q (.ref p) (upd H p (.lst (ys.map V.int)))
section
variable {z w w1 fr : Bool} {te ta tb tc : TE} {m a b c : ME} {ts : TS} {s : MS} {K : PySem.W.Frag}
theorem rf_newD {T : Tx} {B H B2 H2 : Hp} {kvs : List (Key × Sc)} {Q : VK} {P : Ow → Prop} (g : Gr T B H B2 H2) (hp : P (.dic kvs)) (k : ∀ o l B' H', P o → Gr T B H B' H' → H l = none → B' l = none → OwOk B' H' l o → Q (.ref l) H') : ∀ p, H2 p = none → Q (.ref p) (upd H2 p (.dK (dkv kvs))) := fun p hn =>
  k _ p _ _ hp (g.trans ((Gr.refl g.st).mut hn (g.st.fr hn) (g.st.ntp hn))) (g.back hn) (g.st.fr hn) upd_same
def mDictD (a : ME) : MF := fun Γ P => a Γ fun x => ∃ kvs, x = dD kvs ∧ P (.dic kvs)
theorem rf_dictD (ha : RQ z ta a) : RF z (tCB rDictDk (tCons ta tNil)) (mDictD a) := fun T Γ σ B H P Q s nz e hm k =>
  ha T Γ σ B H _ _ s nz e hm fun d1 v1 B1 H1 ⟨kvs, e1, h1⟩ g1 r1 => by
    obtain ⟨p, rfl, hp⟩ := r1.dic e1 g1.st.sub
    exact ⟨p, _, rfl, hp, rf_newD g1 h1 k⟩
theorem rpa_ks {B : Hp} : ∀ kvs : List (Key × Sc), RpA B ((dkv kvs).map fun kv => kV kv.1) (kvs.map fun kv => kyD kv.1)
  | [] => .nil
  | p :: r => .cons (rp_ky p.1) (rpa_ks r)
def mListD (a : ME) : MF := fun Γ P => a Γ fun x => ∃ kvs, x = dD kvs ∧ P (.lst (kvs.map fun kv => kyD kv.1))
theorem rf_listD (ha : RQ z ta a) : RF z (tCB rListDk (tCons ta tNil)) (mListD a) := fun T Γ σ B H P Q s nz e hm k =>
  ha T Γ σ B H _ _ s nz e hm fun d1 v1 B1 H1 ⟨kvs, e1, h1⟩ g1 r1 => by
    obtain ⟨p, rfl, hp⟩ := r1.dic e1 g1.st.sub
    exact ⟨p, _, rfl, hp, rf_new g1 (rpa_ks kvs) h1 k⟩
theorem rpa_vs {B : Hp} : ∀ kvs : List (Key × Sc), RpA B ((dkv kvs).map (·.2)) (kvs.map fun kv => scD kv.2)
  | [] => .nil
  | p :: r => .cons (rp_sc p.2) (rpa_vs r)
def mListVals (a : ME) : MF := fun Γ P => a Γ fun x => ∃ kvs, x = dD kvs ∧ P (.lst (kvs.map fun kv => scD kv.2))
theorem rf_listVals (ha : RQ z ta a) : RF z (tListVals ta) (mListVals a) := fun T Γ σ B H P Q s nz e hm k =>
  ha T Γ σ B H _ _ s nz e hm fun d1 v1 B1 H1 ⟨kvs, e1, h1⟩ g1 r1 => by
    obtain ⟨p, rfl, hp⟩ := r1.dic e1 g1.st.sub
    exact ⟨p, _, rfl, hp, rf_new g1 (rpa_vs kvs) h1 k⟩
def mSumVals (a : ME) : ME := fun Γ P => a Γ fun x => ∃ (kvs : List (Key × Sc)) (is : List Int), x = dD kvs ∧ kvs.map (·.2) = is.map Sum.inl ∧ is.length ≤ 1000 ∧ (∀ i ∈ is, 0 ≤ i ∧ i ≤ 1000) ∧ P (.int is.sum)
theorem re_sumVals (ha : RQ z ta a) : RE z (tSumVals ta) (mSumVals a) := fun T Γ σ B H P Q s nz e hm k =>
  ha T Γ σ B H _ _ s nz e hm fun d1 v1 B1 H1 ⟨kvs, is, e1, hv, hl, hb, h1⟩ g1 r1 => by
    obtain ⟨p, rfl, hp⟩ := r1.dic e1 g1.st.sub
    refine ⟨p, _, is, rfl, hp, ?_, hl, hb, k _ _ _ _ h1 g1 (.int _)⟩
    have e : (dkv kvs).map (·.2) = (kvs.map (·.2)).map scV := by unfold dkv; rw [List.map_map, List.map_map]; rfl
    rw [e, hv, List.map_map]; rfl
theorem dkv_keys (kvs : List (Key × Sc)) : (dkv kvs).map (·.1) = kvs.map (·.1) := by
  unfold dkv
  rw [List.map_map]; rfl
def mSortedD (a : ME) : MF := fun Γ P => a Γ fun x => ∃ (kvs : List (Key × Sc)) (ks : List Str), x = dD kvs ∧ kvs.map (·.1) = ks.map Sum.inr ∧ ks.length < 64 ∧ ∀ ys : List Str, ys.Perm ks → sortedS ys = true → P (.lst (ys.map .str))
theorem rf_sortedD (ha : RQ z ta a) : RF z (tCB rSortedDk (tCons ta tNil)) (mSortedD a) := fun T Γ σ B H P Q s nz e hm k =>
  ha T Γ σ B H _ _ s nz e hm fun d1 v1 B1 H1 ⟨kvs, ks, e1, hk, hl, h1⟩ g1 r1 => by
    obtain ⟨p, rfl, hp⟩ := r1.dic e1 g1.st.sub
    exact ⟨p, _, ks, rfl, hp, by rw [dkv_keys, hk], hl, fun ys q pm so hq => rf_new g1 (rpa_strs ys) (h1 ys pm so) k q hq⟩
def mSortedDI (a : ME) : MF := fun Γ P => a Γ fun x => ∃ (kvs : List (Key × Sc)) (ks : List Int), x = dD kvs ∧ kvs.map (·.1) = ks.map Sum.inl ∧ ks.length < 64 ∧ ∀ ys : List Int, ys.Perm ks → ys.Pairwise (· ≤ ·) → P (.lst (ys.map .int))
theorem rf_sortedDI (ha : RQ z ta a) : RF z (tCB rSortedDi (tCons ta tNil)) (mSortedDI a) := fun T Γ σ B H P Q s nz e hm k =>
  ha T Γ σ B H _ _ s nz e hm fun d1 v1 B1 H1 ⟨kvs, ks, e1, hk, hl, h1⟩ g1 r1 => by
    obtain ⟨p, rfl, hp⟩ := r1.dic e1 g1.st.sub
    exact ⟨p, _, ks, rfl, hp, by rw [dkv_keys, hk], hl, fun ys q pm so hq => rf_new g1 (rpa_ints ys) (h1 ys pm so) k q hq⟩
/-- d[k] = v, d the def's own -/
def mDPut (i : Nat) (a b : ME) : MS := fun Γ P => ∃ kvs, Γ[i]? = some (.own (.dic kvs)) ∧ kvs.length < 1000000 ∧ b Γ fun d => a Γ fun d' => ∃ k v, d' = kyD k ∧ d = scD v ∧ P (.nx (Γ.set i (.own (.dic (putS kvs k v)))))
theorem rs_dput {i : Nat} (ha : RE z ta a) (hb : RE z tb b) : RS z fr (sDPut (tVar i) ta tb) (mDPut i a b) := fun T B0 H0 Γ σ B H P D nz e ⟨kvs, h1, hl, hm⟩ kn kr => by
  obtain ⟨l, hx, hbl, nt, ok, hl0⟩ := e.own h1
  have ok : H l = some (.dK (dkv kvs)) := ok
  refine hb T Γ σ B H _ _ e.st (fun z => e.gr.nofz (nz z)) e.env hm fun d v B1 H1 h2 g1 r => ⟨_, hx, ha T Γ σ B1 H1 _ _ g1.st (fun z => (e.gr.trans g1).nofz (nz z)) (e.env.grow g1) h2 fun d' v' B2 H2 ⟨key, sc, ek, ev, hp⟩ g2 r2 => ?_⟩
  subst ek ev
  have e2 := e.grow (g1.trans g2)
  have hH2 : H2 l = some (.dK (dkv kvs)) := g2.sh _ _ nt (g1.sh _ _ nt ok)
  have hlen : (dkv kvs).length < sizeLine := by unfold dkv; rw [List.length_map]; exact lt_line (by omega)
  refine ⟨l, _, rfl, .inl ⟨_, key, hH2, r2.ky, hlen, rfl⟩, kn _ _ _ _ hp (g1.sb.trans g2.sb) (e2.mut hx h1 ?_)⟩
  show upd H2 l _ l = _
  rw [upd_same, (r.grow g2.sb).sc, putS_dkv]
end
end LT

/-! LP9: a word cut into lists within a list (arcs_of's loop), over plain data. -/
namespace LT
open PySem PySem.Spec PyProof.Rows L2
def arcStep (b : Str) (s : List (List Str) × List Str) (x : Str) : List (List Str) × List Str := if x = b then (s.1 ++ [s.2], [b]) else (s.1, s.2 ++ [x])
def arcsL (b : Str) (w : List Str) : List (List Str) := let s := w.foldl (arcStep b) ([], [b]); s.1 ++ [s.2]
abbrev strL (l : List Str) : PyData := .list (l.map .str)
def NoOwn (Γ : Gm) : Prop := ∀ (i : Nat) (o : Ow), Γ[i]? ≠ some (Sv.own o)
section
variable {T : Tx} {B0 H0 B H B1 B' H' : Hp} {σ : L2.St} {Γ : Gm} {l : Addr} {cl : List (List Str)} {cu : List Str}
theorem Ev.noown (e : Ev T B0 H0 B H σ Γ) (no : NoOwn Γ) (g : Gr T B0 H0 B' H') (sb : Same B B') : Ev T B0 H0 B' H' σ Γ := by
  refine ⟨g, ⟨e.env.len, fun i x gv hx hg => ?_⟩, fun i l o _ h => absurd h (no i o), fun i j l o o' _ _ h => absurd h (no i o)⟩
  have ok := e.env.ok i x gv hx hg
  cases gv with
  | no => trivial
  | dat d => obtain ⟨v, e1, r⟩ := ok; exact ⟨v, e1, r.grow sb⟩
  | tape => exact ok
  | own o => exact absurd hg (no i o)
def Clo (T : Tx) (B0 H0 B1 : Hp) (l : Addr) (cl : List (List Str)) (Γ : Gm) (σ : L2.St) (H : Hp) : Prop := ∃ B vs, Ev T B0 H0 B H σ Γ ∧ Same B1 B ∧ σ[3]? = some (some (.ref l)) ∧ H l = some (.lst vs) ∧ RpA B vs (cl.map strL) ∧ B l = none ∧ ¬ tpA T l ∧ H0 l = none
def Opn (T : Tx) (B0 H0 B1 : Hp) (l : Addr) (cl : List (List Str)) (cu : List Str) (Γ : Gm) (σ : L2.St) (H : Hp) : Prop := ∃ B vs a, Ev T B0 H0 B H σ Γ ∧ Same B1 B ∧ σ[3]? = some (some (.ref l)) ∧ H l = some (.lst (vs ++ [.ref a])) ∧ RpA B vs (cl.map strL) ∧ B l = none ∧ ¬ tpA T l ∧ H0 l = none ∧
  H a = some (.lst (cu.map V.str)) ∧ a ≠ l ∧ B a = none ∧ ¬ tpA T a ∧ H0 a = none
theorem Opn.close (no : NoOwn Γ) (h : Opn T B0 H0 B1 l cl cu Γ σ H) : Clo T B0 H0 B1 l (cl ++ [cu]) Γ σ H := by
  obtain ⟨B, vs, a, e, sb, h3, hl, r, bl, tl, l0, ha, hne, ba, ta, a0⟩ := h
  have sb' := same_upd (o := .lst (cu.map V.str)) ba
  refine ⟨upd B a (.lst (cu.map V.str)), vs ++ [.ref a], e.noown no (e.gr.share a0 ba ta ha fun _ _ e => nomatch e) sb', sb.trans sb', h3, hl, ?_, by rw [upd_ne (Ne.symm hne)]; exact bl, tl, l0⟩
  rw [List.map_append]
  exact (r.grow sb').snoc (.lst upd_same (rpa_strs cu))
theorem Clo.opn (no : NoOwn Γ) (h : Clo T B0 H0 B1 l cl Γ σ H) {p : Addr} (hp : H p = none) : ∃ vs, H l = some (.lst vs) ∧ (upd H p (.lst [])) l = some (.lst vs) ∧ vs.length = cl.length ∧ Opn T B0 H0 B1 l cl [] Γ σ (upd (upd H p (.lst [])) l (.lst (vs ++ [.ref p]))) := by
  obtain ⟨B, vs, e, sb, h3, hl, r, bl, tl, l0⟩ := h
  have hne : p ≠ l := fun q => by rw [q, hl] at hp; cases hp
  have p0 := e.gr.back hp
  have bp := e.st.fr hp
  have tp := e.st.ntp hp
  have e1 := e.noown no (e.gr.mut (o := .lst []) p0 bp tp) (Same.refl _)
  have e2 := e1.noown no (e1.gr.mut (o := .lst (vs ++ [.ref p])) l0 bl tl) (Same.refl _)
  refine ⟨vs, hl, by rw [upd_ne (Ne.symm hne)]; exact hl, by rw [r.length, List.length_map], B, vs, p, e2, sb, h3, upd_same, r, bl, tl, l0, ?_, hne, bp, tp, p0⟩
  rw [upd_ne hne, upd_same]; rfl
theorem Opn.more (no : NoOwn Γ) (h : Opn T B0 H0 B1 l cl cu Γ σ H) : ∃ vs a, σ[3]? = some (some (.ref l)) ∧ H l = some (.lst (vs ++ [.ref a])) ∧ H a = some (.lst (cu.map V.str)) ∧ ∀ x : Str, Opn T B0 H0 B1 l cl (cu ++ [x]) Γ σ (upd H a (.lst (cu.map V.str ++ [.str x]))) := by
  obtain ⟨B, vs, a, e, sb, h3, hl, r, bl, tl, l0, ha, hne, ba, ta, a0⟩ := h
  refine ⟨vs, a, h3, hl, ha, fun x => ⟨B, vs, a, e.noown no (e.gr.mut a0 ba ta) (Same.refl _), sb, h3, by rw [upd_ne (Ne.symm hne)]; exact hl, r, bl, tl, l0, ?_, hne, ba, ta, a0⟩⟩
  rw [upd_same, List.map_append]; rfl
theorem set_same {α : Type} {xs : List α} {i : Nat} {x : α} (h : xs[i]? = some x) : xs.set i x = xs := by
  apply List.ext_getElem?
  intro j
  by_cases e : i = j
  · subst e
    obtain ⟨hi, _⟩ := List.getElem?_eq_some_iff.mp h
    rw [List.getElem?_set_self hi, h]
  · rw [List.getElem?_set_ne e]
end
section
variable {z fr : Bool} {K : PySem.W.Frag}
def tArcs (K : PySem.W.Frag) : TS := tFor (iList K (tVar 0)) (gName 4)
    (Evl.tCut (tIfS (tTest (tOp rEq (tVar 4) (tVar 1))) (tDrop (tBM K "list" rAppend (tVar 3) (tCons (tLst tNil) tNil))) tNext)
    (tDrop (tBM K "list" rAppend (tOp (rIxL K) (tVar 3) (tUn (rU fun i => .int (-i)) (tC (.int 1)))) (tCons (tVar 4) tNil))))
def mArcs : MS := fun Γ P => ∃ (b : Str) (w : List Str) (y2 y4 : Sv), Γ = [.dat (strL (b :: w)), .dat (.str b), y2, .own (.lst []), y4] ∧ (∀ o, y2 ≠ .own o) ∧ (∀ o, y4 ≠ .own o) ∧ w.length ≤ 1000 ∧ ∀ y, P (.nx [.dat (strL (b :: w)), .dat (.str b), y2, .own (.lst ((arcsL b w).map strL)), y])
theorem arcs_len (b : Str) (w : List Str) : ∀ s, ((w.foldl (arcStep b) s).1.length + (w.foldl (arcStep b) s).2.length ≤ s.1.length + s.2.length + 2 * w.length) := by
  induction w with
  | nil => intro s; simp
  | cons x w ih =>
    intro s
    rw [List.foldl_cons]
    have := ih (arcStep b s x)
    have h2 : (arcStep b s x).1.length + (arcStep b s x).2.length ≤ s.1.length + s.2.length + 2 := by
      unfold arcStep
      split <;> simp <;> omega
    rw [List.length_cons]; omega
def gX (b : Str) (w : List Str) (y2 y : Sv) : Gm := [.dat (strL (b :: w)), .dat (.str b), y2, .no, y]
theorem gX_no {b : Str} {w : List Str} {y2 y : Sv} (h2 : ∀ o, y2 ≠ .own o) (h : ∀ o, y ≠ .own o) : NoOwn (gX b w y2 y) := fun i o e => by
  match i, e with
  | 0, e => cases e
  | 1, e => cases e
  | 2, e => exact h2 o (Option.some.inj e)
  | 3, e => cases e
  | 4, e => exact h o (Option.some.inj e)
  | i + 5, e => cases e
def stA (b : Str) (w : List Str) (j : Nat) : List (List Str) × List Str := (w.take (j - 1)).foldl (arcStep b) ([], [b])
theorem stA_step {b : Str} {w : List Str} {j : Nat} {x : Str} (hj : 0 < j) (h : (b :: w)[j]? = some x) : stA b w (j + 1) = arcStep b (stA b w j) x := by
  unfold stA
  obtain ⟨k, rfl⟩ : ∃ k, j = k + 1 := ⟨j - 1, by omega⟩
  have h' : w[k]? = some x := by simpa using h
  show (w.take (k + 1)).foldl _ _ = arcStep b ((w.take k).foldl _ _) x
  rw [take_snoc h', List.foldl_append]; rfl
theorem stA_len (b : Str) (w : List Str) (hw : w.length ≤ 1000) (j : Nat) : (stA b w j).1.length + (stA b w j).2.length ≤ 2001 := by
  have := arcs_len b (w.take (j - 1)) ([], [b])
  rw [List.length_take] at this
  unfold stA
  simp only [List.length_nil, List.length_singleton] at this
  omega
section
variable {T : Tx} {B0 H0 B1 : Hp} {l : Addr} {cl : List (List Str)} {cu : List Str} {b : Str} {w : List Str} {y2 y : Sv} {σ : L2.St} {H : Hp}
theorem set43 {x : Option V} (h : σ[3]? = some (some (.ref l))) : (σ.set 4 x)[3]? = some (some (.ref l)) := by rw [List.getElem?_set_ne (by decide)]; exact h
theorem Clo.put4 (x : Str) (h : Clo T B0 H0 B1 l cl (gX b w y2 y) σ H) : Clo T B0 H0 B1 l cl (gX b w y2 (.dat (.str x))) (σ.set 4 (some (.str x))) H := by
  obtain ⟨B, vs, e, sb, h3, r⟩ := h
  exact ⟨B, vs, e.put (i := 4) (v := .str x) (g := .dat (.str x)) ⟨_, rfl, .str x⟩ (fun _ _ e => nomatch e), sb, set43 h3, r⟩
theorem Opn.put4 (x : Str) (h : Opn T B0 H0 B1 l cl cu (gX b w y2 y) σ H) : Opn T B0 H0 B1 l cl cu (gX b w y2 (.dat (.str x))) (σ.set 4 (some (.str x))) H := by
  obtain ⟨B, vs, a, e, sb, h3, r⟩ := h
  exact ⟨B, vs, a, e.put (i := 4) (v := .str x) (g := .dat (.str x)) ⟨_, rfl, .str x⟩ (fun _ _ e => nomatch e), sb, set43 h3, r⟩
theorem ev_at {B : Hp} {x : Str} (e : Ev T B0 H0 B H σ (gX b w y2 (.dat (.str x)))) : σ[4]? = some (some (.str x)) ∧ σ[1]? = some (some (.str b)) := by
  obtain ⟨v, hv, u, rfl, r⟩ := e.env.at (i := 4) rfl
  obtain ⟨v', hv', u', rfl, r'⟩ := e.env.at (i := 1) rfl
  cases r.str_inv
  cases r'.str_inv
  exact ⟨hv, hv'⟩
end
theorem rs_arcs : RS z fr (tArcs K) mArcs := fun T B0 H0 Γ σ B H P D nz e ⟨b, w, y2, y4, eΓ, ny2, ny4, hw, hP⟩ kn kr => by
  subst eΓ
  unfold tArcs tFor
  refine ri_list (K := K) (w := false) (ta := tVar 0) (a := mVar 0) re_var T _ σ B H (fun xs => xs = (b :: w).map .str) _ e.st (fun z => e.gr.nofz (nz z)) e.env ⟨_, rfl, _, rfl, rfl⟩ fun xs J B1 H1 ex g1 wk => ?_
  subst ex
  have e1 := e.grow g1
  obtain ⟨l, h3, bl, tl, ⟨vs0, hl, r0⟩, l0⟩ := e1.own (i := 3) rfl
  have : vs0 = [] := by cases r0; rfl
  subst this
  have en : En T B1 H1 (σ.set 3 (some (.ref l))) (gX b w y2 y4) := e1.env.set (i := 3) (x := some (.ref l)) (g := .no) trivial
  rw [set_same h3] at en
  have ev0 : Ev T B0 H0 B1 H1 σ (gX b w y2 y4) := ⟨e1.gr, en, fun i l o _ h => absurd h (gX_no ny2 ny4 i o), fun i j l o o' _ _ h => absurd h (gX_no ny2 ny4 i o)⟩
  refine for_it wk (fun j σ' H' => ∃ y, (∀ o, y ≠ Sv.own o) ∧ ((j = 0 ∧ Clo T B0 H0 B1 l [] (gX b w y2 y) σ' H') ∨ (0 < j ∧ Opn T B0 H0 B1 l (stA b w j).1 (stA b w j).2 (gX b w y2 y) σ' H'))) ⟨y4, ny4, .inl ⟨rfl, B1, [], ev0, Same.refl _, h3, hl, .nil, bl, tl, l0⟩⟩ ?_ ?_ ?_
  · rintro j σ' H' _ ⟨y, _, ⟨_, B', vs, e', sb, _⟩ | ⟨_, B', vs, a, e', sb, _⟩⟩
    · exact sb.trans e'.st.sub
    · exact sb.trans e'.st.sub
  · rintro j x σ' H2 H2' hj ⟨y, ny, hc⟩ ⟨d, hd, yd⟩
    obtain ⟨nm, hnm, rfl⟩ : ∃ nm, (b :: w)[j]? = some nm ∧ d = .str nm := by
      rw [List.getElem?_map] at hd
      cases h : (b :: w)[j]? with
      | none => rw [h] at hd; cases hd
      | some nm => rw [h] at hd; exact ⟨nm, rfl, (Option.some.inj hd).symm⟩
    obtain ⟨rfl, rx⟩ : H2' = H2 ∧ Rp B1 x (.str nm) := by
      rcases yd with ⟨q1, q2⟩ | ⟨q, _⟩
      · exact ⟨q1, q2⟩
      · cases q
    cases rx.str_inv
    have nn : ∀ o, Sv.dat (.str nm) ≠ .own o := fun o e => nomatch e
    have no := gX_no (b := b) (w := w) ny2 nn
    have hlen := stA_len b w hw j
    -- the arc to which the name goes
    have key : ∃ clm cum, cum.length ≤ 2001 ∧ arcStep b (clm, cum) nm = arcStep b (clm, cum) nm ∧ (∀ H3, Opn T B0 H0 B1 l clm (cum ++ [nm]) (gX b w y2 (.dat (.str nm))) (σ'.set 4 (some (.str nm))) H3 → ∃ y, (∀ o, y ≠ Sv.own o) ∧ ((j + 1 = 0 ∧ Clo T B0 H0 B1 l [] (gX b w y2 y) (σ'.set 4 (some (.str nm))) H3) ∨ (0 < j + 1 ∧ Opn T B0 H0 B1 l (stA b w (j + 1)).1 (stA b w (j + 1)).2 (gX b w y2 y) (σ'.set 4 (some (.str nm))) H3))) ∧
        ((nm = b ∧ cum = [] ∧ clm.length ≤ 2002 ∧ Clo T B0 H0 B1 l clm (gX b w y2 (.dat (.str nm))) (σ'.set 4 (some (.str nm))) H2') ∨ (nm ≠ b ∧ Opn T B0 H0 B1 l clm cum (gX b w y2 (.dat (.str nm))) (σ'.set 4 (some (.str nm))) H2')) := by
      rcases hc with ⟨rfl, hc⟩ | ⟨h0, hc⟩
      · have : nm = b := by simpa using hnm.symm
        exact ⟨[], [], by simp, rfl, fun H3 ho => ⟨_, nn, .inr ⟨by omega, by rw [this] at ho ⊢; exact ho⟩⟩, .inl ⟨this, rfl, by simp, hc.put4 nm⟩⟩
      · have st := stA_step h0 hnm
        by_cases hb : nm = b
        · refine ⟨(stA b w j).1 ++ [(stA b w j).2], [], by simp, rfl, fun H3 ho => ⟨_, nn, .inr ⟨by omega, ?_⟩⟩, .inl ⟨hb, rfl, by rw [List.length_append]; simp; omega, (hc.put4 nm).close no⟩⟩
          rw [st]
          unfold arcStep
          rw [if_pos hb]
          have eb : ([b] : List Str) = [] ++ [nm] := by rw [hb]; rfl
          show Opn T B0 H0 B1 l ((stA b w j).1 ++ [(stA b w j).2]) [b] _ _ _
          rw [eb]
          exact ho
        · refine ⟨(stA b w j).1, (stA b w j).2, by omega, rfl, fun H3 ho => ⟨_, nn, .inr ⟨by omega, ?_⟩⟩, .inr ⟨hb, hc.put4 nm⟩⟩
          rw [st]
          unfold arcStep
          rw [if_neg hb]
          exact ho
    obtain ⟨clm, cum, hcl, _, hnext, hcase⟩ := key
    refine ⟨fun σ3 H3 => σ3 = σ'.set 4 (some (.str nm)) ∧ Opn T B0 H0 B1 l clm cum (gX b w y2 (.dat (.str nm))) (σ'.set 4 (some (.str nm))) H3, ?_, ?_⟩
    · rcases hcase with ⟨hb, rfl, hcl2, hC⟩ | ⟨hb, hO⟩
      · obtain ⟨B', vs, e', sb, k3, kl, kr, _⟩ := id hC
        obtain ⟨q4, q1⟩ := ev_at e'
        refine ⟨_, q4, _, q1, rfl, _, rfl, ?_⟩
        rw [show decide (V.str nm = V.str b) = true from decide_eq_true (by rw [hb])]
        refine iteT ⟨_, k3, .inl ⟨rfl, _, .of kl⟩, Nat.zero_le _, fun p hp => ?_⟩
        obtain ⟨vs', z1, z2, z3, z4⟩ := hC.opn no hp
        exact nil_go ⟨l, vs', _, rfl, rfl, z2, by rw [z3]; exact lt_line (by omega), rfl, z4⟩
      · obtain ⟨B', vs, a, e', r⟩ := id hO
        obtain ⟨q4, q1⟩ := ev_at e'
        refine ⟨_, q4, _, q1, rfl, _, rfl, ?_⟩
        rw [show decide (V.str nm = V.str b) = false from decide_eq_false (fun q => hb (V.str.inj q))]
        exact iteF ⟨rfl, hO⟩
    · rintro σ3 H3 ⟨rfl, hO⟩
      obtain ⟨B', _, _, e', _⟩ := id hO
      obtain ⟨q4, q1⟩ := ev_at e'
      obtain ⟨vs, a, k3, kl, ka, kk⟩ := hO.more no
      refine ⟨_, k3, 1, rfl, l, _, -1, .ref a, rfl, rfl, .of kl, ?_, .inl ⟨rfl, _, .of ka⟩, _, q4, nil_go ⟨a, _, _, rfl, rfl, ka, by rw [List.length_map]; exact lt_line (by omega), hnext _ (kk nm)⟩⟩
      unfold L2.atI L2.ixN
      rw [if_neg (by decide), if_pos (by rw [List.length_append]; show -((_ + 1 : Nat) : Int) ≤ -1; omega)]
      have e : ((-1 : Int) + ((vs ++ [V.ref a]).length : Int)).toNat = vs.length := by rw [List.length_append]; show (-1 + ((vs.length + 1 : Nat) : Int)).toNat = _; omega
      rw [e]
      simp
  · rintro σ' H' ⟨y, ny, ⟨h0, _⟩ | ⟨_, hO⟩⟩
    · simp at h0
    · have no := gX_no (b := b) (w := w) ny2 ny
      have es : (stA b w ((b :: w).map PyData.str).length).1 ++ [(stA b w ((b :: w).map PyData.str).length).2] = arcsL b w := by
        unfold stA arcsL
        rw [List.length_map, List.length_cons, Nat.add_sub_cancel, List.take_length]
      have hC := hO.close no
      rw [es] at hC
      obtain ⟨B', vs, e', sb, k3, kl, kr', bl', tl', l0'⟩ := hC
      have ev := e'.put (i := 3) (v := .ref l) (g := .own (.lst ((arcsL b w).map strL))) ⟨l, rfl, bl', tl', vs, kl, kr'⟩ fun l' o eo el => ⟨by cases el; exact l0', fun j o' _ _ h => absurd h (no j o')⟩
      rw [set_same k3] at ev
      exact kn _ _ _ _ (hP y) (g1.sb.trans sb) ev
end
end LT

/-! LPa: dicts walked (locked meanwhile), d[k] -= 1, over plain data. -/
namespace LT
open PySem PySem.Spec PyProof.Rows L2
section
variable {z w w1 fr : Bool} {te ta tb tc : TE} {m a b c : ME} {ts : TS} {s : MS} {K : PySem.W.Frag}
/-- d[k] -= e, d the def's own -/
def mDAug (i : Nat) (a b : ME) (f : Int → Int → Int) : MS := fun Γ P => ∃ kvs, Γ[i]? = some (.own (.dic kvs)) ∧ kvs.length < 1000000 ∧ a Γ fun d => ∃ (k : Key) (v : Int), d = kyD k ∧ valS kvs k = some (.inl v) ∧ b Γ fun d' => ∃ u, d' = .int u ∧ P (.nx (Γ.set i (.own (.dic (putS kvs k (.inl (f v u)))))))
theorem rs_daug_sub {i : Nat} (ha : RE z ta a) (hb : RE z tb b) : RS z fr (sDAug (tVar i) ta tb rSub) (mDAug i a b (fun i j => i - j)) := fun T B0 H0 Γ σ B H P D nz e ⟨kvs, h1, hl, hm⟩ kn kr => by
  obtain ⟨l, hx, hbl, nt, ok, hl0⟩ := e.own h1
  have ok : H l = some (.dK (dkv kvs)) := ok
  refine ⟨_, hx, ha T Γ σ B H _ _ e.st (fun z => e.gr.nofz (nz z)) e.env hm fun d v B1 H1 ⟨key, vv, ek, hv, h2⟩ g1 r => ?_⟩
  subst ek
  have hg : DGet H1 l v (valV (dkv kvs) key) := .inl ⟨_, key, .inl (g1.sh _ _ nt ok), r.ky, rfl⟩
  rw [valS_dkv, hv] at hg
  refine ⟨l, .int vv, rfl, hg, hb T Γ σ B1 H1 _ _ g1.st (fun z => (e.gr.trans g1).nofz (nz z)) (e.env.grow g1) h2 fun d' v' B2 H2 ⟨u, eu, hp⟩ g2 r2 => ?_⟩
  subst eu
  have e2 := e.grow (g1.trans g2)
  have hH2 : H2 l = some (.dK (dkv kvs)) := g2.sh _ _ nt (g1.sh _ _ nt ok)
  refine ⟨vv, u, rfl, r2.int_inv, _, .inl ⟨_, key, hH2, (r.grow g2.sb).ky, by unfold dkv; rw [List.length_map]; exact lt_line (by omega), rfl⟩, kn _ _ _ _ hp (g1.sb.trans g2.sb) (e2.mut hx h1 ?_)⟩
  show upd H2 l _ l = _
  rw [upd_same]
  exact congrArg (fun x => some (HO.dK x)) (putS_dkv kvs key (.inl (vv - u)))
/-! ### comprehensions from a walk that is known -/
theorem dc_core {T : Tx} {Γ : Gm} {σ : L2.St} {B1 H1 : Hp} {P : Ow → Prop} {Q : VK} {J : It} {xs : List PyData} {vs : List Nat} {g : TG} {mg : MG} {tt : TT} {mt : MT} {tk tv : TE} {mk mv : ME} (hg : RG w vs g mg) (ht : RT z tt mt) (hk : RE z tk mk) (he : RE z tv mv)
    (st : Stt T B1 H1) (nz : z = true → NoFz B1) (e : En T B1 H1 σ Γ) (hm : DcI mg mt mk mv vs Γ xs P) (wk : WalkD w J xs B1) (k : ∀ o l B' H', P o → Gr T B1 H1 B' H' → H1 l = none → B' l = none → OwOk B' H' l o → Q (.ref l) H') :
    tDc (fun _ H R => R J H) g tt tk tv vs σ H1 Q := by
  obtain ⟨I, i0, is, ie⟩ := hm
  intro D nD
  have nt := st.ntp nD
  have hb1 := st.fr nD
  refine dc_it wk (fun j H2 => ∃ kvs B2, Gr T B1 H1 B2 H2 ∧ B2 D = none ∧ H2 D = some (.dK (dkv kvs)) ∧ I j kvs)
    ⟨[], B1, (Gr.refl st).mut nD hb1 nt, hb1, upd_same, i0⟩ (fun j H2 _ ⟨_, B2, g2, _⟩ => g2.sb.trans g2.st.sub) ?_ ?_
  · rintro j x H2 H2' hj ⟨kvs, B2, g2, hD, hH, hI⟩ ⟨d, hd, y⟩
    obtain ⟨B3, g3, wp⟩ := YD.step g2.st g2.sb y
    have g13 := g2.trans g3
    have e3 := (e.grow g13).wipe vs
    refine hg T B3 H2' _ _ x d _ _ g3.st e3 wp (is j d kvs hd hI) fun σ2 Γ2 h2 e2 _ wq => ⟨by rw [wq]; exact wipe_wipe vs fun _ h => h, ?_⟩
    have hH3 := g3.sh _ _ nt hH
    have hD3 := (g3.nw _ _ hH).1.trans hD
    refine ht T Γ2 σ2 B3 H2' _ _ g3.st (fun z => g13.nofz (nz z)) e2 h2 fun b B4 H4 h4 g4 => ?_
    have hH4 := g4.sh _ _ nt hH3
    have hD4 := (g4.nw _ _ hH3).1.trans hD3
    cases b with
    | false =>
      rw [if_neg Bool.false_ne_true] at h4 ⊢
      exact ⟨kvs, B4, (g2.trans g3).trans g4, hD4, hH4, h4⟩
    | true =>
      rw [if_pos rfl] at h4 ⊢
      refine hk T Γ2 σ2 B4 H4 _ _ g4.st (fun z => (g13.trans g4).nofz (nz z)) (e2.grow g4) h4 fun d' v B5 H5 h5 g5 r5 => he T Γ2 σ2 B5 H5 _ _ g5.st (fun z => ((g13.trans g4).trans g5).nofz (nz z)) ((e2.grow g4).grow g5) h5 fun d'' v' B6 H6 ⟨kk, vv, ek, ev, hl, h6⟩ g6 r6 => ?_
      have hH6 := g6.sh _ _ nt (g5.sh _ _ nt hH4)
      have hD6 := (g6.nw _ _ (g5.sh _ _ nt hH4)).1.trans ((g5.nw _ _ hH4).1.trans hD4)
      subst ek ev
      refine ⟨dkv kvs, kk, r5.ky, hH6, by unfold dkv; rw [List.length_map]; exact lt_line (by omega), putS kvs kk vv, B6, ((((g2.trans g3).trans g4).trans g5).trans g6).mut nD hD6 nt, hD6, ?_, h6⟩
      rw [upd_same, r6.sc, putS_dkv]
  · rintro H2 ⟨kvs, B2, g2, hD, hH, hI⟩
    exact k _ _ _ _ (ie _ hI) g2 nD hD hH
theorem lc_core {T : Tx} {Γ : Gm} {σ : L2.St} {B1 H1 : Hp} {P : Ow → Prop} {Q : VK} {J : It} {xs : List PyData} {vs : List Nat} {g : TG} {mg : MG} {tt : TT} {mt : MT} (hg : RG w vs g mg) (ht : RT z tt mt) (he : RE z te m)
    (st : Stt T B1 H1) (nz : z = true → NoFz B1) (e : En T B1 H1 σ Γ) (hm : LcI mg mt m vs Γ xs P) (wk : WalkD w J xs B1) (k : ∀ o l B' H', P o → Gr T B1 H1 B' H' → H1 l = none → B' l = none → OwOk B' H' l o → Q (.ref l) H') :
    tLc (fun _ H R => R J H) g tt te vs σ H1 Q := by
  obtain ⟨I, i0, is, ie⟩ := hm
  intro D nD
  have nt := st.ntp nD
  have hb1 := st.fr nD
  refine lc_it wk (fun j H2 => ∃ acc ds B2, Gr T B1 H1 B2 H2 ∧ B2 D = none ∧ H2 D = some (.lst acc) ∧ RpA B2 acc ds ∧ I j ds)
    ⟨[], [], B1, (Gr.refl st).mut nD hb1 nt, hb1, upd_same, .nil, i0⟩ (fun j H2 _ ⟨_, _, B2, g2, _⟩ => g2.sb.trans g2.st.sub) ?_ ?_
  · rintro j x H2 H2' hj ⟨acc, ds, B2, g2, hD, hH, hr, hI⟩ ⟨d, hd, y⟩
    obtain ⟨B3, g3, wp⟩ := YD.step g2.st g2.sb y
    have g13 := g2.trans g3
    have e3 := (e.grow g13).wipe vs
    refine hg T B3 H2' _ _ x d _ _ g3.st e3 wp (is j d ds hd hI) fun σ2 Γ2 h2 e2 _ wq => ⟨by rw [wq]; exact wipe_wipe vs fun _ h => h, ?_⟩
    have hH3 := g3.sh _ _ nt hH
    have hD3 := (g3.nw _ _ hH).1.trans hD
    refine ht T Γ2 σ2 B3 H2' _ _ g3.st (fun z => g13.nofz (nz z)) e2 h2 fun b B4 H4 h4 g4 => ?_
    have hH4 := g4.sh _ _ nt hH3
    have hD4 := (g4.nw _ _ hH3).1.trans hD3
    cases b with
    | false =>
      rw [if_neg Bool.false_ne_true] at h4 ⊢
      exact ⟨acc, ds, B4, (g2.trans g3).trans g4, hD4, hH4, hr.grow (g3.sb.trans g4.sb), h4⟩
    | true =>
      rw [if_pos rfl] at h4 ⊢
      refine he T Γ2 σ2 B4 H4 _ _ g4.st (fun z => (g13.trans g4).nofz (nz z)) (e2.grow g4) h4 fun d' v B5 H5 ⟨hl, h5⟩ g5 r5 => ?_
      have hH5 := g5.sh _ _ nt hH4
      have hD5 := (g5.nw _ _ hH4).1.trans hD4
      have hr5 := hr.grow ((g3.sb.trans g4.sb).trans g5.sb)
      exact ⟨acc, hH5, by rw [hr5.length]; exact lt_line (by omega), acc ++ [v], ds ++ [d'], B5, (((g2.trans g3).trans g4).trans g5).mut nD hD5 nt, hD5, upd_same, hr5.snoc r5, h5⟩
  · rintro H2 ⟨acc, ds, B2, g2, hD, hH, hr, hI⟩
    exact k _ _ _ _ (ie _ hI) g2 nD hD ⟨acc, hH, hr⟩
end
/-! ### a dict locked, unlocked -/
structure Swp (a : Addr) (u : List (Key × V)) (B B' : Hp) : Prop where
  ot : ∀ x, x ≠ a → B' x = B x
  at1 : B a = some (.dK u) ∨ ∃ o, B a = some (.frz o (.dK u))
  at2 : B' a = some (.dK u) ∨ ∃ o, B' a = some (.frz o (.dK u))
theorem Swp.ne {a x : Addr} {u : List (Key × V)} {B B' : Hp} (s : Swp a u B B') {o : HO} (h : B x = some o) (h1 : o ≠ .dK u) (h2 : ∀ f, o ≠ .frz f (.dK u)) : B' x = some o := by
  by_cases e : x = a
  · subst e
    rcases s.at1 with q | ⟨f, q⟩
    · rw [q] at h; exact absurd (Option.some.inj h).symm h1
    · rw [q] at h; exact absurd (Option.some.inj h).symm (h2 f)
  · rw [s.ot x e]; exact h
theorem Swp.rd {a x : Addr} {u v : List (Key × V)} {B B' : Hp} (s : Swp a u B B') (h : Rd B x (.dK v)) : Rd B' x (.dK v) := by
  by_cases e : x = a
  · subst e
    have : v = u := by
      rcases s.at1 with q | ⟨f, q⟩ <;> rcases h with h | ⟨f', h⟩ <;> rw [q] at h <;> cases h <;> rfl
    subst this
    rcases s.at2 with q | ⟨f, q⟩
    · exact .inl q
    · exact .inr ⟨f, q⟩
  · rcases h with h | ⟨f, h⟩
    · exact .inl (by rw [s.ot x e]; exact h)
    · exact .inr ⟨f, by rw [s.ot x e]; exact h⟩
mutual
theorem Rp.swp {a : Addr} {u : List (Key × V)} {B B' : Hp} (s : Swp a u B B') : ∀ {v : V} {d : PyData}, Rp B v d → Rp B' v d
  | _, _, .non => .non
  | _, _, .bl b => .bl b
  | _, _, .int i => .int i
  | _, _, .str x => .str x
  | _, _, .lst h r => .lst (s.ne h (fun e => nomatch e) (fun _ e => nomatch e)) (RpA.swp s r)
  | _, _, .tup h n r => .tup (s.ne h (fun e => nomatch e) (fun _ e => nomatch e)) n (RpA.swp s r)
  | _, _, .wpr h => .wpr (s.ne h (fun e => nomatch e) (fun _ e => nomatch e))
  | _, _, .dic h => .dic (s.rd h)
theorem RpA.swp {a : Addr} {u : List (Key × V)} {B B' : Hp} (s : Swp a u B B') : ∀ {v : List V} {d : List PyData}, RpA B v d → RpA B' v d
  | _, _, .nil => .nil
  | _, _, .cons h r => .cons (Rp.swp s h) (RpA.swp s r)
end
section
variable {z w fr : Bool} {te ta tb : TE} {m a b : ME} {K : PySem.W.Frag}
def itemsD (kvs : List (Key × Sc)) : List PyData := kvs.map fun p => .tuple [kyD p.1, scD p.2]
def keysD (kvs : List (Key × Sc)) : List PyData := kvs.map fun p => kyD p.1
theorem dkv_at {kvs : List (Key × Sc)} {i : Nat} {k : Key} {v : V} (h : (dkv kvs)[i]? = some (k, v)) : ∃ sc, kvs[i]? = some (k, sc) ∧ v = scV sc := by
  unfold dkv at h
  rw [List.getElem?_map] at h
  cases e : kvs[i]? with
  | none => rw [e] at h; cases h
  | some p => rw [e] at h; cases h; exact ⟨p.2, rfl, rfl⟩
theorem walkd_items {B : Hp} {l : Addr} {od : Obj} {kvs : List (Key × Sc)} (h : B l = some (.frz od (.dK (dkv kvs)))) : WalkD true (Iti l od (dkv kvs)) (itemsD kvs) B := by
  unfold WalkD
  have hl : (itemsD kvs).length = (dkv kvs).length := by unfold itemsD dkv; rw [List.length_map, List.length_map]
  rw [hl]
  refine (walk_items (d := l) (o := od) (kvs := dkv kvs)).mono (fun H s => s _ _ h) fun i H x H' hi s ⟨T', u, v, e1, e2, e3, e4, e5⟩ => ?_
  have e4 : (dkv kvs)[i]?.map (fun kv => kV kv.1) = some u := e4
  have e5 : (dkv kvs)[i]?.map Prod.snd = some v := e5
  cases hk : (dkv kvs)[i]? with
  | none => rw [hk] at e4; cases e4
  | some p =>
    rw [hk] at e4 e5
    obtain ⟨k, vv⟩ := p
    cases e4; cases e5
    obtain ⟨sc, h1, rfl⟩ := dkv_at hk
    exact ⟨.tuple [kyD k, scD sc], by unfold itemsD; rw [List.getElem?_map, h1]; rfl, .inr ⟨rfl, T', _, _, _, _, e1, e2, e3, rfl, rp_ky k, rp_sc sc⟩⟩
theorem walkd_keys {B : Hp} {l : Addr} {od : Obj} {kvs : List (Key × Sc)} (h : B l = some (.frz od (.dK (dkv kvs)))) : WalkD w (Itk l od (dkv kvs)) (keysD kvs) B := by
  unfold WalkD
  have hl : (keysD kvs).length = (dkv kvs).length := by unfold keysD dkv; rw [List.length_map, List.length_map]
  rw [hl]
  refine (walk_keys (d := l) (o := od) (kvs := dkv kvs)).mono (fun H s => s _ _ h) fun i H x H' hi s ⟨e1, k, v, e2, e3⟩ => ?_
  obtain ⟨sc, h1, rfl⟩ := dkv_at e2
  exact ⟨kyD k, by unfold keysD; rw [List.getElem?_map, h1]; rfl, .inl ⟨e1, by rw [e3]; exact rp_ky k⟩⟩
/-- {k: v for k, v in d.items() if ..}, d the def's own -/
def mDcLO (i : Nat) (g : MG) (tt : MT) (tk tv : ME) (vs : List Nat) : MF := fun Γ P => ∃ kvs, Γ[i]? = some (.own (.dic kvs)) ∧ (∀ (j : Nat) (o : Ow), Γ[j]? = some (.own o) → j = i) ∧ DcI g tt tk tv vs (Γ.set i (.dat (dD kvs))) (itemsD kvs) P
theorem rf_dcLO {i : Nat} {vs : List Nat} {g : TG} {mg : MG} {tt : TT} {mt : MT} {tk tv : TE} {mk mv : ME} (hg : RG true vs g mg) (ht : RT false tt mt) (hk : RE false tk mk) (he : RE false tv mv) : RF z (tLockE (tDc (iItems (tVar i)) g tt tk tv vs)) (mDcLO i mg mt mk mv vs) := fun T Γ σ B H P Q s nz e ⟨kvs, h1, hone, I, i0, is, ie⟩ k => by
  obtain ⟨x, hx, l, rfl, hbl, nt, ok⟩ := e.at h1
  have ok : H l = some (.dK (dkv kvs)) := ok
  refine ⟨l, _, ok, trivial, fun od => ⟨_, hx, l, od, dkv kvs, rfl, upd_same, ?_⟩⟩
  have sb : Same B (upd B l (.frz od (.dK (dkv kvs)))) := same_upd hbl
  have st1 : Stt T (upd B l (.frz od (.dK (dkv kvs)))) (upd H l (.frz od (.dK (dkv kvs)))) := by
    refine ⟨fun a o ha => ?_, fun t s' et => ?_⟩
    · by_cases q : a = l
      · subst q; rw [upd_same] at ha ⊢; exact ha
      · rw [upd_ne q] at ha ⊢; exact s.sub _ _ ha
    · obtain ⟨q1, q2, q3⟩ := s.tp t s' et
      have hne : l ≠ t := fun q => nt ⟨s', by rw [q]; exact et⟩
      exact ⟨q1.mut hne, q2.grow sb, by rw [upd_ne (Ne.symm hne)]; exact q3⟩
  have en1 : En T (upd B l (.frz od (.dK (dkv kvs)))) (upd H l (.frz od (.dK (dkv kvs)))) σ (Γ.set i (.dat (dD kvs))) := by
    refine ⟨by rw [List.length_set]; exact e.len, fun j y gv hy hgv => ?_⟩
    by_cases q : i = j
    · subst q
      obtain ⟨hi, _⟩ := List.getElem?_eq_some_iff.mp hgv
      rw [List.length_set] at hi
      rw [List.getElem?_set_self hi] at hgv
      cases hgv
      rw [hx] at hy; cases hy
      exact ⟨_, rfl, .dic (.inr ⟨od, upd_same⟩)⟩
    · rw [List.getElem?_set_ne q] at hgv
      have okj := e.ok j y gv hy hgv
      cases gv with
      | no => trivial
      | dat d => obtain ⟨v, e1, r⟩ := okj; exact ⟨v, e1, r.grow sb⟩
      | tape => exact okj
      | own o => exact absurd (hone j o hgv).symm q
  refine dc_core (z := false) (Q := fun v H' => H' l = some (.frz od (.dK (dkv kvs))) ∧ Q v (upd H' l (.dK (dkv kvs)))) hg ht hk he st1 (fun q => nomatch q) en1 (P := fun o => ∃ kv, o = .dic kv ∧ P o) ⟨I, i0, is, fun acc h => ⟨acc, rfl, ie acc h⟩⟩ (walkd_items upd_same) fun o D B2 H2 ⟨kv, eo, hp⟩ g2 hD bD okD => ?_
  subst eo
  have okD : H2 D = some (.dK (dkv kv)) := okD
  have hDl : D ≠ l := fun q => by rw [q, upd_same] at hD; cases hD
  have hHD : H D = none := by rw [upd_ne hDl] at hD; exact hD
  have hb2 : B2 l = some (.frz od (.dK (dkv kvs))) := g2.sb _ _ upd_same
  refine ⟨g2.st.sub _ _ hb2, k _ D B _ hp ⟨⟨fun a o ha => ?_, fun t s' et => ?_⟩, Same.refl _, fun a o na ha => ?_, fun a o ha => ⟨rfl, ?_⟩, fun _ _ _ h => h⟩ hHD (s.fr hHD) ?_⟩
  · have hne := ne_of_none ha hbl
    rw [upd_ne hne]; exact g2.st.sub _ _ (g2.sb _ _ (sb _ _ ha))
  · obtain ⟨q1, q2, q3⟩ := s.tp t s' et
    have hne : l ≠ t := fun q => nt ⟨s', by rw [q]; exact et⟩
    exact ⟨(g2.st.tp t s' et).1.mut hne, q2, q3⟩
  · by_cases q : a = l
    · subst q; rw [upd_same]; rw [ok] at ha; exact ha
    · rw [upd_ne q]
      exact g2.sh a o na (by rw [upd_ne q]; exact ha)
  · by_cases q : a = l
    · subst q; exact ⟨_, upd_same⟩
    · rw [upd_ne q]
      exact (g2.nw a o (by rw [upd_ne q]; exact ha)).2
  · show upd H2 l _ D = _
    rw [upd_ne hDl]; exact okD
/-- [.. for k in d], d data, none locked -/
def mLcLD (i : Nat) (g : MG) (tt : MT) (te : ME) (vs : List Nat) : MF := fun Γ P => ∃ kvs, Γ[i]? = some (.dat (dD kvs)) ∧ LcI g tt te vs Γ (keysD kvs) P
theorem rf_lcLD {i : Nat} {vs : List Nat} {g : TG} {mg : MG} {tt : TT} {mt : MT} (hg : RG false vs g mg) (ht : RT false tt mt) (he : RE false te m) : RF true (tLockE (tLc (iKeys (tVar i)) g tt te vs)) (mLcLD i mg mt m vs) := fun T Γ σ B H P Q s nz e ⟨kvs, h1, hm⟩ k => by
  obtain ⟨x, hx, v, rfl, r⟩ := e.at h1
  obtain ⟨a, rfl, hr⟩ := r.dic_inv rfl
  have hB : B a = some (.dK (dkv kvs)) := by
    rcases hr with q | ⟨f, q⟩
    · exact q
    · exact absurd q (nz rfl a f _)
  have hH := s.sub _ _ hB
  refine ⟨a, _, hH, trivial, fun od => ⟨_, hx, a, od, rfl, .inl ⟨dkv kvs, upd_same, ?_⟩⟩⟩
  have sw : Swp a (dkv kvs) B (upd B a (.frz od (.dK (dkv kvs)))) := ⟨fun y q => upd_ne q, .inl hB, .inr ⟨od, upd_same⟩⟩
  have hta : ∀ t s', T = some (t, s') → a ≠ t := fun t s' et q => by
    have := (s.tp t s' et).2.2
    rw [← q, hB] at this; cases this
  have nta : ¬ tpA T a := fun ⟨s', et⟩ => hta a s' et rfl
  have st1 : Stt T (upd B a (.frz od (.dK (dkv kvs)))) (upd H a (.frz od (.dK (dkv kvs)))) := by
    refine ⟨fun y o ha => ?_, fun t s' et => ?_⟩
    · by_cases q : y = a
      · subst q; rw [upd_same] at ha ⊢; exact ha
      · rw [upd_ne q] at ha ⊢; exact s.sub _ _ ha
    · obtain ⟨q1, ⟨ns, q2⟩, q3⟩ := s.tp t s' et
      exact ⟨q1.mut (hta t s' et), ⟨ns, sw.ne q2 (fun e => nomatch e) (fun _ e => nomatch e)⟩, by rw [upd_ne (Ne.symm (hta t s' et))]; exact q3⟩
  have en1 : En T (upd B a (.frz od (.dK (dkv kvs)))) (upd H a (.frz od (.dK (dkv kvs)))) σ Γ := by
    refine ⟨e.len, fun j y gv hy hgv => ?_⟩
    have okj := e.ok j y gv hy hgv
    cases gv with
    | no => trivial
    | dat d => obtain ⟨v, e1, r⟩ := okj; exact ⟨v, e1, r.swp sw⟩
    | tape => exact okj
    | own o =>
      obtain ⟨l, el, bl, ntl, okl⟩ := okj
      have hne : l ≠ a := fun q => by rw [q, hB] at bl; cases bl
      refine ⟨l, el, by rw [upd_ne hne]; exact bl, ntl, ?_⟩
      cases o with
      | lst ds => obtain ⟨us, k1, k2⟩ := okl; exact ⟨us, by rw [upd_ne hne]; exact k1, k2.swp sw⟩
      | dic kv => show upd H a _ l = _; rw [upd_ne hne]; exact okl
      | dct kv => show upd H a _ l = _; rw [upd_ne hne]; exact okl
  refine lc_core (z := false) (Q := fun v H' => H' a = some (.frz od (.dK (dkv kvs))) ∧ Q v (upd H' a (.dK (dkv kvs)))) hg ht he st1 (fun q => nomatch q) en1 hm (walkd_keys upd_same) fun o D B2 H2 hp g2 hD bD okD => ?_
  have hDa : D ≠ a := fun q => by rw [q, upd_same] at hD; cases hD
  have hHD : H D = none := by rw [upd_ne hDa] at hD; exact hD
  have hb2 : B2 a = some (.frz od (.dK (dkv kvs))) := g2.sb _ _ upd_same
  have sw2 : Swp a (dkv kvs) B2 (upd B2 a (.dK (dkv kvs))) := ⟨fun y q => upd_ne q, .inr ⟨od, hb2⟩, .inl upd_same⟩
  refine ⟨g2.st.sub _ _ hb2, k o D (upd B2 a (.dK (dkv kvs))) _ hp ⟨⟨fun y u hy => ?_, fun t s' et => ?_⟩, fun y u hy => ?_, fun y u ny hy => ?_, fun y u hy => ⟨?_, ?_⟩, fun y f u hy => ?_⟩ hHD (by rw [upd_ne hDa]; exact bD) ?_⟩
  · by_cases q : y = a
    · subst q; rw [upd_same] at hy ⊢; exact hy
    · rw [upd_ne q] at hy ⊢; exact g2.st.sub _ _ hy
  · obtain ⟨q1, ⟨ns, q2⟩, q3⟩ := g2.st.tp t s' et
    exact ⟨q1.mut (hta t s' et), ⟨ns, sw2.ne q2 (fun e => nomatch e) (fun _ e => nomatch e)⟩, by rw [upd_ne (Ne.symm (hta t s' et))]; exact q3⟩
  · by_cases q : y = a
    · subst q; rw [upd_same]; rw [hB] at hy; exact hy
    · rw [upd_ne q]; exact g2.sb _ _ (by rw [upd_ne q]; exact hy)
  · by_cases q : y = a
    · subst q; rw [upd_same]; rw [hH] at hy; exact hy
    · rw [upd_ne q]; exact g2.sh _ _ ny (by rw [upd_ne q]; exact hy)
  · by_cases q : y = a
    · subst q; rw [upd_same, hB]
    · rw [upd_ne q, (g2.nw y u (by rw [upd_ne q]; exact hy)).1, upd_ne q]
  · by_cases q : y = a
    · subst q; exact ⟨_, upd_same⟩
    · rw [upd_ne q]; exact (g2.nw y u (by rw [upd_ne q]; exact hy)).2
  · by_cases q : y = a
    · subst q; rw [upd_same] at hy; cases hy
    · rw [upd_ne q] at hy
      have := g2.fz y f u hy
      rw [upd_ne q] at this; exact this
  · cases o with
    | lst ds => obtain ⟨us, k1, k2⟩ := okD; exact ⟨us, by rw [upd_ne hDa]; exact k1, k2.swp sw2⟩
    | dic kv => show upd H2 a _ D = _; rw [upd_ne hDa]; exact okD
    | dct kv => show upd H2 a _ D = _; rw [upd_ne hDa]; exact okD
end
/-! ### a law in which dicts are walked -/
theorem law_Wz {z : Bool} {ts : TS} {s : MS} {K : PySem.W.Frag} {N : List Str} {vs : List V} {H : Hp} {Q : VK} {k : Nat} (hN : N.length = 2 + k) (rs : RS z false ts s) (hp : s (.no :: .tape :: List.replicate k .no) (endW fun d => d = .bool true))
    (h : ∃ (a : Addr) (ns : List Int), vs = [.ref a] ∧ SqL K H a (ns.map V.int) ∧ ns.length ≤ 63 ∧ ∀ H', Q (.bl true) H') :
    tSeq (tAsg (tLst (tCons (tCB (rListOf K) (tCons (tVar 0) tNil)) (tCons (tC (.int 0)) (tCons (tC (.int 0)) tNil)))) (gName 1)) ts { nx := fun _ H' => Q .non H', rt := Q } (start N vs) H := by
  obtain ⟨a, ns, rfl, hA, hns, q⟩ := h
  obtain ⟨y0, y1, N', rfl⟩ : ∃ y0 y1 N', N = y0 :: y1 :: N' := by
    match N, hN with
    | [], h => simp at h; omega
    | [_], h => simp at h; omega
    | y0 :: y1 :: N', _ => exact ⟨_, _, _, rfl⟩
  have es : start (y0 :: y1 :: N') [V.ref a] = some (.ref a) :: none :: List.replicate N'.length none := by
    unfold L2.start
    simp [List.replicate_succ]
  rw [es]
  refine ⟨_, rfl, a, _, rfl, .inl hA, fun s' nS => ⟨by show 3 ≤ sizeLine; decide, fun t nt => ?_⟩⟩
  have hst : s' ≠ t := fun e => by rw [← e, upd_same] at nt; cases nt
  generalize eH : upd (upd H s' (.lst (ns.map V.int))) t (.lst [.ref s', .int 0, .int 0]) = H1
  have ht : H1 t = some (.lst [.ref s', .int 0, .int 0]) := by rw [← eH]; exact upd_same
  have st : Stt (some (t, s')) (fun x => if x = s' then some (.lst (ns.map V.int)) else none) H1 := by
    refine ⟨fun x o hx => ?_, fun t2 s2 e => ?_⟩
    · by_cases e : x = s'
      · subst e
        rw [if_pos rfl] at hx
        rw [← eH, upd_ne hst, upd_same]; exact hx
      · rw [if_neg e] at hx; cases hx
    · cases e
      exact ⟨⟨0, 0, ht, by decide, by decide⟩, ⟨ns, if_pos rfl⟩, if_neg (Ne.symm hst)⟩
  have hk : N'.length = k := by simp only [List.length_cons] at hN; omega
  have no : ∀ (i : Nat) (o : Ow), (Sv.no :: Sv.tape :: List.replicate k .no)[i]? = some (.own o) → False := fun i o h => by
    match i, h with
    | 0, h => cases h
    | 1, h => cases h
    | i + 2, h =>
      have : (List.replicate k Sv.no)[i]? = some (.own o) := by simpa using h
      exact nomatch getElem_rep this
  refine rs (some (t, s')) _ H1 (.no :: .tape :: List.replicate k .no) _ _ H1 (endW fun d => d = .bool true) _ (fun _ x f u hx => by
      by_cases e : x = s'
      · rw [if_pos e] at hx; cases hx
      · rw [if_neg e] at hx; cases hx) ⟨.refl st, ⟨by simp [hk], fun i x g hx hg => ?_⟩, fun i l o _ h => (no i o h).elim, fun i j l o o' _ _ h => (no i o h).elim⟩ hp (fun Γ' σ' B' H' hp _ e => nomatch hp) (fun d v B' H' hp g r _ => ?_)
  · match i, hx, hg with
    | 0, hx, hg => cases hg; trivial
    | 1, hx, hg =>
      cases hg
      have : x = some (.ref t) := by simpa using hx.symm
      exact ⟨t, s', this, rfl⟩
    | i + 2, hx, hg =>
      have : (List.replicate k Sv.no)[i]? = some g := by simpa using hg
      rw [getElem_rep this]; trivial
  · have : d = .bool true := hp
    subst this
    rw [r.bl_inv]; exact q H'
end LT

/-! LPb: min and max of a dict with int keys, sum of lists, a new dict, over plain data. -/
namespace LT
open PySem PySem.Spec PyProof.Rows L2
section
variable {z w w1 fr : Bool} {te ta tb tc : TE} {m a b c : ME} {ts : TS} {s : MS} {K : PySem.W.Frag}
def fMinD : F1 := fun x P => ∃ (kvs : List (Key × Sc)) (ns : List Int), x = dD kvs ∧ kvs.map (·.1) = ns.map Sum.inl ∧ ns ≠ [] ∧ ∀ m, m ∈ ns → (∀ y ∈ ns, m ≤ y) → P (.int m)
def fMaxD : F1 := fun x P => ∃ (kvs : List (Key × Sc)) (ns : List Int), x = dD kvs ∧ kvs.map (·.1) = ns.map Sum.inl ∧ ns ≠ [] ∧ ∀ m, m ∈ ns → (∀ y ∈ ns, y ≤ m) → P (.int m)
theorem o1_minD : O1 rMinDk fMinD := fun T B H x dx P Q s rx ⟨kvs, ns, e, hk, hne, hp⟩ k => by
  obtain ⟨p, rfl, h⟩ := rx.dic e s.sub
  exact ⟨p, _, ns, rfl, h, by rw [dkv_keys, hk], hne, fun m h1 h2 => k _ _ _ _ (hp m h1 h2) (.refl s) (.int _)⟩
theorem o1_maxD : O1 rMaxDk fMaxD := fun T B H x dx P Q s rx ⟨kvs, ns, e, hk, hne, hp⟩ k => by
  obtain ⟨p, rfl, h⟩ := rx.dic e s.sub
  exact ⟨p, _, ns, rfl, h, by rw [dkv_keys, hk], hne, fun m h1 h2 => k _ _ _ _ (hp m h1 h2) (.refl s) (.int _)⟩
def mDNew : MF := fun _ P => P (.dic [])
theorem rf_dnew : RF z tDNewK mDNew := fun T Γ σ B H P Q s nz e hm k => rf_newD (.refl s) hm k
/-- sum(lists, []) -/
def mSumL (a : ME) : MF := fun Γ P => a Γ fun x => ∃ ls : List (List PyData), x = .list (ls.map .list) ∧ 0 < ls.length ∧ ls.flatten.length ≤ 1000000 ∧ P (.lst ls.flatten)
theorem lists_at {B H : Hp} (sb : Same B H) : ∀ {ls : List (List PyData)} {xs : List V}, RpA B xs (ls.map .list) → ∃ (as : List Addr) (vs : List (List V)), xs = as.map V.ref ∧ as.length = vs.length ∧ (∀ (i : Nat) (p : Addr) (l : List V), as[i]? = some p → vs[i]? = some l → H p = some (.lst l)) ∧ RpA B vs.flatten ls.flatten ∧ as.length = ls.length
  | [], xs, h => by
    cases h
    exact ⟨[], [], rfl, rfl, fun i p l h => by simp at h, .nil, rfl⟩
  | l :: ls, xs, h => by
    cases h with
    | cons h1 h2 =>
      obtain ⟨as, vs, rfl, e1, e2, e3, e4⟩ := lists_at sb h2
      obtain ⟨p, us, rfl, e5, e6⟩ := h1.lst_inv
      refine ⟨p :: as, us :: vs, rfl, by simp [e1], fun i q l' g1 g2 => ?_, ?_, by simp [e4]⟩
      · cases i with
        | zero => cases g1; cases g2; exact sb _ _ e5
        | succ i => exact e2 i q l' (by simpa using g1) (by simpa using g2)
      · rw [List.flatten_cons, List.flatten_cons]
        exact e6.append e3
theorem rf_sumL (ha : RQ z ta a) : RF z (tCB rSumL (tCons ta (tCons (tLst tNil) tNil))) (mSumL a) := fun T Γ σ B H P Q s nz e hm k =>
  ha T Γ σ B H _ _ s nz e hm fun d1 v1 B1 H1 ⟨ls, e1, h0, hl, h1⟩ g1 r1 => ⟨Nat.zero_le _, fun p hp => by
    subst e1
    have g2 := (Gr.refl g1.st).mut (o := .lst []) hp (g1.st.fr hp) (g1.st.ntp hp)
    obtain ⟨q, xs, rfl, hq, hr⟩ := (r1.grow g2).lst g2.st.sub
    obtain ⟨as, vs, rfl, e2, e3, e4, e5⟩ := lists_at g2.st.sub hr
    exact ⟨q, p, as, vs, rfl, hq, upd_same, e2, e3, by omega, by rw [e4.length]; exact le_line (by omega), rf_new (g1.trans g2) e4 h1 k⟩⟩
end
end LT

/-! LPc: while, a tuple times a number, a call with names the other way round, over plain data. -/
namespace LT
open PySem PySem.Spec PyProof.Rows L2
section
variable {z w w1 fr : Bool} {te ta tb tc : TE} {m a b c : ME} {ts : TS} {s : MS} {K : PySem.W.Frag}
def mWhile (c : MT) (b : MS) : MS := fun Γ P => ∃ W : Nat → Gm → Prop, (∃ m, W m Γ) ∧ ∀ m Γ1, W m Γ1 → c Γ1 fun k => if k = true then b Γ1 (fun o => match o with
  | .nx Γ2 => ∃ m', m' < m ∧ W m' Γ2
  | .rt d => P (.rt d)) else P (.nx Γ1)
theorem rs_while {t : TT} {mt : MT} (ht : RT z t mt) (hb : RS z fr ts s) : RS z fr (tWhile t ts) (mWhile mt s) := fun T B0 H0 Γ σ B H P D nz e ⟨W, ⟨m, w0⟩, hs⟩ kn kr =>
  ⟨fun m σ' H' => ∃ Γ' B', W m Γ' ∧ Same B B' ∧ Ev T B0 H0 B' H' σ' Γ', ⟨m, Γ, B, w0, Same.refl _, e⟩, fun m σ' H' ⟨Γ', B', hW, sb, e'⟩ => ht T Γ' σ' B' H' _ _ e'.st (fun z => e'.gr.nofz (nz z)) e'.env (hs m Γ' hW) fun k B1 H1 h1 g1 => by
    cases k with
    | true =>
      rw [if_pos rfl] at h1 ⊢
      exact ⟨fun σ2 H2 => ∃ m', m' < m ∧ ∃ Γ2 B2, W m' Γ2 ∧ Same B B2 ∧ Ev T B0 H0 B2 H2 σ2 Γ2, fun σ2 H2 r => r, hb T B0 H0 Γ' σ' B1 H1 _ _ nz (e'.grow g1) h1 (fun Γ2 σ2 B2 H2 ⟨m', hm, hW2⟩ sb2 e2 => ⟨m', hm, Γ2, B2, hW2, (sb.trans g1.sb).trans sb2, e2⟩) kr⟩
    | false =>
      rw [if_neg Bool.false_ne_true] at h1 ⊢
      exact kn _ _ _ _ h1 (sb.trans g1.sb) (e'.grow g1)⟩
/-- x -= e -/
def mAug (i : Nat) (a : ME) (f : Int → Int → Int) : MS := fun Γ P => ∃ u : Int, Γ[i]? = some (.dat (.int u)) ∧ a Γ fun d => ∃ v, d = .int v ∧ P (.nx (Γ.set i (.dat (.int (f u v)))))
theorem rs_aug {i : Nat} {f : Int → Int → Int} (ha : RE z ta a) : RS z fr (tAug i ta (ipI f)) (mAug i a f) := fun T B0 H0 Γ σ B H P D nz e ⟨u, h1, hm⟩ kn kr => by
  obtain ⟨x, hx, v, rfl, r⟩ := e.env.at h1
  refine ⟨v, hx, ha T Γ σ B H _ _ e.st (fun z => e.gr.nofz (nz z)) e.env hm fun d w B1 H1 ⟨k, ek, hp⟩ g1 r1 => ?_⟩
  subst ek
  exact ⟨u, k, r.int_inv, r1.int_inv, kn _ _ _ _ hp g1.sb ((e.grow g1).put (v := .int (f u k)) (g := .dat (.int (f u k))) ⟨_, rfl, .int _⟩ fun _ _ e => nomatch e)⟩
def fRepT : F2 := fun x y P => ∃ xs k, x = .tuple xs ∧ y = .int k ∧ xs ≠ [] ∧ 1 ≤ k ∧ k ≤ 1000 ∧ xs.length ≤ 1000 ∧ P (.tuple (List.replicate k.toNat xs).flatten)
theorem o2_repT : O2 (rRepS K) fRepT := fun T B H x y dx dy P Q s rx ry ⟨ds, k, e1, e2, hne, h1, h2, hl, hp⟩ q => by
  subst e1 e2
  obtain ⟨p, o, xs, rfl, hp1, hd, hr⟩ := rx.tup
  rw [ry.int]
  refine ⟨p, k, xs, rfl, rfl, .inl (.inr ⟨o, s.sub _ _ hp1⟩), fun e => hne (by rw [e] at hr; cases hr; rfl), h1, h2, by rw [hr.length]; exact hl, fun e => ?_, fun h2k p' o' hn ho' => ?_⟩
  · subst e
    have e3 : (List.replicate (1 : Int).toNat ds).flatten = ds := by
      show ([ds] : List (List PyData)).flatten = ds
      simp
    rw [e3] at hp
    exact q _ _ _ _ hp (.refl s) (.tup hp1 hd hr)
  · have g := Gr.new (o := .frz o' (.tup (List.replicate k.toNat xs).flatten)) s hn (fun _ _ e => nomatch e)
    exact q _ _ _ _ hp g (.tup upd_same ho' (hr.flat.grow g.sb))
def mCallR (F : FW) (as : MA) : ME := fun Γ P => as Γ fun ds => ∃ d1 d2, ds = [d1, d2] ∧ F [d2, d1] P
theorem re_callR {z' : Bool} {F : FW} {t : TA} {as : MA} (hz : z' = true → z = true) (h : RA z t as) : RE z (tCallR (spW z' 2 F) t) (mCallR F as) := fun T Γ σ B H P Q s nz e hm k =>
  h T Γ σ B H _ _ s nz e hm fun ds vs B1 H1 ⟨d1, d2, ed, hF⟩ g1 r => by
    subst ed
    obtain ⟨v1, v2, rfl, r1, r2⟩ := r.two
    exact ⟨v1, v2, rfl, [d2, d1], B1, P, rfl, g1.st.low, fun q => g1.nofz (nz (hz q)), .cons r2 (.cons r1 .nil), hF, fun d v B' H' hp g rr => k d v B' H' hp (g1.trans (g.lift g1.st)) rr⟩
end
end LT

/-! LPd: a list's pop at a place, parts of texts, over plain data. -/
namespace LT
open PySem PySem.Spec PyProof.Rows L2
section
variable {z w w1 fr : Bool} {te ta tb tc : TE} {m a b c : ME} {ts : TS} {s : MS} {K : PySem.W.Frag}
def fSlS : PyData → Option Int → Option Int → (PyData → Prop) → Prop := fun x lo hi P => ∃ z : Str, x = .str z ∧ z.length ≤ 1000000 ∧ P (.str (cutS z lo hi))
theorem os_str : OSl rSlS fSlS := fun T B H x dx lo hi P Q s rx ⟨z, e, hl, hp⟩ k => by
  subst e
  exact ⟨z, rx.str, le_line hl, k _ _ _ _ hp (.refl s) (.str _)⟩
def mPop (i : Nat) (a : ME) : MS := fun Γ P => ∃ ds, Γ[i]? = some (.own (.lst ds)) ∧ a Γ fun k => ∃ n : Nat, k = .int n ∧ n < ds.length ∧ n ≤ 1000000 ∧ P (.nx (Γ.set i (.own (.lst (ds.eraseIdx n)))))
theorem rs_pop {i : Nat} (ha : RE z ta a) : RS z fr (tDrop (tBM K "list" rPopAt (tVar i) (tCons ta tNil))) (mPop i a) := fun T B0 H0 Γ σ B H P D nz e ⟨ds, h1, hm⟩ kn kr => by
  obtain ⟨l, vs, hx, hH, hr⟩ := e.val h1
  refine ⟨_, hx, .inl ⟨rfl, _, .of hH⟩, ha T Γ σ B H _ _ e.st (fun z => e.gr.nofz (nz z)) e.env hm fun d v B1 H1 ⟨n, eq, hn, hl, h2⟩ g1 r => ?_⟩
  subst eq
  cases r.int_inv
  have e2 := e.grow g1
  obtain ⟨vs', hH', hr'⟩ := e2.val2 h1 hx
  have hnv : n < vs'.length := by rw [hr'.length]; exact hn
  have hsi : seqIndex? ((n : Nat) : Int) vs'.length = some n := by
    have h0 : ¬ (((n : Nat) : Int) < 0) := by omega
    simp [seqIndex?, h0, hnv]
  exact nil_go ⟨l, vs', ((n : Nat) : Int), n, vs'[n], rfl, rfl, hH', by omega, by omega, hsi, List.getElem?_eq_getElem hnv, kn _ _ _ _ h2 g1.sb (e2.mut hx h1 ⟨_, upd_same, hr'.eraseIdx n⟩)⟩
/-- range(a, b) -/
def rngF (lo n : Nat) : List PyData := (List.range n).map fun i : Nat => .int ((lo + i : Nat) : Int)
theorem rngF_len (lo n : Nat) : (rngF lo n).length = n := by unfold rngF; simp
def iR2 (a b : ME) : MA := fun Γ P => a Γ fun d => b Γ fun d' => ∃ lo hi : Nat, d = .int lo ∧ d' = .int hi ∧ lo ≤ 1000000 ∧ hi ≤ 1000000 ∧ P (rngF lo (hi - lo))
theorem ri_rng2 (ha : RE z ta a) (hb : RE z tb b) : RI z w (iRng2 (tCons ta (tCons tb tNil))) (iR2 a b) := fun T Γ σ B H P R s nz e hm k =>
  ha T Γ σ B H _ _ s nz e hm fun d1 v1 B1 H1 h1 g1 r1 => hb T Γ σ B1 H1 _ _ g1.st (fun z => g1.nofz (nz z)) (e.grow g1) h1 fun d2 v2 B2 H2 ⟨lo, hi, e1, e2, l1, l2, h2⟩ g2 r2 => by
    subst e1 e2
    cases r1.int_inv
    cases r2.int_inv
    refine ⟨(lo : Int), (hi : Int), rfl, ⟨by omega, by omega, by omega, by omega⟩, ?_⟩
    rw [show (((hi : Nat) : Int) - ((lo : Nat) : Int)).toNat = hi - lo by omega]
    refine k _ _ _ _ h2 (g1.trans g2) ?_
    unfold WalkD
    rw [rngF_len]
    exact (walk_range (lo := (lo : Int)) (n := hi - lo)).mono (fun H s => trivial) fun i H x H' hi' s ⟨e, hx⟩ => ⟨.int ((lo + i : Nat) : Int), by unfold rngF; rw [List.getElem?_map, List.getElem?_range hi']; rfl, .inl ⟨e, by rw [hx]; show Rp B2 (.int ((lo : Int) + (i : Int))) _; rw [show ((lo : Nat) : Int) + ((i : Nat) : Int) = ((lo + i : Nat) : Int) by omega]; exact .int _⟩⟩
end
end LT

namespace LT
open PySem PySem.Spec PyProof.Rows L2
abbrev N_is_within : List Str := ["thing", "low", "high"]
def t_is_within (K : PySem.W.Frag) : TS :=
  (tRet (tAndV (tCB (rIsi K) (tCons (tVar 0) (tCons (tC (.ty "int")) tNil))) (tAndV (tNotV (tCB (rIsi K) (tCons (tVar 0) (tCons (tC (.ty "bool")) tNil)))) (tChain rLeI rLeI (tVar 1) (tVar 0) (tVar 2)))))
def m_is_within : MS :=
  (mRet (mAndV (mIsi isInt (mVar 0)) (mAndV (mNotV (mIsi isBool (mVar 0))) (mChain fLe fLe (mVar 1) (mVar 0) (mVar 2)))))
theorem rs_is_within {K : PySem.W.Frag} : RS false false (t_is_within K) (m_is_within) := by
  unfold t_is_within m_is_within
  exact (rs_ret (re_andV (re_isi kt_int (RE.q re_var)) (re_andV (re_notV (re_isi kt_bool (RE.q re_var))) (re_chain o2_le o2_le (RE.q re_var) (RE.q re_var) (RE.q re_var)))))
def F_is_within : FW := bodyW 0 m_is_within
abbrev sp_is_within (K : PySem.W.Frag) : Sp := spW false 3 F_is_within
theorem sem_is_within {K : PySem.W.Frag} {vs : List V} {H : Hp} {Q : VK} {E : XK} (h : sp_is_within K vs H Q E) : t_is_within K { nx := fun _ H' => Q .non H', rt := Q } (start N_is_within vs) H := sem_W (by rfl) rs_is_within h
abbrev N_is_name : List Str := ["thing", "sign"]
def t_is_name (K : PySem.W.Frag) : TS :=
  (tRet (tAndV (tCB (rIsi K) (tCons (tVar 0) (tCons (tC (.ty "str")) tNil))) (tAndV (tChain rLeI rLeI (tC (.int 1)) (tCB rLenSt (tCons (tVar 0) tNil)) (tC (.int 8))) (tCB (rAll K) (tCons (tLc (iStr (tVar 0)) (gName 1) tYes (tOp rInSg (tVar 1) (tC (.str vLetters))) [1]) tNil)))))
def m_is_name : MS :=
  (mRet (mAndV (mIsi isStr (mVar 0)) (mAndV (mChain fLe fLe (mC (.int 1)) (mCB1 fLenS (mVar 0)) (mC (.int 8))) (mCB1 fAll (mOf (mLc (iSt (mVar 0)) (gN 1) mYes (mOp fInSg (mVar 1) (mC (.str vLetters))) [1]))))))
theorem rs_is_name {K : PySem.W.Frag} : RS false false (t_is_name K) (m_is_name) := by
  unfold t_is_name m_is_name
  exact (rs_ret (re_andV (re_isi kt_str (RE.q re_var)) (re_andV (re_chain o2_le o2_le (RE.q re_int) (RE.q (re_cb1 o1_lenS (RE.q re_var))) (RE.q re_int)) (re_cb1 o1_all (RE.q (RF.re (rf_lc (ri_str (w := false) re_var) (rg_name (by decide)) rt_yes (re_op o2_inSg (RE.q re_var) (RE.q re_str)))))))))
def F_is_name : FW := bodyW 1 m_is_name
abbrev sp_is_name (K : PySem.W.Frag) : Sp := spW false 1 F_is_name
theorem sem_is_name {K : PySem.W.Frag} {vs : List V} {H : Hp} {Q : VK} {E : XK} (h : sp_is_name K vs H Q E) : t_is_name K { nx := fun _ H' => Q .non H', rt := Q } (start N_is_name vs) H := sem_W (by rfl) rs_is_name h
abbrev N_law_whole : List Str := ["item"]
def t_law_whole (K : PySem.W.Frag) : TS :=
  (tRet (tAndV (tCB (rIsi K) (tCons (tVar 0) (tCons (tC (.ty "int")) tNil))) (tNotV (tCB (rIsi K) (tCons (tVar 0) (tCons (tC (.ty "bool")) tNil))))))
def m_law_whole : MS :=
  (mRet (mAndV (mIsi isInt (mVar 0)) (mNotV (mIsi isBool (mVar 0)))))
theorem rs_law_whole {K : PySem.W.Frag} : RS false false (t_law_whole K) (m_law_whole) := by
  unfold t_law_whole m_law_whole
  exact (rs_ret (re_andV (re_isi kt_int (RE.q re_var)) (re_notV (re_isi kt_bool (RE.q re_var)))))
def F_law_whole : FW := bodyW 0 m_law_whole
abbrev sp_law_whole (K : PySem.W.Frag) : Sp := spW false 1 F_law_whole
theorem sem_law_whole {K : PySem.W.Frag} {vs : List V} {H : Hp} {Q : VK} {E : XK} (h : sp_law_whole K vs H Q E) : t_law_whole K { nx := fun _ H' => Q .non H', rt := Q } (start N_law_whole vs) H := sem_W (by rfl) rs_law_whole h
abbrev N_law_rises : List Str := ["some", "k"]
def t_law_rises (K : PySem.W.Frag) : TS :=
  (tRet (tOp (rEqD K) (tLc (iRng2 (tCons (tC (.int 1)) (tCons (tCB (rLenSq K) (tCons (tVar 0) tNil)) tNil))) (gName 1) (tNot (tTest (tOp rLtS (tOp (rIxL K) (tVar 0) (tOp rSubI (tVar 1) (tC (.int 1)))) (tOp (rIxL K) (tVar 0) (tVar 1))))) (tVar 1) [1]) (tLst tNil)))
def m_law_rises : MS :=
  (mRet (mOp fEqD (mOf (mLc (iR2 (mC (.int 1)) (mCB1 fLen (mVar 0))) (gN 1) (mNot (mTest (mOp fLtS (mOp fIxL (mVar 0) (mOp fSub (mVar 1) (mC (.int 1)))) (mOp fIxL (mVar 0) (mVar 1))))) (mVar 1) [1])) (mOf (mLstF mNil))))
theorem rs_law_rises {K : PySem.W.Frag} : RS false false (t_law_rises K) (m_law_rises) := by
  unfold t_law_rises m_law_rises
  exact (rs_ret (re_op o2_eqD (RE.q (RF.re (rf_lc (ri_rng2 (w := false) re_int (re_cb1 o1_len (RE.q re_var))) (rg_name (by decide)) (rt_not (rt_test (re_op o2_ltS (RE.q (re_op o2_ixL (RE.q re_var) (RE.q (re_op o2_sub (RE.q re_var) (RE.q re_int))))) (RE.q (re_op o2_ixL (RE.q re_var) (RE.q re_var)))))) re_var))) (RE.q (RF.re (rf_lst ra_nil)))))
def F_law_rises : FW := bodyW 1 m_law_rises
abbrev sp_law_rises (K : PySem.W.Frag) : Sp := spW false 1 F_law_rises
theorem sem_law_rises {K : PySem.W.Frag} {vs : List V} {H : Hp} {Q : VK} {E : XK} (h : sp_law_rises K vs H Q E) : t_law_rises K { nx := fun _ H' => Q .non H', rt := Q } (start N_law_rises vs) H := sem_W (by rfl) rs_law_rises h
abbrev N_law_is_name : List Str := ["item", "mark"]
def t_law_is_name (K : PySem.W.Frag) : TS :=
  (tSeq (tIfS (tOr (tNot (tB (tCB (rIsi K) (tCons (tVar 0) (tCons (tC (.ty "str")) tNil))))) (tNot (tTest (tChain rLtI rLtI (tC (.int 0)) (tCB rLenSt (tCons (tVar 0) tNil)) (tC (.int 9)))))) (tRet (tC (.bl false))) tNext)
    (tRet (tOp (rEqD K) (tLc (iStr (tVar 0)) (gName 1) (tTest (tOp rNotInSg (tVar 1) (tC (.str ("abcdefghijklmnopqrstuvwxyz" : Str))))) (tVar 1) [1]) (tLst tNil))))
def m_law_is_name : MS :=
  (mSeq (mIfS (mOr (mNot (mTest (mIsi isStr (mVar 0)))) (mNot (mTest (mChain fLt fLt (mC (.int 0)) (mCB1 fLenS (mVar 0)) (mC (.int 9))))))
    (mRet (mC (.bool false))) mNext)
    (mRet (mOp fEqD (mOf (mLc (iSt (mVar 0)) (gN 1) (mTest (mOp fNotInSg (mVar 1) (mC (.str ("abcdefghijklmnopqrstuvwxyz" : Str))))) (mVar 1) [1])) (mOf (mLstF mNil)))))
theorem rs_law_is_name {K : PySem.W.Frag} : RS false false (t_law_is_name K) (m_law_is_name) := by
  unfold t_law_is_name m_law_is_name
  exact (rs_seq (rs_if (rt_or (rt_not (rt_B (re_isi kt_str (RE.q re_var)))) (rt_not (rt_test (re_chain o2_lt o2_lt (RE.q re_int) (RE.q (re_cb1 o1_lenS (RE.q re_var))) (RE.q re_int)))))
    (rs_ret re_bl) rs_next)
    (rs_ret (re_op o2_eqD (RE.q (RF.re (rf_lc (ri_str (w := false) re_var) (rg_name (by decide)) (rt_test (re_op o2_notInSg (RE.q re_var) (RE.q re_str))) re_var))) (RE.q (RF.re (rf_lst ra_nil))))))
def F_law_is_name : FW := bodyW 1 m_law_is_name
abbrev sp_law_is_name (K : PySem.W.Frag) : Sp := spW false 1 F_law_is_name
theorem sem_law_is_name {K : PySem.W.Frag} {vs : List V} {H : Hp} {Q : VK} {E : XK} (h : sp_law_is_name K vs H Q E) : t_law_is_name K { nx := fun _ H' => Q .non H', rt := Q } (start N_law_is_name vs) H := sem_W (by rfl) rs_law_is_name h
abbrev N_law_books : List Str := []
def t_law_books (K : PySem.W.Frag) : TS :=
  (tRet (tLst (tCons (tC (.str ("atlas" : Str))) (tCons (tC (.str ("bible" : Str))) (tCons (tC (.str ("comics" : Str))) (tCons (tC (.str ("diary" : Str))) (tCons (tC (.str ("essays" : Str))) (tCons (tC (.str ("fables" : Str))) (tCons (tC (.str ("guide" : Str))) tNil)))))))))
def m_law_books : MS :=
  (mRet (mOf (mLstF (mCons (mC (.str ("atlas" : Str))) (mCons (mC (.str ("bible" : Str))) (mCons (mC (.str ("comics" : Str))) (mCons (mC (.str ("diary" : Str))) (mCons (mC (.str ("essays" : Str))) (mCons (mC (.str ("fables" : Str))) (mCons (mC (.str ("guide" : Str))) mNil))))))))))
theorem rs_law_books {K : PySem.W.Frag} : RS false false (t_law_books K) (m_law_books) := by
  unfold t_law_books m_law_books
  exact (rs_ret (RF.re (rf_lst (ra_cons re_str (ra_cons re_str (ra_cons re_str (ra_cons re_str (ra_cons re_str (ra_cons re_str (ra_cons re_str ra_nil))))))))))
def F_law_books : FW := bodyW 0 m_law_books
abbrev sp_law_books (K : PySem.W.Frag) : Sp := spW false 0 F_law_books
theorem sem_law_books {K : PySem.W.Frag} {vs : List V} {H : Hp} {Q : VK} {E : XK} (h : sp_law_books K vs H Q E) : t_law_books K { nx := fun _ H' => Q .non H', rt := Q } (start N_law_books vs) H := sem_W (by rfl) rs_law_books h
abbrev N_is_pile : List Str := ["thing", "part"]
def t_is_pile (K : PySem.W.Frag) : TS :=
  (tSeq (tIfS (tOr (tNot (tB (tCB (rIsi K) (tCons (tVar 0) (tCons (tC (.ty "tuple")) tNil))))) (tNot (tTest (tChain rLeI rLeI (tC (.int 1)) (tCB (rLenSq K) (tCons (tVar 0) tNil)) (tC (.int 7)))))) (tRet (tC (.bl false))) tNext)
    (tRet (tAndV (tCB (rAll K) (tCons (tLc (iTup K (tVar 0)) (gName 1) tYes (tCall (sp_is_name K) [] E0 (tCons (tVar 1) tNil)) [1]) tNil)) (tOp rEq (tCB rLenDk (tCons (tDc (iTup K (tVar 0)) (gName 1) tYes (tVar 1) (tC (.bl true)) [1]) tNil)) (tCB (rLenSq K) (tCons (tVar 0) tNil))))))
def m_is_pile : MS :=
  (mSeq (mIfS (mOr (mNot (mTest (mIsi isTup (mVar 0)))) (mNot (mTest (mChain fLe fLe (mC (.int 1)) (mCB1 fLen (mVar 0)) (mC (.int 7))))))
    (mRet (mC (.bool false))) mNext)
    (mRet (mAndV (mCB1 fAll (mOf (mLc (iT (mVar 0)) (gN 1) mYes (mCall 1 F_is_name (mCons (mVar 1) mNil)) [1]))) (mOp fEq (mLenDF (mDc (iT (mVar 0)) (gN 1) mYes (mVar 1) (mC (.bool true)) [1])) (mCB1 fLen (mVar 0))))))
theorem rs_is_pile {K : PySem.W.Frag} : RS false false (t_is_pile K) (m_is_pile) := by
  unfold t_is_pile m_is_pile
  exact (rs_seq (rs_if (rt_or (rt_not (rt_B (re_isi kt_tuple (RE.q re_var)))) (rt_not (rt_test (re_chain o2_le o2_le (RE.q re_int) (RE.q (re_cb1 o1_len (RE.q re_var))) (RE.q re_int)))))
    (rs_ret re_bl) rs_next)
    (rs_ret (re_andV (re_cb1 o1_all (RE.q (RF.re (rf_lc (ri_tup (w := false) re_var) (rg_name (by decide)) rt_yes (re_call (fun h => h) (ra_cons re_var ra_nil)))))) (re_op o2_eq (RE.q (re_lenDF (rf_dc (ri_tup (w := false) re_var) (rg_name (by decide)) rt_yes re_var re_bl))) (RE.q (re_cb1 o1_len (RE.q re_var)))))))
def F_is_pile : FW := bodyW 1 m_is_pile
abbrev sp_is_pile (K : PySem.W.Frag) : Sp := spW false 1 F_is_pile
theorem sem_is_pile {K : PySem.W.Frag} {vs : List V} {H : Hp} {Q : VK} {E : XK} (h : sp_is_pile K vs H Q E) : t_is_pile K { nx := fun _ H' => Q .non H', rt := Q } (start N_is_pile vs) H := sem_W (by rfl) rs_is_pile h
abbrev N_is_want : List Str := ["thing"]
def t_is_want (K : PySem.W.Frag) : TS :=
  (tRet (tAndV (tCB (rIsi K) (tCons (tVar 0) (tCons (tC (.ty "tuple")) tNil))) (tAndV (tOp rEq (tCB (rLenSq K) (tCons (tVar 0) tNil)) (tC (.int 2))) (tAndV (tCall (sp_is_name K) [] E0 (tCons (tOp (rIxT K) (tVar 0) (tC (.int 0))) tNil)) (tCall (sp_is_within K) [] E0 (tCons (tOp (rIxT K) (tVar 0) (tC (.int 1))) (tCons (tC (.int 1)) (tCons (tC (.int 4)) tNil))))))))
def m_is_want : MS :=
  (mRet (mAndV (mIsi isTup (mVar 0)) (mAndV (mOp fEq (mCB1 fLen (mVar 0)) (mC (.int 2))) (mAndV (mCall 1 F_is_name (mCons (mOp fIxT (mVar 0) (mC (.int 0))) mNil)) (mCall 3 F_is_within (mCons (mOp fIxT (mVar 0) (mC (.int 1))) (mCons (mC (.int 1)) (mCons (mC (.int 4)) mNil))))))))
theorem rs_is_want {K : PySem.W.Frag} : RS false false (t_is_want K) (m_is_want) := by
  unfold t_is_want m_is_want
  exact (rs_ret (re_andV (re_isi kt_tuple (RE.q re_var)) (re_andV (re_op o2_eq (RE.q (re_cb1 o1_len (RE.q re_var))) (RE.q re_int)) (re_andV (re_call (fun h => h) (ra_cons (re_op o2_ixT (RE.q re_var) (RE.q re_int)) ra_nil)) (re_call (fun h => h) (ra_cons (re_op o2_ixT (RE.q re_var) (RE.q re_int)) (ra_cons re_int (ra_cons re_int ra_nil))))))))
def F_is_want : FW := bodyW 0 m_is_want
abbrev sp_is_want (K : PySem.W.Frag) : Sp := spW false 1 F_is_want
theorem sem_is_want {K : PySem.W.Frag} {vs : List V} {H : Hp} {Q : VK} {E : XK} (h : sp_is_want K vs H Q E) : t_is_want K { nx := fun _ H' => Q .non H', rt := Q } (start N_is_want vs) H := sem_W (by rfl) rs_is_want h
abbrev N_law_within : List Str := ["item", "low", "high"]
def t_law_within (K : PySem.W.Frag) : TS :=
  (tRet (tAndV (tCall (sp_law_whole K) [] E0 (tCons (tVar 0) tNil)) (tChain rLeI rLeI (tVar 1) (tVar 0) (tVar 2))))
def m_law_within : MS :=
  (mRet (mAndV (mCall 1 F_law_whole (mCons (mVar 0) mNil)) (mChain fLe fLe (mVar 1) (mVar 0) (mVar 2))))
theorem rs_law_within {K : PySem.W.Frag} : RS false false (t_law_within K) (m_law_within) := by
  unfold t_law_within m_law_within
  exact (rs_ret (re_andV (re_call (fun h => h) (ra_cons re_var ra_nil)) (re_chain o2_le o2_le (RE.q re_var) (RE.q re_var) (RE.q re_var))))
def F_law_within : FW := bodyW 0 m_law_within
abbrev sp_law_within (K : PySem.W.Frag) : Sp := spW false 3 F_law_within
theorem sem_law_within {K : PySem.W.Frag} {vs : List V} {H : Hp} {Q : VK} {E : XK} (h : sp_law_within K vs H Q E) : t_law_within K { nx := fun _ H' => Q .non H', rt := Q } (start N_law_within vs) H := sem_W (by rfl) rs_law_within h
abbrev N_law_any_order : List Str := ["tape", "many", "found", "k"]
def t_law_any_order (K : PySem.W.Frag) : TS :=
  (tSeq (tAsg (tLst tNil) (gName 2))
    (tSeq (tFor (iRng1 (tCons (tVar 1) tNil)) (gName 3)
    (tDrop (tBM K "list" rInsertL (tVar 2) (tCons (tCall (sp_law_draw K) [] E0 (tCons (tVar 0) (tCons (tOp rAddI (tVar 3) (tC (.int 1))) tNil))) (tCons (tVar 3) tNil)))))
    (tRet (tCB (rTupS K) (tCons (tVar 2) tNil)))))
def m_law_any_order : MS :=
  (mSeq (mSet 2 (xO (mLstF mNil)))
    (mSeq (mFor (iR (mVar 1)) (gN 3)
    (mIns 2 (mDraw 0 (mOp fAdd (mVar 3) (mC (.int 1)))) (mVar 3)))
    (mRet (mCB1 fTup (mVarQ 2)))))
theorem rs_law_any_order {K : PySem.W.Frag} : RS false false (t_law_any_order K) (m_law_any_order) := by
  unfold t_law_any_order m_law_any_order
  exact (rs_seq (rs_set (RF.x (rf_lst ra_nil)))
    (rs_seq (rs_for (vs := [3]) (ri_rng (w := false) re_var) (rg_name (by decide))
    (rs_ins (re_draw (re_op o2_add (RE.q re_var) (RE.q re_int))) re_var))
    (rs_ret (re_cb1 o1_tup rq_var))))
def F_law_any_order : FW := bodyT 2 m_law_any_order
abbrev sp_law_any_order (K : PySem.W.Frag) : Sp := spT 1 F_law_any_order
theorem sem_law_any_order {K : PySem.W.Frag} {vs : List V} {H : Hp} {Q : VK} {E : XK} (h : sp_law_any_order K vs H Q E) : t_law_any_order K { nx := fun _ H' => Q .non H', rt := Q } (start N_law_any_order vs) H := sem_T (by rfl) rs_law_any_order h
abbrev N_law_wants : List Str := ["tape", "books", "readers", "found", "left", "at", "book", "many"]
def t_law_wants (K : PySem.W.Frag) : TS :=
  (tSeq (tPar 3 4 (tCons (tLst tNil) (tCons (tVar 2) tNil)))
    (tSeq (tFor (iEnum K (tCons (tSl (rSlL K) (tCall (sp_law_books K) [] E0 tNil) tNoPart (tPart (tVar 1))) tNil)) (gTup K 2 (gCons (gName 5) (gCons (gName 6) gNil)))
    (tSeq (tAsg (tOp rAddI (tC (.int 1)) (tCall (sp_law_draw K) [] E0 (tCons (tVar 0) (tCons (tC (.int 4)) tNil)))) (gName 7))
    (tIfS (tAnd (tTest (tOp rGtI (tVar 4) (tC (.int 0)))) (tOr (tTest (tOp rGtI (tCall (sp_law_draw K) [] E0 (tCons (tVar 0) (tCons (tC (.int 4)) tNil))) (tC (.int 0)))) (tTest (tOp rEq (tVar 5) (tC (.int 0)))))) (tSeq (tDrop (tBM K "list" rAppend (tVar 3) (tCons (tTupS (tCons (tVar 6) (tCons (tCB rMin2I (tCons (tVar 7) (tCons (tVar 4) tNil))) tNil))) tNil)))
    (tAsg (tOp rSubI (tVar 4) (tOp (rIxT K) (tOp (rIxL K) (tVar 3) (tUn (rU fun i => .int (-i)) (tC (.int 1)))) (tC (.int 1)))) (gName 4))) tNext)))
    (tRet (tCB (rTupS K) (tCons (tVar 3) tNil)))))
def m_law_wants : MS :=
  (mSeq (mPar 3 4 (xO (mLstF mNil)) (xD (mVar 2)))
    (mSeq (mFor (iE (mOf (mSlL (mCall 0 F_law_books mNil) mNoPart (mPart (mVar 1))))) (gT 2 (gs1 (gN 5) (gs1 (gN 6) gs0)))
    (mSeq (mSet 7 (xD (mOp fAdd (mC (.int 1)) (mDraw 0 (mC (.int 4))))))
    (mIfS (mAnd (mTest (mOp fGt (mVar 4) (mC (.int 0)))) (mOr (mTest (mOp fGt (mDraw 0 (mC (.int 4))) (mC (.int 0)))) (mTest (mOp fEq (mVar 5) (mC (.int 0))))))
    (mSeq (mApp 3 (mTup (mCons (mVar 6) (mCons (mCB2 fMin2 (mVar 7) (mVar 4)) mNil))))
    (mSet 4 (xD (mOp fSub (mVar 4) (mOp fIxT (mOp fIxL (mVarQ 3) (mNeg (mC (.int 1)))) (mC (.int 1))))))) mNext)))
    (mRet (mCB1 fTup (mVarQ 3)))))
theorem rs_law_wants {K : PySem.W.Frag} : RS false false (t_law_wants K) (m_law_wants) := by
  unfold t_law_wants m_law_wants
  exact (rs_seq (rs_par' (RF.x (rf_lst ra_nil)) (RE.x re_var))
    (rs_seq (rs_for (vs := [5, 6]) (ri_enum (RF.re (rf_slL (RE.q (re_call (fun h => h) ra_nil)) ro_none (ro_some re_var)))) (rg_tup (rgs_cons (rg_name (by decide)) (rgs_cons (rg_name (by decide)) rgs_nil)))
    (rs_seq (rs_set (RE.x (re_op o2_add (RE.q re_int) (RE.q (re_draw re_int)))))
    (rs_if (rt_and (rt_test (re_op o2_gt (RE.q re_var) (RE.q re_int))) (rt_or (rt_test (re_op o2_gt (RE.q (re_draw re_int)) (RE.q re_int))) (rt_test (re_op o2_eq (RE.q re_var) (RE.q re_int)))))
    (rs_seq (rs_app (re_tup (ra_cons re_var (ra_cons (re_cb2 o2_min2 (RE.q re_var) (RE.q re_var)) ra_nil))))
    (rs_set (RE.x (re_op o2_sub (RE.q re_var) (RE.q (re_op o2_ixT (RE.q (re_op o2_ixL rq_var (RE.q (re_neg re_int)))) (RE.q re_int))))))) rs_next)))
    (rs_ret (re_cb1 o1_tup rq_var))))
def F_law_wants : FW := bodyT 5 m_law_wants
abbrev sp_law_wants (K : PySem.W.Frag) : Sp := spT 2 F_law_wants
theorem sem_law_wants {K : PySem.W.Frag} {vs : List V} {H : Hp} {Q : VK} {E : XK} (h : sp_law_wants K vs H Q E) : t_law_wants K { nx := fun _ H' => Q .non H', rt := Q } (start N_law_wants vs) H := sem_T (by rfl) rs_law_wants h
abbrev N_law_is_pile : List Str := ["item", "book"]
def t_law_is_pile (K : PySem.W.Frag) : TS :=
  (tSeq (tIfS (tOr (tNot (tB (tCB (rIsi K) (tCons (tVar 0) (tCons (tC (.ty "tuple")) tNil))))) (tNot (tTest (tChain rLeI rLeI (tC (.int 1)) (tCB (rLenSq K) (tCons (tVar 0) tNil)) (tC (.int 7)))))) (tRet (tC (.bl false))) tNext)
    (tRet (tAndV (tOp (rEqD K) (tLc (iTup K (tVar 0)) (gName 1) (tNot (tB (tCall (sp_law_is_name K) [] E0 (tCons (tVar 1) tNil)))) (tC (.int 1)) [1]) (tLst tNil)) (tOp rEq (tLenSetS K (tVar 0)) (tCB (rLenSq K) (tCons (tVar 0) tNil))))))
def m_law_is_pile : MS :=
  (mSeq (mIfS (mOr (mNot (mTest (mIsi isTup (mVar 0)))) (mNot (mTest (mChain fLe fLe (mC (.int 1)) (mCB1 fLen (mVar 0)) (mC (.int 7))))))
    (mRet (mC (.bool false))) mNext)
    (mRet (mAndV (mOp fEqD (mOf (mLc (iT (mVar 0)) (gN 1) (mNot (mTest (mCall 1 F_law_is_name (mCons (mVar 1) mNil)))) (mC (.int 1)) [1])) (mOf (mLstF mNil))) (mOp fEq (mLenSet (mVar 0)) (mCB1 fLen (mVar 0))))))
theorem rs_law_is_pile {K : PySem.W.Frag} : RS false false (t_law_is_pile K) (m_law_is_pile) := by
  unfold t_law_is_pile m_law_is_pile
  exact (rs_seq (rs_if (rt_or (rt_not (rt_B (re_isi kt_tuple (RE.q re_var)))) (rt_not (rt_test (re_chain o2_le o2_le (RE.q re_int) (RE.q (re_cb1 o1_len (RE.q re_var))) (RE.q re_int)))))
    (rs_ret re_bl) rs_next)
    (rs_ret (re_andV (re_op o2_eqD (RE.q (RF.re (rf_lc (ri_tup (w := false) re_var) (rg_name (by decide)) (rt_not (rt_B (re_call (fun h => h) (ra_cons re_var ra_nil)))) re_int))) (RE.q (RF.re (rf_lst ra_nil)))) (re_op o2_eq (RE.q (re_lenSet (RE.q re_var))) (RE.q (re_cb1 o1_len (RE.q re_var)))))))
def F_law_is_pile : FW := bodyW 1 m_law_is_pile
abbrev sp_law_is_pile (K : PySem.W.Frag) : Sp := spW false 1 F_law_is_pile
theorem sem_law_is_pile {K : PySem.W.Frag} {vs : List V} {H : Hp} {Q : VK} {E : XK} (h : sp_law_is_pile K vs H Q E) : t_law_is_pile K { nx := fun _ H' => Q .non H', rt := Q } (start N_law_is_pile vs) H := sem_W (by rfl) rs_law_is_pile h
abbrev N_are_wants : List Str := ["thing", "books", "book", "many", "one", "two", "part"]
def t_are_wants (K : PySem.W.Frag) : TS :=
  (tSeq (tIfS (tOr (tNot (tB (tCB (rIsi K) (tCons (tVar 0) (tCons (tC (.ty "tuple")) tNil))))) (tOr (tNot (tTest (tChain rLeI rLeI (tC (.int 1)) (tCB (rLenSq K) (tCons (tVar 0) tNil)) (tC (.int 5))))) (tNot (tB (tCB (rAll K) (tCons (tLc (iTup K (tVar 0)) (gName 6) tYes (tCall (sp_is_want K) [] E0 (tCons (tVar 6) tNil)) [6]) tNil)))))) (tRet (tC (.bl false))) tNext)
    (tSeq (tAsg (tLc (iTup K (tVar 0)) (gTup K 2 (gCons (gName 2) (gCons (gName 3) gNil))) tYes (tVar 2) [2, 3]) (gName 1))
    (tSeq (tIfS (tNot (tB (tCB (rAll K) (tCons (tLc (iZip K (tCons (tVar 1) (tCons (tSl (rSlL K) (tVar 1) (tPart (tC (.int 1))) tNoPart) tNil))) (gTup K 2 (gCons (gName 4) (gCons (gName 5) gNil))) tYes (tOp rLtS (tVar 4) (tVar 5)) [4, 5]) tNil)))) (tRet (tC (.bl false))) tNext)
    (tRet (tOp rLeI (tCB (rSum K) (tCons (tLc (iTup K (tVar 0)) (gTup K 2 (gCons (gName 2) (gCons (gName 3) gNil))) tYes (tVar 3) [2, 3]) tNil)) (tC (.int 7)))))))
def m_are_wants : MS :=
  (mSeq (mIfS (mOr (mNot (mTest (mIsi isTup (mVar 0)))) (mOr (mNot (mTest (mChain fLe fLe (mC (.int 1)) (mCB1 fLen (mVar 0)) (mC (.int 5))))) (mNot (mTest (mCB1 fAll (mOf (mLc (iT (mVar 0)) (gN 6) mYes (mCall 1 F_is_want (mCons (mVar 6) mNil)) [6])))))))
    (mRet (mC (.bool false))) mNext)
    (mSeq (mSet 1 (xD (mOf (mLc (iT (mVar 0)) (gT 2 (gs1 (gN 2) (gs1 (gN 3) gs0))) mYes (mVar 2) [2, 3]))))
    (mSeq (mIfS (mNot (mTest (mCB1 fAll (mOf (mLc (iZ (mVar 1) (mOf (mSlL (mVar 1) (mPart (mC (.int 1))) mNoPart))) (gT 2 (gs1 (gN 4) (gs1 (gN 5) gs0))) mYes (mOp fLtS (mVar 4) (mVar 5)) [4, 5])))))
    (mRet (mC (.bool false))) mNext)
    (mRet (mOp fLe (mCB1 fSum (mOf (mLc (iT (mVar 0)) (gT 2 (gs1 (gN 2) (gs1 (gN 3) gs0))) mYes (mVar 3) [2, 3]))) (mC (.int 7)))))))
theorem rs_are_wants {K : PySem.W.Frag} : RS false false (t_are_wants K) (m_are_wants) := by
  unfold t_are_wants m_are_wants
  exact (rs_seq (rs_if (rt_or (rt_not (rt_B (re_isi kt_tuple (RE.q re_var)))) (rt_or (rt_not (rt_test (re_chain o2_le o2_le (RE.q re_int) (RE.q (re_cb1 o1_len (RE.q re_var))) (RE.q re_int)))) (rt_not (rt_B (re_cb1 o1_all (RE.q (RF.re (rf_lc (ri_tup (w := false) re_var) (rg_name (by decide)) rt_yes (re_call (fun h => h) (ra_cons re_var ra_nil))))))))))
    (rs_ret re_bl) rs_next)
    (rs_seq (rs_set (RE.x (RF.re (rf_lc (ri_tup (w := false) re_var) (rg_tup (rgs_cons (rg_name (by decide)) (rgs_cons (rg_name (by decide)) rgs_nil))) rt_yes re_var))))
    (rs_seq (rs_if (rt_not (rt_B (re_cb1 o1_all (RE.q (RF.re (rf_lc (ri_zip re_var (RF.re (rf_slL (RE.q re_var) (ro_some re_int) ro_none))) (rg_tup (rgs_cons (rg_name (by decide)) (rgs_cons (rg_name (by decide)) rgs_nil))) rt_yes (re_op o2_ltS (RE.q re_var) (RE.q re_var))))))))
    (rs_ret re_bl) rs_next)
    (rs_ret (re_op o2_le (RE.q (re_cb1 o1_sum (RE.q (RF.re (rf_lc (ri_tup (w := false) re_var) (rg_tup (rgs_cons (rg_name (by decide)) (rgs_cons (rg_name (by decide)) rgs_nil))) rt_yes re_var))))) (RE.q re_int))))))
def F_are_wants : FW := bodyW 6 m_are_wants
abbrev sp_are_wants (K : PySem.W.Frag) : Sp := spW false 1 F_are_wants
theorem sem_are_wants {K : PySem.W.Frag} {vs : List V} {H : Hp} {Q : VK} {E : XK} (h : sp_are_wants K vs H Q E) : t_are_wants K { nx := fun _ H' => Q .non H', rt := Q } (start N_are_wants vs) H := sem_W (by rfl) rs_are_wants h
abbrev N_law_pile : List Str := ["tape", "size", "some", "at"]
def t_law_pile (K : PySem.W.Frag) : TS :=
  (tSeq (tAsg (tSl (rSlL K) (tCall (sp_law_books K) [] E0 tNil) tNoPart (tPart (tOp rAddI (tC (.int 1)) (tCall (sp_law_draw K) [] E0 (tCons (tVar 0) (tCons (tVar 1) tNil)))))) (gName 2))
    (tRet (tCB (rTupS K) (tCons (tLc (iTup K (tCall (sp_law_any_order K) [] E0 (tCons (tVar 0) (tCons (tCB (rLenSq K) (tCons (tVar 2) tNil)) tNil)))) (gName 3) tYes (tOp (rIxL K) (tVar 2) (tVar 3)) [3]) tNil))))
def m_law_pile : MS :=
  (mSeq (mSet 2 (xD (mOf (mSlL (mCall 0 F_law_books mNil) mNoPart (mPart (mOp fAdd (mC (.int 1)) (mDraw 0 (mVar 1))))))))
    (mRet (mCB1 fTup (mOf (mLc (iT (mCallT 0 1 F_law_any_order (mCons (mCB1 fLen (mVar 2)) mNil))) (gN 3) mYes (mOp fIxL (mVar 2) (mVar 3)) [3])))))
theorem rs_law_pile {K : PySem.W.Frag} : RS false false (t_law_pile K) (m_law_pile) := by
  unfold t_law_pile m_law_pile
  exact (rs_seq (rs_set (RE.x (RF.re (rf_slL (RE.q (re_call (fun h => h) ra_nil)) ro_none (ro_some (re_op o2_add (RE.q re_int) (RE.q (re_draw re_var))))))))
    (rs_ret (re_cb1 o1_tup (RE.q (RF.re (rf_lc (ri_tup (w := false) (re_callT (ra_cons (re_cb1 o1_len (RE.q re_var)) ra_nil))) (rg_name (by decide)) rt_yes (re_op o2_ixL (RE.q re_var) (RE.q re_var))))))))
def F_law_pile : FW := bodyT 2 m_law_pile
abbrev sp_law_pile (K : PySem.W.Frag) : Sp := spT 1 F_law_pile
theorem sem_law_pile {K : PySem.W.Frag} {vs : List V} {H : Hp} {Q : VK} {E : XK} (h : sp_law_pile K vs H Q E) : t_law_pile K { nx := fun _ H' => Q .non H', rt := Q } (start N_law_pile vs) H := sem_T (by rfl) rs_law_pile h
abbrev N_law_are_wants : List Str := ["item", "one"]
def t_law_are_wants (K : PySem.W.Frag) : TS :=
  (tSeq (tIfS (tOr (tNot (tB (tCB (rIsi K) (tCons (tVar 0) (tCons (tC (.ty "tuple")) tNil))))) (tNot (tTest (tChain rLeI rLeI (tC (.int 1)) (tCB (rLenSq K) (tCons (tVar 0) tNil)) (tC (.int 5)))))) (tRet (tC (.bl false))) tNext)
    (tSeq (tFor (iTup K (tVar 0)) (gName 1)
    (tIfS (tOr (tNot (tB (tCB (rIsi K) (tCons (tVar 1) (tCons (tC (.ty "tuple")) tNil))))) (tOr (tTest (tOp rNe (tCB (rLenSq K) (tCons (tVar 1) tNil)) (tC (.int 2)))) (tOr (tNot (tB (tCall (sp_law_is_name K) [] E0 (tCons (tOp (rIx K) (tVar 1) (tC (.int 0))) tNil)))) (tNot (tB (tCall (sp_law_within K) [] E0 (tCons (tOp (rIx K) (tVar 1) (tC (.int 1))) (tCons (tC (.int 1)) (tCons (tC (.int 4)) tNil))))))))) (tRet (tC (.bl false))) tNext))
    (tRet (tAndV (tCall (sp_law_rises K) [] E0 (tCons (tLc (iTup K (tVar 0)) (gName 1) tYes (tOp (rIx K) (tVar 1) (tC (.int 0))) [1]) tNil)) (tOp rLeI (tCB (rSum K) (tCons (tLc (iTup K (tVar 0)) (gName 1) tYes (tOp (rIx K) (tVar 1) (tC (.int 1))) [1]) tNil)) (tC (.int 7)))))))
def m_law_are_wants : MS :=
  (mSeq (mIfS (mOr (mNot (mTest (mIsi isTup (mVar 0)))) (mNot (mTest (mChain fLe fLe (mC (.int 1)) (mCB1 fLen (mVar 0)) (mC (.int 5))))))
    (mRet (mC (.bool false))) mNext)
    (mSeq (mFor (iT (mVar 0)) (gN 1)
    (mIfS (mOr (mNot (mTest (mIsi isTup (mVar 1)))) (mOr (mTest (mOp fNe (mCB1 fLen (mVar 1)) (mC (.int 2)))) (mOr (mNot (mTest (mCall 1 F_law_is_name (mCons (mOp fIxA (mVar 1) (mC (.int 0))) mNil)))) (mNot (mTest (mCall 3 F_law_within (mCons (mOp fIxA (mVar 1) (mC (.int 1))) (mCons (mC (.int 1)) (mCons (mC (.int 4)) mNil)))))))))
    (mRet (mC (.bool false))) mNext))
    (mRet (mAndV (mCall 1 F_law_rises (mCons (mOf (mLc (iT (mVar 0)) (gN 1) mYes (mOp fIxA (mVar 1) (mC (.int 0))) [1])) mNil)) (mOp fLe (mCB1 fSum (mOf (mLc (iT (mVar 0)) (gN 1) mYes (mOp fIxA (mVar 1) (mC (.int 1))) [1]))) (mC (.int 7)))))))
theorem rs_law_are_wants {K : PySem.W.Frag} : RS false false (t_law_are_wants K) (m_law_are_wants) := by
  unfold t_law_are_wants m_law_are_wants
  exact (rs_seq (rs_if (rt_or (rt_not (rt_B (re_isi kt_tuple (RE.q re_var)))) (rt_not (rt_test (re_chain o2_le o2_le (RE.q re_int) (RE.q (re_cb1 o1_len (RE.q re_var))) (RE.q re_int)))))
    (rs_ret re_bl) rs_next)
    (rs_seq (rs_for (vs := [1]) (ri_tup (w := false) re_var) (rg_name (by decide))
    (rs_if (rt_or (rt_not (rt_B (re_isi kt_tuple (RE.q re_var)))) (rt_or (rt_test (re_op o2_ne (RE.q (re_cb1 o1_len (RE.q re_var))) (RE.q re_int))) (rt_or (rt_not (rt_B (re_call (fun h => h) (ra_cons (re_op o2_ixA (RE.q re_var) (RE.q re_int)) ra_nil)))) (rt_not (rt_B (re_call (fun h => h) (ra_cons (re_op o2_ixA (RE.q re_var) (RE.q re_int)) (ra_cons re_int (ra_cons re_int ra_nil)))))))))
    (rs_ret re_bl) rs_next))
    (rs_ret (re_andV (re_call (fun h => h) (ra_cons (RF.re (rf_lc (ri_tup (w := false) re_var) (rg_name (by decide)) rt_yes (re_op o2_ixA (RE.q re_var) (RE.q re_int)))) ra_nil)) (re_op o2_le (RE.q (re_cb1 o1_sum (RE.q (RF.re (rf_lc (ri_tup (w := false) re_var) (rg_name (by decide)) rt_yes (re_op o2_ixA (RE.q re_var) (RE.q re_int))))))) (RE.q re_int))))))
def F_law_are_wants : FW := bodyW 1 m_law_are_wants
abbrev sp_law_are_wants (K : PySem.W.Frag) : Sp := spW false 1 F_law_are_wants
theorem sem_law_are_wants {K : PySem.W.Frag} {vs : List V} {H : Hp} {Q : VK} {E : XK} (h : sp_law_are_wants K vs H Q E) : t_law_are_wants K { nx := fun _ H' => Q .non H', rt := Q } (start N_law_are_wants vs) H := sem_W (by rfl) rs_law_are_wants h
abbrev N_law_like : List Str := ["one", "two", "k"]
def t_law_like (Fs : FW) (K : PySem.W.Frag) : TS :=
  (tSeq (tIfS (tB (tCB (rIsiT K) (tCons (tVar 0) (tCons (tTup (tCons (tC (.ty "list")) (tCons (tC (.ty "tuple")) tNil))) tNil)))) (tSeq (tIfS (tOr (tTest (tOp rNe (tCB (rIsi K) (tCons (tVar 0) (tCons (tC (.ty "list")) tNil))) (tCB (rIsi K) (tCons (tVar 1) (tCons (tC (.ty "list")) tNil))))) (tTest (tOp rNe (tCB (rIsi K) (tCons (tVar 0) (tCons (tC (.ty "tuple")) tNil))) (tCB (rIsi K) (tCons (tVar 1) (tCons (tC (.ty "tuple")) tNil)))))) (tRet (tC (.bl false))) tNext)
    (tSeq (tIfS (tTest (tOp rNe (tCB (rLenSq K) (tCons (tVar 0) tNil)) (tCB (rLenSq K) (tCons (tVar 1) tNil)))) (tRet (tC (.bl false))) tNext)
    (tRet (tOp (rEqD K) (tLc (iRng1 (tCons (tCB (rLenSq K) (tCons (tVar 0) tNil)) tNil)) (gName 2) (tNot (tB (tCall (spW false 2 Fs) [] E0 (tCons (tOp (rIx K) (tVar 0) (tVar 2)) (tCons (tOp (rIx K) (tVar 1) (tVar 2)) tNil))))) (tVar 2) [2]) (tLst tNil))))) tNext)
    (tSeq (tIfS (tB (tCB (rIsiT K) (tCons (tVar 1) (tCons (tTup (tCons (tC (.ty "list")) (tCons (tC (.ty "tuple")) tNil))) tNil)))) (tRet (tC (.bl false))) tNext)
    (tRet (tAndV (tOp rEq (tCB (rIsi K) (tCons (tVar 0) (tCons (tC (.ty "bool")) tNil))) (tCB (rIsi K) (tCons (tVar 1) (tCons (tC (.ty "bool")) tNil)))) (tOp (rEqD K) (tVar 0) (tVar 1))))))
def m_law_like (Fs : FW) : MS :=
  (mSeq (mIfS (mTest (mIsi2 isList isTup (mVar 0)))
    (mSeq (mIfS (mOr (mTest (mOp fNe (mIsi isList (mVar 0)) (mIsi isList (mVar 1)))) (mTest (mOp fNe (mIsi isTup (mVar 0)) (mIsi isTup (mVar 1)))))
    (mRet (mC (.bool false))) mNext)
    (mSeq (mIfS (mTest (mOp fNe (mCB1 fLen (mVar 0)) (mCB1 fLen (mVar 1))))
    (mRet (mC (.bool false))) mNext)
    (mRet (mOp fEqD (mOf (mLc (iR (mCB1 fLen (mVar 0))) (gN 2) (mNot (mTest (mCall 2 Fs (mCons (mOp fIxA (mVar 0) (mVar 2)) (mCons (mOp fIxA (mVar 1) (mVar 2)) mNil))))) (mVar 2) [2])) (mOf (mLstF mNil)))))) mNext)
    (mSeq (mIfS (mTest (mIsi2 isList isTup (mVar 1)))
    (mRet (mC (.bool false))) mNext)
    (mRet (mAndV (mOp fEq (mIsi isBool (mVar 0)) (mIsi isBool (mVar 1))) (mOp fEqD (mVar 0) (mVar 1))))))
theorem rs_law_like {K : PySem.W.Frag} (Fs : FW) : RS false false (t_law_like Fs K) (m_law_like Fs) := by
  unfold t_law_like m_law_like
  exact (rs_seq (rs_if (rt_B (re_isi2 kt_list kt_tuple (RE.q re_var)))
    (rs_seq (rs_if (rt_or (rt_test (re_op o2_ne (RE.q (re_isi kt_list (RE.q re_var))) (RE.q (re_isi kt_list (RE.q re_var))))) (rt_test (re_op o2_ne (RE.q (re_isi kt_tuple (RE.q re_var))) (RE.q (re_isi kt_tuple (RE.q re_var))))))
    (rs_ret re_bl) rs_next)
    (rs_seq (rs_if (rt_test (re_op o2_ne (RE.q (re_cb1 o1_len (RE.q re_var))) (RE.q (re_cb1 o1_len (RE.q re_var)))))
    (rs_ret re_bl) rs_next)
    (rs_ret (re_op o2_eqD (RE.q (RF.re (rf_lc (ri_rng (w := false) (re_cb1 o1_len (RE.q re_var))) (rg_name (by decide)) (rt_not (rt_B (re_call (fun h => h) (ra_cons (re_op o2_ixA (RE.q re_var) (RE.q re_var)) (ra_cons (re_op o2_ixA (RE.q re_var) (RE.q re_var)) ra_nil))))) re_var))) (RE.q (RF.re (rf_lst ra_nil))))))) rs_next)
    (rs_seq (rs_if (rt_B (re_isi2 kt_list kt_tuple (RE.q re_var)))
    (rs_ret re_bl) rs_next)
    (rs_ret (re_andV (re_op o2_eq (RE.q (re_isi kt_bool (RE.q re_var))) (RE.q (re_isi kt_bool (RE.q re_var)))) (re_op o2_eqD (RE.q re_var) (RE.q re_var))))))
def F_law_like : Nat → FW
  | 0 => fun _ _ => False
  | n + 1 => bodyW 1 (m_law_like (F_law_like n))
abbrev sp_law_like (n : Nat) (K : PySem.W.Frag) : Sp := spW false 2 (F_law_like n)
theorem sem_law_like {n : Nat} {K : PySem.W.Frag} {vs : List V} {H : Hp} {Q : VK} {E : XK} (h : sp_law_like (n + 1) K vs H Q E) : t_law_like (F_law_like n) K { nx := fun _ H' => Q .non H', rt := Q } (start N_law_like vs) H := sem_W (by rfl) (rs_law_like (F_law_like n)) h
abbrev N_law_any : List Str := ["tape", "deep", "course", "some", "k"]
def t_law_any (Fs : FW) (K : PySem.W.Frag) : TS :=
  (tSeq (tAsg (tCall (sp_law_draw K) [] E0 (tCons (tVar 0) (tCons (tC (.int 13)) tNil))) (gName 2))
    (tSeq (tIfS (tAnd (tTest (tOp rLtI (tVar 2) (tC (.int 4)))) (tTest (tOp rGtI (tVar 1) (tC (.int 0))))) (tSeq (tAsg (tLc (iRng1 (tCons (tCall (sp_law_draw K) [] E0 (tCons (tVar 0) (tCons (tC (.int 4)) tNil))) tNil)) (gName 4) tYes (tCall (spT 1 Fs) [] E0 (tCons (tVar 0) (tCons (tOp rSubI (tVar 1) (tC (.int 1))) tNil))) [4]) (gName 3))
    (tRet (tOp (rIxL K) (tLst (tCons (tVar 3) (tCons (tCB (rTupS K) (tCons (tVar 3) tNil)) (tCons (tCB (rTupS K) (tCons (tVar 3) tNil)) (tCons (tCB (rTupS K) (tCons (tVar 3) tNil)) tNil))))) (tVar 2)))) tNext)
    (tSeq (tIfS (tTest (tOp rLtI (tVar 2) (tC (.int 8)))) (tRet (tOp (rIxL K) (tLst (tCons (tOp rSubI (tCall (sp_law_draw K) [] E0 (tCons (tVar 0) (tCons (tC (.int 12)) tNil))) (tC (.int 2))) (tCons (tCall (sp_law_draw K) [] E0 (tCons (tVar 0) (tCons (tOp rPowI (tC (.int 10)) (tC (.int 12))) tNil))) (tCons (tC (.int 0)) (tCons (tC (.int 7)) tNil))))) (tCB rMax2I (tCons (tC (.int 0)) (tCons (tOp rSubI (tVar 2) (tC (.int 4))) tNil))))) tNext)
    (tSeq (tAsg (tLst (tCons (tC (.str ("" : Str))) (tCons (tC (.str (" " : Str))) (tCons (tC (.str ("a" : Str))) (tCons (tC (.str ("atlas" : Str))) (tCons (tC (.str ("1" : Str))) (tCons (tC (.str ("A" : Str))) (tCons (tC (.str ("a\nb" : Str))) tNil)))))))) (gName 3))
    (tRet (tOp (rIxL K) (tLst (tCons (tC (.bl true)) (tCons (tC (.bl false)) (tCons (tC .non) (tCons (tOp (rIxL K) (tVar 3) (tCall (sp_law_draw K) [] E0 (tCons (tVar 0) (tCons (tC (.int 7)) tNil)))) (tCons (tTupS (tCons (tC (.int 1)) (tCons (tC (.int 2)) tNil))) tNil)))))) (tOp rSubI (tVar 2) (tC (.int 8)))))))))
def m_law_any (Fs : FW) : MS :=
  (mSeq (mSet 2 (xD (mDraw 0 (mC (.int 13)))))
    (mSeq (mIfS (mAnd (mTest (mOp fLt (mVar 2) (mC (.int 4)))) (mTest (mOp fGt (mVar 1) (mC (.int 0)))))
    (mSeq (mSet 3 (xD (mOf (mLc (iR (mDraw 0 (mC (.int 4)))) (gN 4) mYes (mCallT 0 1 Fs (mCons (mOp fSub (mVar 1) (mC (.int 1))) mNil)) [4]))))
    (mRet (mOp fIxL (mOf (mLstF (mCons (mVar 3) (mCons (mCB1 fTup (mVar 3)) (mCons (mCB1 fTup (mVar 3)) (mCons (mCB1 fTup (mVar 3)) mNil)))))) (mVar 2)))) mNext)
    (mSeq (mIfS (mTest (mOp fLt (mVar 2) (mC (.int 8))))
    (mRet (mOp fIxL (mOf (mLstF (mCons (mOp fSub (mDraw 0 (mC (.int 12))) (mC (.int 2))) (mCons (mDraw 0 (mOp fPow (mC (.int 10)) (mC (.int 12)))) (mCons (mC (.int 0)) (mCons (mC (.int 7)) mNil)))))) (mCB2 fMax2 (mC (.int 0)) (mOp fSub (mVar 2) (mC (.int 4)))))) mNext)
    (mSeq (mSet 3 (xD (mOf (mLstF (mCons (mC (.str ("" : Str))) (mCons (mC (.str (" " : Str))) (mCons (mC (.str ("a" : Str))) (mCons (mC (.str ("atlas" : Str))) (mCons (mC (.str ("1" : Str))) (mCons (mC (.str ("A" : Str))) (mCons (mC (.str ("a\nb" : Str))) mNil)))))))))))
    (mRet (mOp fIxL (mOf (mLstF (mCons (mC (.bool true)) (mCons (mC (.bool false)) (mCons (mC .none) (mCons (mOp fIxL (mVar 3) (mDraw 0 (mC (.int 7)))) (mCons (mTup (mCons (mC (.int 1)) (mCons (mC (.int 2)) mNil))) mNil))))))) (mOp fSub (mVar 2) (mC (.int 8)))))))))
theorem rs_law_any {K : PySem.W.Frag} (Fs : FW) : RS false false (t_law_any Fs K) (m_law_any Fs) := by
  unfold t_law_any m_law_any
  exact (rs_seq (rs_set (RE.x (re_draw re_int)))
    (rs_seq (rs_if (rt_and (rt_test (re_op o2_lt (RE.q re_var) (RE.q re_int))) (rt_test (re_op o2_gt (RE.q re_var) (RE.q re_int))))
    (rs_seq (rs_set (RE.x (RF.re (rf_lc (ri_rng (w := false) (re_draw re_int)) (rg_name (by decide)) rt_yes (re_callT (ra_cons (re_op o2_sub (RE.q re_var) (RE.q re_int)) ra_nil))))))
    (rs_ret (re_op o2_ixL (RE.q (RF.re (rf_lst (ra_cons re_var (ra_cons (re_cb1 o1_tup (RE.q re_var)) (ra_cons (re_cb1 o1_tup (RE.q re_var)) (ra_cons (re_cb1 o1_tup (RE.q re_var)) ra_nil))))))) (RE.q re_var)))) rs_next)
    (rs_seq (rs_if (rt_test (re_op o2_lt (RE.q re_var) (RE.q re_int)))
    (rs_ret (re_op o2_ixL (RE.q (RF.re (rf_lst (ra_cons (re_op o2_sub (RE.q (re_draw re_int)) (RE.q re_int)) (ra_cons (re_draw (re_op o2_pow (RE.q re_int) (RE.q re_int))) (ra_cons re_int (ra_cons re_int ra_nil))))))) (RE.q (re_cb2 o2_max2 (RE.q re_int) (RE.q (re_op o2_sub (RE.q re_var) (RE.q re_int))))))) rs_next)
    (rs_seq (rs_set (RE.x (RF.re (rf_lst (ra_cons re_str (ra_cons re_str (ra_cons re_str (ra_cons re_str (ra_cons re_str (ra_cons re_str (ra_cons re_str ra_nil)))))))))))
    (rs_ret (re_op o2_ixL (RE.q (RF.re (rf_lst (ra_cons re_bl (ra_cons re_bl (ra_cons re_non (ra_cons (re_op o2_ixL (RE.q re_var) (RE.q (re_draw re_int))) (ra_cons (re_tup (ra_cons re_int (ra_cons re_int ra_nil))) ra_nil)))))))) (RE.q (re_op o2_sub (RE.q re_var) (RE.q re_int)))))))))
def F_law_any : Nat → FW
  | 0 => fun _ _ => False
  | n + 1 => bodyT 3 (m_law_any (F_law_any n))
abbrev sp_law_any (n : Nat) (K : PySem.W.Frag) : Sp := spT 1 (F_law_any n)
theorem sem_law_any {n : Nat} {K : PySem.W.Frag} {vs : List V} {H : Hp} {Q : VK} {E : XK} (h : sp_law_any (n + 1) K vs H Q E) : t_law_any (F_law_any n) K { nx := fun _ H' => Q .non H', rt := Q } (start N_law_any vs) H := sem_T (by rfl) (rs_law_any (F_law_any n)) h
abbrev N_law_spoilt : List Str := ["tape", "item", "k", "rest", "course", "at"]
def t_law_spoilt (Fs : FW) (K : PySem.W.Frag) : TS :=
  (tSeq (tIfS (tAnd (tB (tCB (rIsiT K) (tCons (tVar 1) (tCons (tTup (tCons (tC (.ty "tuple")) (tCons (tC (.ty "list")) tNil))) tNil)))) (tAnd (tTest (tOp rGtI (tCB (rLenSq K) (tCons (tVar 1) tNil)) (tC (.int 0)))) (tTest (tOp rGtI (tCall (sp_law_draw K) [] E0 (tCons (tVar 0) (tCons (tC (.int 7)) tNil))) (tC (.int 0)))))) (tSeq (tAsg (tCall (sp_law_draw K) [] E0 (tCons (tVar 0) (tCons (tCB (rLenSq K) (tCons (tVar 1) tNil)) tNil))) (gName 2))
    (tSeq (tAsg (tCB (rListOf K) (tCons (tVar 1) tNil)) (gName 3))
    (tSeq (tAsg (tCall (sp_law_draw K) [] E0 (tCons (tVar 0) (tCons (tC (.int 12)) tNil))) (gName 4))
    (Evl.tCut (tIfS (tTest (tOp rLtI (tVar 4) (tC (.int 8)))) (tAsg (tCall (spT 1 Fs) [] E0 (tCons (tVar 0) (tCons (tOp (rIxL K) (tVar 3) (tVar 2)) tNil))) (gSub (tVar 3) (tVar 2) rSetL)) (tIfS (tTest (tOp rEq (tVar 4) (tC (.int 8)))) (tDrop (tBM K "list" rPopAt (tVar 3) (tCons (tVar 2) tNil))) (tIfS (tTest (tOp rEq (tVar 4) (tC (.int 9)))) (tDrop (tBM K "list" rInsertL (tVar 3) (tCons (tVar 2) (tCons (tOp (rIxL K) (tVar 3) (tCall (sp_law_draw K) [] E0 (tCons (tVar 0) (tCons (tCB (rLenSq K) (tCons (tVar 3) tNil)) tNil)))) tNil)))) (tIfS (tTest (tOp rEq (tVar 4) (tC (.int 10)))) (tAsg (tRevL K (tVar 3)) (gName 3)) (tDrop (tBM K "list" rInsertL (tVar 3) (tCons (tVar 2) (tCons (tCall (sp_law_any 5 K) [] E0 (tCons (tVar 0) (tCons (tC (.int 1)) tNil))) tNil))))))))
    (tRet (tIf (tB (tCB (rIsi K) (tCons (tVar 1) (tCons (tC (.ty "tuple")) tNil)))) (tCB (rTupS K) (tCons (tVar 3) tNil)) (tVar 3))))))) tNext)
    (tSeq (tIfS (tAnd (tB (tCall (sp_law_whole K) [] E0 (tCons (tVar 1) tNil))) (tTest (tOp rGtI (tCall (sp_law_draw K) [] E0 (tCons (tVar 0) (tCons (tC (.int 6)) tNil))) (tC (.int 0))))) (tRet (tOp rAddI (tVar 1) (tOp (rIxL K) (tLst (tCons (tC (.int 1)) (tCons (tUn (rU fun i => .int (-i)) (tC (.int 1))) (tCons (tC (.int 2)) (tCons (tUn (rU fun i => .int (-i)) (tC (.int 2))) (tCons (tC (.int 9)) (tCons (tC (.int 1000)) tNil))))))) (tCall (sp_law_draw K) [] E0 (tCons (tVar 0) (tCons (tC (.int 6)) tNil)))))) tNext)
    (tSeq (tIfS (tAnd (tB (tCB (rIsi K) (tCons (tVar 1) (tCons (tC (.ty "str")) tNil)))) (tTest (tOp rGtI (tCall (sp_law_draw K) [] E0 (tCons (tVar 0) (tCons (tC (.int 3)) tNil))) (tC (.int 0))))) (tSeq (tAsg (tCall (sp_law_draw K) [] E0 (tCons (tVar 0) (tCons (tOp rAddI (tCB rLenSt (tCons (tVar 1) tNil)) (tC (.int 1))) tNil))) (gName 5))
    (tRet (tOp rAddSt (tOp rAddSt (tSl rSlS (tVar 1) tNoPart (tPart (tVar 5))) (tOp (rIxL K) (tLst (tCons (tC (.str (" " : Str))) (tCons (tC (.str ("z" : Str))) (tCons (tC (.str ("A" : Str))) (tCons (tC (.str ("|" : Str))) (tCons (tC (.str ("abcdefgh" : Str))) (tCons (tC (.str ("" : Str))) tNil))))))) (tCall (sp_law_draw K) [] E0 (tCons (tVar 0) (tCons (tC (.int 6)) tNil))))) (tSl rSlS (tVar 1) (tPart (tVar 5)) tNoPart)))) tNext)
    (tSeq (tIfS (tAnd (tB (tCB (rIsiT K) (tCons (tVar 1) (tCons (tTup (tCons (tC (.ty "tuple")) (tCons (tC (.ty "list")) tNil))) tNil)))) (tTest (tOp rEq (tCall (sp_law_draw K) [] E0 (tCons (tVar 0) (tCons (tC (.int 2)) tNil))) (tC (.int 0))))) (tRet (tIf (tB (tCB (rIsi K) (tCons (tVar 1) (tCons (tC (.ty "tuple")) tNil)))) (tCB (rListOf K) (tCons (tVar 1) tNil)) (tCB (rTupS K) (tCons (tVar 1) tNil)))) tNext)
    (tRet (tCall (sp_law_any 5 K) [] E0 (tCons (tVar 0) (tCons (tC (.int 2)) tNil))))))))
def m_law_spoilt (Fs : FW) : MS :=
  (mSeq (mIfS (mAnd (mTest (mIsi2 isTup isList (mVar 1))) (mAnd (mTest (mOp fGt (mCB1 fLen (mVar 1)) (mC (.int 0)))) (mTest (mOp fGt (mDraw 0 (mC (.int 7))) (mC (.int 0))))))
    (mSeq (mSet 2 (xD (mDraw 0 (mCB1 fLen (mVar 1)))))
    (mSeq (mSet 3 (xO (mListOf (mVar 1))))
    (mSeq (mSet 4 (xD (mDraw 0 (mC (.int 12)))))
    (mCut (mIfS (mTest (mOp fLt (mVar 4) (mC (.int 8))))
    (mSetI 3 (mVar 2) (mCallT 0 1 Fs (mCons (mOp fIxL (mVarQ 3) (mVar 2)) mNil))) (mIfS (mTest (mOp fEq (mVar 4) (mC (.int 8))))
    (mPop 3 (mVar 2)) (mIfS (mTest (mOp fEq (mVar 4) (mC (.int 9))))
    (mIns 3 (mVar 2) (mOp fIxL (mVarQ 3) (mDraw 0 (mCB1 fLen (mVarQ 3))))) (mIfS (mTest (mOp fEq (mVar 4) (mC (.int 10))))
    (mSet 3 (xO (mRevL (mVarQ 3)))) (mIns 3 (mVar 2) (mCallT 0 1 (F_law_any 5) (mCons (mC (.int 1)) mNil)))))))
    (mShare 3 (mRet (mIfE (mTest (mIsi isTup (mVar 1))) (mCB1 fTup (mVarQ 3)) (mVar 3)))))))) mNext)
    (mSeq (mIfS (mAnd (mTest (mCall 1 F_law_whole (mCons (mVar 1) mNil))) (mTest (mOp fGt (mDraw 0 (mC (.int 6))) (mC (.int 0)))))
    (mRet (mOp fAdd (mVar 1) (mOp fIxL (mOf (mLstF (mCons (mC (.int 1)) (mCons (mNeg (mC (.int 1))) (mCons (mC (.int 2)) (mCons (mNeg (mC (.int 2))) (mCons (mC (.int 9)) (mCons (mC (.int 1000)) mNil)))))))) (mDraw 0 (mC (.int 6)))))) mNext)
    (mSeq (mIfS (mAnd (mTest (mIsi isStr (mVar 1))) (mTest (mOp fGt (mDraw 0 (mC (.int 3))) (mC (.int 0)))))
    (mSeq (mSet 5 (xD (mDraw 0 (mOp fAdd (mCB1 fLenS (mVar 1)) (mC (.int 1))))))
    (mRet (mOp fAddS (mOp fAddS (mSl fSlS (mVar 1) mNoPart (mPart (mVar 5))) (mOp fIxL (mOf (mLstF (mCons (mC (.str (" " : Str))) (mCons (mC (.str ("z" : Str))) (mCons (mC (.str ("A" : Str))) (mCons (mC (.str ("|" : Str))) (mCons (mC (.str ("abcdefgh" : Str))) (mCons (mC (.str ("" : Str))) mNil)))))))) (mDraw 0 (mC (.int 6))))) (mSl fSlS (mVar 1) (mPart (mVar 5)) mNoPart)))) mNext)
    (mSeq (mIfS (mAnd (mTest (mIsi2 isTup isList (mVar 1))) (mTest (mOp fEq (mDraw 0 (mC (.int 2))) (mC (.int 0)))))
    (mRet (mIfE (mTest (mIsi isTup (mVar 1))) (mOf (mListOf (mVar 1))) (mCB1 fTup (mVar 1)))) mNext)
    (mRet (mCallT 0 1 (F_law_any 5) (mCons (mC (.int 2)) mNil)))))))
theorem rs_law_spoilt {K : PySem.W.Frag} (Fs : FW) : RS false false (t_law_spoilt Fs K) (m_law_spoilt Fs) := by
  unfold t_law_spoilt m_law_spoilt
  exact (rs_seq (rs_if (rt_and (rt_B (re_isi2 kt_tuple kt_list (RE.q re_var))) (rt_and (rt_test (re_op o2_gt (RE.q (re_cb1 o1_len (RE.q re_var))) (RE.q re_int))) (rt_test (re_op o2_gt (RE.q (re_draw re_int)) (RE.q re_int)))))
    (rs_seq (rs_set (RE.x (re_draw (re_cb1 o1_len (RE.q re_var)))))
    (rs_seq (rs_set (RF.x (rf_listOf (RE.q re_var))))
    (rs_seq (rs_set (RE.x (re_draw re_int)))
    (rs_cut (rs_if (rt_test (re_op o2_lt (RE.q re_var) (RE.q re_int)))
    (rs_setI re_var (re_callT (ra_cons (re_op o2_ixL rq_var (RE.q re_var)) ra_nil))) (rs_if (rt_test (re_op o2_eq (RE.q re_var) (RE.q re_int)))
    (rs_pop re_var) (rs_if (rt_test (re_op o2_eq (RE.q re_var) (RE.q re_int)))
    (rs_ins re_var (re_op o2_ixL rq_var (RE.q (re_draw (re_cb1 o1_len rq_var))))) (rs_if (rt_test (re_op o2_eq (RE.q re_var) (RE.q re_int)))
    (rs_set (RF.x (rf_revL rq_var))) (rs_ins re_var (re_callT (ra_cons re_int ra_nil)))))))
    (rs_share (rs_ret (re_ifE (rt_B (re_isi kt_tuple (RE.q re_var))) (re_cb1 o1_tup rq_var) re_var))))))) rs_next)
    (rs_seq (rs_if (rt_and (rt_B (re_call (fun h => h) (ra_cons re_var ra_nil))) (rt_test (re_op o2_gt (RE.q (re_draw re_int)) (RE.q re_int))))
    (rs_ret (re_op o2_add (RE.q re_var) (RE.q (re_op o2_ixL (RE.q (RF.re (rf_lst (ra_cons re_int (ra_cons (re_neg re_int) (ra_cons re_int (ra_cons (re_neg re_int) (ra_cons re_int (ra_cons re_int ra_nil))))))))) (RE.q (re_draw re_int)))))) rs_next)
    (rs_seq (rs_if (rt_and (rt_B (re_isi kt_str (RE.q re_var))) (rt_test (re_op o2_gt (RE.q (re_draw re_int)) (RE.q re_int))))
    (rs_seq (rs_set (RE.x (re_draw (re_op o2_add (RE.q (re_cb1 o1_lenS (RE.q re_var))) (RE.q re_int)))))
    (rs_ret (re_op o2_addS (RE.q (re_op o2_addS (RE.q (re_sl os_str (RE.q re_var) ro_none (ro_some re_var))) (RE.q (re_op o2_ixL (RE.q (RF.re (rf_lst (ra_cons re_str (ra_cons re_str (ra_cons re_str (ra_cons re_str (ra_cons re_str (ra_cons re_str ra_nil))))))))) (RE.q (re_draw re_int)))))) (RE.q (re_sl os_str (RE.q re_var) (ro_some re_var) ro_none))))) rs_next)
    (rs_seq (rs_if (rt_and (rt_B (re_isi2 kt_tuple kt_list (RE.q re_var))) (rt_test (re_op o2_eq (RE.q (re_draw re_int)) (RE.q re_int))))
    (rs_ret (re_ifE (rt_B (re_isi kt_tuple (RE.q re_var))) (RF.re (rf_listOf (RE.q re_var))) (re_cb1 o1_tup (RE.q re_var)))) rs_next)
    (rs_ret (re_callT (ra_cons re_int ra_nil)))))))
def F_law_spoilt : Nat → FW
  | 0 => fun _ _ => False
  | n + 1 => bodyT 4 (m_law_spoilt (F_law_spoilt n))
abbrev sp_law_spoilt (n : Nat) (K : PySem.W.Frag) : Sp := spT 1 (F_law_spoilt n)
theorem sem_law_spoilt {n : Nat} {K : PySem.W.Frag} {vs : List V} {H : Hp} {Q : VK} {E : XK} (h : sp_law_spoilt (n + 1) K vs H Q E) : t_law_spoilt (F_law_spoilt n) K { nx := fun _ H' => Q .non H', rt := Q } (start N_law_spoilt vs) H := sem_T (by rfl) (rs_law_spoilt (F_law_spoilt n)) h
abbrev N_law : List Str := ["script", "tape", "turn", "pile", "wants", "things", "k", "thing", "book"]
def tr_law (K : PySem.W.Frag) : TS :=
  (tSeq (tFor (iRng1 (tCons (tC (.int 4)) tNil)) (gName 2)
    (tSeq (tPar 3 4 (tCons (tCall (sp_law_pile K) [] E0 (tCons (tVar 1) (tCons (tC (.int 7)) tNil))) (tCons (tCall (sp_law_wants K) [] E0 (tCons (tVar 1) (tCons (tC (.int 5)) (tCons (tC (.int 7)) tNil)))) tNil)))
    (tSeq (tAsg (tLst (tCons (tVar 3) (tCons (tCB (rListOf K) (tCons (tVar 3) tNil)) (tCons (tOp (rCatS K) (tVar 3) (tSl (rSlS2 K) (tVar 3) tNoPart (tPart (tC (.int 1))))) (tCons (tRevT K (tVar 3)) (tCons (tTupS tNil) (tCons (tCB (rTupS K) (tCons (tCall (sp_law_books K) [] E0 tNil) tNil)) (tCons (tOp (rCatS K) (tCB (rTupS K) (tCons (tCall (sp_law_books K) [] E0 tNil) tNil)) (tTupS (tCons (tC (.str ("x" : Str))) tNil))) tNil)))))))) (gName 5))
    (tSeq (tAsg (tOp rCat (tVar 5) (tLst (tCons (tVar 4) (tCons (tRevT K (tVar 4)) (tCons (tCB (rListOf K) (tCons (tVar 4) tNil)) (tCons (tOp (rCatS K) (tVar 4) (tSl (rSlS2 K) (tVar 4) tNoPart (tPart (tC (.int 1))))) (tCons (tTupS (tCons (tTupS (tCons (tC (.str ("a" : Str))) (tCons (tC (.int 4)) tNil))) (tCons (tTupS (tCons (tC (.str ("b" : Str))) (tCons (tC (.int 4)) tNil))) tNil))) tNil))))))) (gName 5))
    (tSeq (tDrop (tBM K "list" rAppend (tVar 5) (tCons (tTupS (tCons (tTupS (tCons (tC (.str ("a" : Str))) (tCons (tC (.int 4)) tNil))) (tCons (tTupS (tCons (tC (.str ("b" : Str))) (tCons (tC (.int 3)) tNil))) tNil))) tNil)))
    (tSeq (tAsg (tOp rCat (tVar 5) (tLst (tCons (tTupS (tCons (tTupS (tCons (tC (.str ("a" : Str))) (tCons (tC (.int 5)) tNil))) tNil)) (tCons (tTupS (tCons (tTupS (tCons (tC (.str ("a" : Str))) (tCons (tC (.int 0)) tNil))) tNil)) (tCons (tTupS (tCons (tTupS (tCons (tC (.str ("a" : Str))) (tCons (tC (.bl true)) tNil))) tNil)) (tCons (tTupS (tCons (tTupS (tCons (tC (.str ("a" : Str))) (tCons (tC (.int 1)) tNil))) (tCons (tTupS (tCons (tC (.str ("b" : Str))) tNil)) tNil))) (tCons (tTupS (tCons (tC (.str ("a" : Str))) (tCons (tC (.str ("A" : Str))) tNil))) tNil))))))) (gName 5))
    (tSeq (tDrop (tBM K "list" rAppend (tVar 5) (tCons (tCB (rTupS K) (tCons (tLc (iList K (tSl (rSlL K) (tCall (sp_law_books K) [] E0 tNil) tNoPart (tPart (tC (.int 6))))) (gName 8) tYes (tTupS (tCons (tVar 8) (tCons (tC (.int 1)) tNil))) [8]) tNil)) tNil)))
    (tSeq (tFor (iRng1 (tCons (tC (.int 8)) tNil)) (gName 6)
    (tSeq (tDrop (tBM K "list" rAppend (tVar 5) (tCons (tCall (sp_law_spoilt 7 K) [] E0 (tCons (tVar 1) (tCons (tVar 3) tNil))) tNil)))
    (tSeq (tDrop (tBM K "list" rAppend (tVar 5) (tCons (tCall (sp_law_spoilt 7 K) [] E0 (tCons (tVar 1) (tCons (tVar 4) tNil))) tNil)))
    (tDrop (tBM K "list" rAppend (tVar 5) (tCons (tCall (sp_law_spoilt 7 K) [] E0 (tCons (tVar 1) (tCons (tOp (rIxL K) (tVar 5) (tUn (rU fun i => .int (-i)) (tC (.int 1)))) tNil))) tNil))))))
    (tFor (iList K (tOp rCat (tVar 5) (tLst (tCons (tCall (sp_law_any 5 K) [] E0 (tCons (tVar 1) (tCons (tC (.int 3)) tNil))) tNil)))) (gName 7)
    (tSeq (tIfS (tNot (tB (tCall (sp_law_like 6 K) [] E0 (tCons (tCall (sp_is_pile K) [] E0 (tCons (tVar 7) tNil)) (tCons (tCall (sp_law_is_pile K) [] E0 (tCons (tVar 7) tNil)) tNil))))) (tRet (tC (.bl false))) tNext)
    (tIfS (tNot (tB (tCall (sp_law_like 6 K) [] E0 (tCons (tCall (sp_are_wants K) [] E0 (tCons (tVar 7) tNil)) (tCons (tCall (sp_law_are_wants K) [] E0 (tCons (tVar 7) tNil)) tNil))))) (tRet (tC (.bl false))) tNext)))))))))))
    (tRet (tC (.bl true))))
def t_law (K : PySem.W.Frag) : TS := tSeq (tAsg (tLst (tCons (tCB (rListOf K) (tCons (tVar 0) tNil)) (tCons (tC (.int 0)) (tCons (tC (.int 0)) tNil)))) (gName 1)) (tr_law K)
def m_law : MS :=
  (mSeq (mFor (iR (mC (.int 4))) (gN 2)
    (mSeq (mPar 3 4 (xD (mCallT 1 1 F_law_pile (mCons (mC (.int 7)) mNil))) (xD (mCallT 1 2 F_law_wants (mCons (mC (.int 5)) (mCons (mC (.int 7)) mNil)))))
    (mSeq (mSet 5 (xO (mLstF (mCons (mVar 3) (mCons (mOf (mListOf (mVar 3))) (mCons (mOp fCatT (mVar 3) (mSl fSlT (mVar 3) mNoPart (mPart (mC (.int 1))))) (mCons (mRevT (mVar 3)) (mCons (mTup mNil) (mCons (mCB1 fTup (mCall 0 F_law_books mNil)) (mCons (mOp fCatT (mCB1 fTup (mCall 0 F_law_books mNil)) (mTup (mCons (mC (.str ("x" : Str))) mNil))) mNil))))))))))
    (mSeq (mSet 5 (xO (mCat (mVarQ 5) (mOf (mLstF (mCons (mVar 4) (mCons (mRevT (mVar 4)) (mCons (mOf (mListOf (mVar 4))) (mCons (mOp fCatT (mVar 4) (mSl fSlT (mVar 4) mNoPart (mPart (mC (.int 1))))) (mCons (mTup (mCons (mTup (mCons (mC (.str ("a" : Str))) (mCons (mC (.int 4)) mNil))) (mCons (mTup (mCons (mC (.str ("b" : Str))) (mCons (mC (.int 4)) mNil))) mNil))) mNil))))))))))
    (mSeq (mApp 5 (mTup (mCons (mTup (mCons (mC (.str ("a" : Str))) (mCons (mC (.int 4)) mNil))) (mCons (mTup (mCons (mC (.str ("b" : Str))) (mCons (mC (.int 3)) mNil))) mNil))))
    (mSeq (mSet 5 (xO (mCat (mVarQ 5) (mOf (mLstF (mCons (mTup (mCons (mTup (mCons (mC (.str ("a" : Str))) (mCons (mC (.int 5)) mNil))) mNil)) (mCons (mTup (mCons (mTup (mCons (mC (.str ("a" : Str))) (mCons (mC (.int 0)) mNil))) mNil)) (mCons (mTup (mCons (mTup (mCons (mC (.str ("a" : Str))) (mCons (mC (.bool true)) mNil))) mNil)) (mCons (mTup (mCons (mTup (mCons (mC (.str ("a" : Str))) (mCons (mC (.int 1)) mNil))) (mCons (mTup (mCons (mC (.str ("b" : Str))) mNil)) mNil))) (mCons (mTup (mCons (mC (.str ("a" : Str))) (mCons (mC (.str ("A" : Str))) mNil))) mNil))))))))))
    (mSeq (mApp 5 (mCB1 fTup (mOf (mLc (iL (mOf (mSlL (mCall 0 F_law_books mNil) mNoPart (mPart (mC (.int 6)))))) (gN 8) mYes (mTup (mCons (mVar 8) (mCons (mC (.int 1)) mNil))) [8]))))
    (mSeq (mFor (iR (mC (.int 8))) (gN 6)
    (mSeq (mApp 5 (mCallT 1 1 (F_law_spoilt 7) (mCons (mVar 3) mNil)))
    (mSeq (mApp 5 (mCallT 1 1 (F_law_spoilt 7) (mCons (mVar 4) mNil)))
    (mApp 5 (mCallT 1 1 (F_law_spoilt 7) (mCons (mOp fIxL (mVarQ 5) (mNeg (mC (.int 1)))) mNil))))))
    (mFor (iL (mOf (mCat (mVarQ 5) (mOf (mLstF (mCons (mCallT 1 1 (F_law_any 5) (mCons (mC (.int 3)) mNil)) mNil)))))) (gN 7)
    (mSeq (mIfS (mNot (mTest (mCall 2 (F_law_like 6) (mCons (mCall 1 F_is_pile (mCons (mVar 7) mNil)) (mCons (mCall 1 F_law_is_pile (mCons (mVar 7) mNil)) mNil)))))
    (mRet (mC (.bool false))) mNext)
    (mIfS (mNot (mTest (mCall 2 (F_law_like 6) (mCons (mCall 1 F_are_wants (mCons (mVar 7) mNil)) (mCons (mCall 1 F_law_are_wants (mCons (mVar 7) mNil)) mNil)))))
    (mRet (mC (.bool false))) mNext)))))))))))
    (mRet (mC (.bool true))))
theorem rs_law {K : PySem.W.Frag} : RS false false (tr_law K) m_law := by
  unfold tr_law m_law
  exact (rs_seq (rs_for (vs := [2]) (ri_rng (w := false) re_int) (rg_name (by decide))
    (rs_seq (rs_par' (RE.x (re_callT (ra_cons re_int ra_nil))) (RE.x (re_callT (ra_cons re_int (ra_cons re_int ra_nil)))))
    (rs_seq (rs_set (RF.x (rf_lst (ra_cons re_var (ra_cons (RF.re (rf_listOf (RE.q re_var))) (ra_cons (re_op o2_catT (RE.q re_var) (RE.q (re_sl os_tup (RE.q re_var) ro_none (ro_some re_int)))) (ra_cons (re_revT (RE.q re_var)) (ra_cons (re_tup ra_nil) (ra_cons (re_cb1 o1_tup (RE.q (re_call (fun h => h) ra_nil))) (ra_cons (re_op o2_catT (RE.q (re_cb1 o1_tup (RE.q (re_call (fun h => h) ra_nil)))) (RE.q (re_tup (ra_cons re_str ra_nil)))) ra_nil))))))))))
    (rs_seq (rs_set (RF.x (rf_cat rq_var (RE.q (RF.re (rf_lst (ra_cons re_var (ra_cons (re_revT (RE.q re_var)) (ra_cons (RF.re (rf_listOf (RE.q re_var))) (ra_cons (re_op o2_catT (RE.q re_var) (RE.q (re_sl os_tup (RE.q re_var) ro_none (ro_some re_int)))) (ra_cons (re_tup (ra_cons (re_tup (ra_cons re_str (ra_cons re_int ra_nil))) (ra_cons (re_tup (ra_cons re_str (ra_cons re_int ra_nil))) ra_nil))) ra_nil)))))))))))
    (rs_seq (rs_app (re_tup (ra_cons (re_tup (ra_cons re_str (ra_cons re_int ra_nil))) (ra_cons (re_tup (ra_cons re_str (ra_cons re_int ra_nil))) ra_nil))))
    (rs_seq (rs_set (RF.x (rf_cat rq_var (RE.q (RF.re (rf_lst (ra_cons (re_tup (ra_cons (re_tup (ra_cons re_str (ra_cons re_int ra_nil))) ra_nil)) (ra_cons (re_tup (ra_cons (re_tup (ra_cons re_str (ra_cons re_int ra_nil))) ra_nil)) (ra_cons (re_tup (ra_cons (re_tup (ra_cons re_str (ra_cons re_bl ra_nil))) ra_nil)) (ra_cons (re_tup (ra_cons (re_tup (ra_cons re_str (ra_cons re_int ra_nil))) (ra_cons (re_tup (ra_cons re_str ra_nil)) ra_nil))) (ra_cons (re_tup (ra_cons re_str (ra_cons re_str ra_nil))) ra_nil)))))))))))
    (rs_seq (rs_app (re_cb1 o1_tup (RE.q (RF.re (rf_lc (ri_list (w := false) (RF.re (rf_slL (RE.q (re_call (fun h => h) ra_nil)) ro_none (ro_some re_int)))) (rg_name (by decide)) rt_yes (re_tup (ra_cons re_var (ra_cons re_int ra_nil))))))))
    (rs_seq (rs_for (vs := [6]) (ri_rng (w := false) re_int) (rg_name (by decide))
    (rs_seq (rs_app (re_callT (ra_cons re_var ra_nil)))
    (rs_seq (rs_app (re_callT (ra_cons re_var ra_nil)))
    (rs_app (re_callT (ra_cons (re_op o2_ixL rq_var (RE.q (re_neg re_int))) ra_nil))))))
    (rs_for (vs := [7]) (ri_list (w := false) (RF.re (rf_cat rq_var (RE.q (RF.re (rf_lst (ra_cons (re_callT (ra_cons re_int ra_nil)) ra_nil))))))) (rg_name (by decide))
    (rs_seq (rs_if (rt_not (rt_B (re_call (fun h => h) (ra_cons (re_call (fun h => h) (ra_cons re_var ra_nil)) (ra_cons (re_call (fun h => h) (ra_cons re_var ra_nil)) ra_nil)))))
    (rs_ret re_bl) rs_next)
    (rs_if (rt_not (rt_B (re_call (fun h => h) (ra_cons (re_call (fun h => h) (ra_cons re_var ra_nil)) (ra_cons (re_call (fun h => h) (ra_cons re_var ra_nil)) ra_nil)))))
    (rs_ret re_bl) rs_next)))))))))))
    (rs_ret re_bl))
end LT

/-! QA: the shared defs over plain data. -/
namespace LT
open PySem PySem.Spec PyProof.Rows L2
abbrev tS (ps : List Str) : PyData := .tuple (ps.map .str)
abbrev lS (ps : List Str) : PyData := .list (ps.map .str)
abbrev nI (n : Nat) : PyData := .int (n : Int)
abbrev lN (ns : List Nat) : PyData := .list (ns.map nI)
section
variable {P : PyData → Prop}
theorem cutD_to {α : Type} {xs : List α} (k : Nat) : cutD xs none (some (k : Int)) = xs.take k := by
  unfold cutD
  rw [HT.sIx_none, HT.sIx_nat, List.drop_zero, Nat.sub_zero]
  rw [List.take_eq_take_iff]; omega
theorem cutD_from {α : Type} {xs : List α} (k : Nat) : cutD xs (some (k : Int)) none = xs.drop k := by
  unfold cutD
  rw [HT.sIx_none, HT.sIx_nat]
  by_cases h : k ≤ xs.length
  · rw [Nat.min_eq_left h]
    exact List.take_of_length_le (by rw [List.length_drop]; omega)
  · rw [Nat.min_eq_right (by omega), Nat.sub_self, List.take_zero, List.drop_eq_nil_of_le (by omega)]
theorem catT_go {xs ys : List PyData} (hl : xs.length + ys.length ≤ 1000000) (hp : P (.tuple (xs ++ ys))) : fCatT (.tuple xs) (.tuple ys) P := ⟨[], [], .inr ⟨xs, ys, rfl, rfl, hl, hp⟩⟩
theorem erase_cut {ps : List Str} (z : Str) : ps.take (ps.idxOf z) ++ ps.drop (ps.idxOf z + 1) = ps.erase z := by
  rw [← erase_idx, List.eraseIdx_eq_take_drop_succ]
/-- a comprehension without a test: its items one by one -/
theorem lc_map {g : MG} {te : ME} {vs : List Nat} {Γ : Gm} {xs : List PyData} {Q : Ow → Prop} (ys : List PyData) (hl : xs.length = ys.length) (hn : ys.length ≤ 1000000)
    (h : ∀ (j : Nat) (x y : PyData), xs[j]? = some x → ys[j]? = some y → ∀ R : PyData → Prop, R y → g x (wipeG Γ vs) fun Γ2 => te Γ2 R) (hp : Q (.lst ys)) : LcI g mYes te vs Γ xs Q := by
  refine ⟨fun j acc => acc = ys.take j, rfl, ?_, ?_⟩
  · rintro j x acc hx rfl
    obtain ⟨hj, _⟩ := List.getElem?_eq_some_iff.mp hx
    have hy : ys[j]? = some (ys[j]'(by omega)) := List.getElem?_eq_getElem _
    exact h j x _ hx hy _ ⟨by rw [List.length_take]; omega, by show _ = ys.take (j + 1); rw [List.take_add_one, hy]; rfl⟩
  · rintro acc rfl
    rw [hl, List.take_length]; exact hp
/-- .. by an invariant -/
theorem lc_inv {g : MG} {te : ME} {vs : List Nat} {Γ : Gm} {xs : List PyData} {Q : Ow → Prop} (I : Nat → List PyData → Prop) (i0 : I 0 [])
    (h : ∀ (j : Nat) (x : PyData) (acc : List PyData), xs[j]? = some x → I j acc → g x (wipeG Γ vs) fun Γ2 => te Γ2 fun d => acc.length < 1000000 ∧ I (j + 1) (acc ++ [d])) (hp : ∀ acc, I xs.length acc → Q (.lst acc)) : LcI g mYes te vs Γ xs Q := ⟨I, i0, h, hp⟩
/-- .. with one -/
theorem lc_filt {g : MG} {tt : MT} {te : ME} {vs : List Nat} {Γ : Gm} {xs : List PyData} {Q : Ow → Prop} (p : PyData → Bool) (f : PyData → PyData) (hn : xs.length ≤ 1000000)
    (h : ∀ (j : Nat) (x : PyData), xs[j]? = some x → ∀ (Rt : PyData → Prop) (Rf : Prop), (p x = true → Rt (f x)) → (p x = false → Rf) → g x (wipeG Γ vs) fun Γ2 => tt Γ2 fun b => if b = true then te Γ2 Rt else Rf) (hp : Q (.lst ((xs.filter p).map f))) : LcI g tt te vs Γ xs Q := by
  refine ⟨fun j acc => acc = ((xs.take j).filter p).map f, rfl, ?_, ?_⟩
  · rintro j x acc hx rfl
    obtain ⟨hj, _⟩ := List.getElem?_eq_some_iff.mp hx
    have e : xs.take (j + 1) = xs.take j ++ [x] := by rw [List.take_add_one, hx]; rfl
    refine h j x hx _ _ (fun q => ⟨?_, ?_⟩) fun q => ?_
    · have := List.length_filter_le p (xs.take j)
      rw [List.length_map]
      rw [List.length_take] at this
      omega
    · show _ = ((xs.take (j + 1)).filter p).map f
      rw [e, List.filter_append, List.map_append, List.filter_cons, if_pos q]; rfl
    · show _ = ((xs.take (j + 1)).filter p).map f
      rw [e, List.filter_append, List.filter_cons, if_neg (by rw [q]; exact Bool.false_ne_true), List.filter_nil, List.append_nil]
  · rintro acc rfl
    rw [List.take_length]; exact hp
theorem at_strD {rs : List Str} {j : Nat} {x : PyData} (h : (rs.map PyData.str)[j]? = some x) : ∃ z, rs[j]? = some z ∧ x = .str z := by
  rw [List.getElem?_map] at h
  cases e : rs[j]? with
  | none => rw [e] at h; cases h
  | some z => rw [e] at h; cases h; exact ⟨z, rfl, rfl⟩
theorem atI_at {α : Type} {xs : List α} {k : Nat} {x : α} (h : xs[k]? = some x) : L2.atI xs (k : Int) = some x := atI_nat h
abbrev row2 (r : Str × Str) : PyData := .tuple [.str r.1, .str r.2]
theorem pw_len (ps : List Str) : ∀ rs : List Str, (∀ r ∈ rs, r ∈ ps) → (pw ps rs).length ≤ rs.length * ps.length := by
  intro rs
  induction rs generalizing ps with
  | nil => intro _; simp [pw]
  | cons r rs ih =>
    intro h
    have h1 := tk_perm (h r (List.mem_cons_self ..))
    have := ih (tk ps r) fun x hx => h1.mem_iff.mpr (h x (List.mem_cons_of_mem _ hx))
    rw [h1.length_eq] at this
    simp only [pw, List.length_append, List.length_map, List.length_take, List.length_cons, Nat.add_mul, Nat.one_mul]
    omega
def bookNames : List Str := ["atlas", "bible", "comics", "diary", "essays", "fables", "guide"]
theorem books_nodup : bookNames.Nodup := by decide +kernel
theorem books_ok : OkS bookNames := by
  have : bookNames.all (fun x => PyData.canLay0 (.str x)) = true := by decide +kernel
  intro x hx
  exact List.all_eq_true.mp this x hx
theorem pile_facts {n : Nat} {ps : List Str} (pm : ps.Perm (bookNames.take n)) (hn : n ≤ 7) : ps.Nodup ∧ ps.length = n ∧ OkS ps ∧ ∀ x ∈ ps, x ∈ bookNames := by
  have hl : (bookNames.take n).length = n := by
    rw [List.length_take]
    have : bookNames.length = 7 := rfl
    omega
  have hm : ∀ x ∈ ps, x ∈ bookNames := fun x hx => List.mem_of_mem_take (pm.mem_iff.mp hx)
  exact ⟨pm.nodup_iff.mpr (books_nodup.sublist (List.take_sublist n bookNames)), by rw [pm.length_eq, hl], fun x hx => books_ok x (hm x hx), hm⟩
theorem OkS.perm {ps os : List Str} (h : OkS ps) (pm : os.Perm ps) : OkS os := fun x hx => h x (pm.mem_iff.mp hx)
theorem law_books_ok (hp : P (lS bookNames)) : F_law_books [] P := ⟨by decide, _, rfl, hp⟩
theorem insert_perm {js : List Nat} {i r : Nat} (h : js.Perm (List.range i)) : (js.take r ++ [i] ++ js.drop r).Perm (List.range (i + 1)) := by
  rw [List.range_succ]
  have h1 : (js.take r ++ [i] ++ js.drop r).Perm (js ++ [i]) := by
    rw [List.append_assoc]
    refine (List.Perm.append_left _ List.perm_append_comm).trans ?_
    rw [← List.append_assoc, List.take_append_drop]
  exact h1.trans (h.append_right [i])
theorem perm_getD {α : Type} (d : α) (xs : List α) {js : List Nat} (h : js.Perm (List.range xs.length)) : (js.map fun j => xs.getD j d).Perm xs := by
  refine (h.map _).trans ?_
  have : (List.range xs.length).map (fun j => xs.getD j d) = xs := by
    apply List.ext_getElem
    · simp
    · intro i h1 h2
      simp [h2]
  rw [this]
theorem at_nat {js : List Nat} {j : Nat} {x : PyData} (h : (js.map nI)[j]? = some x) : ∃ k, js[j]? = some k ∧ x = nI k := by
  rw [List.getElem?_map] at h
  cases e : js[j]? with
  | none => rw [e] at h; cases h
  | some z => rw [e] at h; cases h; exact ⟨z, rfl, rfl⟩
theorem any_order_ok {n : Nat} (hn : n ≤ 1000) (hp : ∀ js : List Nat, js.Perm (List.range n) → P (.tuple (js.map nI))) : F_law_any_order [nI n] P := by
  refine ⟨by decide, ?_⟩
  refine ⟨_, rfl, n, rfl, by omega, fun j Γ => ∃ x js, Γ = [.tape, .dat (nI n), .own (.lst (js.map nI)), x] ∧ js.Perm (List.range j), ⟨_, [], rfl, List.Perm.refl _⟩, ?_, ?_⟩
  · rintro j x Γ hx ⟨y, js, rfl, pm⟩
    obtain ⟨hj, rfl⟩ := rngD_inv hx
    have jl : js.length = j := by rw [pm.length_eq, List.length_range]
    refine ⟨_, rfl, by rw [List.length_map]; omega, rfl, _, rfl, _, _, rfl, rfl, j + 1, rfl, by omega, by omega, fun r hr => ⟨_, rfl, r, rfl, by omega, .dat (nI j), js.take r ++ [j] ++ js.drop r, ?_, insert_perm pm⟩⟩
    rw [List.map_append, List.map_append, List.map_take, List.map_drop]
    rfl
  · rintro Γ ⟨y, js, rfl, pm⟩
    rw [rngD_len] at pm
    exact ⟨_, rfl, _, .inl rfl, hp js pm⟩
theorem law_pile_ok {m : Nat} (hm : 1 ≤ m) (hm7 : m ≤ 7) (hp : ∀ (n : Nat) (ps : List Str), 1 ≤ n → n ≤ m → ps.Perm (bookNames.take n) → P (tS ps)) : F_law_pile [nI m] P := by
  refine ⟨rfl, law_books_ok ⟨rfl, _, rfl, m, rfl, by omega, by omega, fun r hr => ⟨1, r, rfl, rfl, _, rfl, _, rfl, _, rfl, ?_⟩⟩⟩
  have hl : (bookNames.take (1 + r)).length = 1 + r := by
    rw [List.length_take]
    have : bookNames.length = 7 := rfl
    omega
  have e : (1 : Int) + (r : Int) = ((1 + r : Nat) : Int) := by omega
  rw [e, cutD_to, ← List.map_take]
  generalize eb : bookNames.take (1 + r) = bs at hl
  refine ⟨rfl, _, rfl, _, .inl rfl, rfl, ?_⟩
  rw [List.length_map, hl]
  refine any_order_ok (by omega) fun js pm => ⟨_, rfl, lc_map (((js.map fun j => bs.getD j "")).map .str) ?_ (by rw [List.length_map, List.length_map, pm.length_eq, List.length_range]; omega) (fun k x y hx hy R hR => ?_) ?_⟩
  · rw [List.length_map, List.length_map, List.length_map]
  · obtain ⟨i, hi, rfl⟩ := at_nat hx
    rw [List.getElem?_map, List.getElem?_map, hi] at hy
    cases hy
    have hib : i < bs.length := by
      rw [hl]
      exact List.mem_range.mp (pm.mem_iff.mp (List.mem_of_getElem? hi))
    refine ⟨_, rfl, _, rfl, _, _, _, rfl, rfl, atI_at (x := .str bs[i]) (by rw [List.getElem?_map, List.getElem?_eq_getElem hib]; rfl), ?_⟩
    have e2 : bs.getD i "" = bs[i] := by simp [List.getD, hib]
    have hR' : R (.str (bs.getD i "")) := hR
    rw [e2] at hR'
    exact hR'
  · refine ⟨_, rfl, _, .inl rfl, ?_⟩
    refine hp (1 + r) _ (by omega) (by omega) ?_
    rw [eb]
    exact perm_getD ("" : Str) bs (js := js) (by rw [hl]; exact pm)
end
end LT

/-! QL: like of equal data; tests that are known. -/
namespace LT
open PySem PySem.Spec PyProof.Rows L2
section
variable {P : PyData → Prop}
mutual
theorem eqv_self : ∀ d : PyData, d.canLay0 = true → PyData.eqv d d = true
  | .none, _ => by simp [PyData.eqv]
  | .bool b, _ => by simp [PyData.eqv]
  | .int i, _ => by simp [PyData.eqv]
  | .str x, _ => by simp [PyData.eqv]
  | .list xs, h => by
    simp only [PyData.canLay0] at h
    simp only [PyData.eqv]
    exact eqv_selfs xs h
  | .tuple xs, h => by
    simp only [PyData.canLay0] at h
    simp only [PyData.eqv]
    exact eqv_selfs xs h
  | .dict k, h => by simp [PyData.canLay0] at h
theorem eqv_selfs : ∀ ds : List PyData, PyData.canLayAll0 ds = true → PyData.eqvAll ds ds = true
  | [], _ => by simp [PyData.eqvAll]
  | d :: ds, h => by
    simp only [PyData.canLayAll0, Bool.and_eq_true] at h
    simp only [PyData.eqvAll, Bool.and_eq_true]
    exact ⟨eqv_self d h.1, eqv_selfs ds h.2⟩
end
theorem neD_self {d : PyData} (h : SeqAt.shaped d = true) (hp : P (.bool false)) : fNeD d d P :=
  ⟨h, h, by rw [eqv_self d (SeqAt.canLay_of_shaped h)]; exact hp⟩
theorem eqD_self {d : PyData} (h : SeqAt.shaped d = true) (hp : P (.bool true)) : fEqD d d P :=
  ⟨h, h, by rw [eqv_self d (SeqAt.canLay_of_shaped h)]; exact hp⟩
theorem shaped_nats (ns : List Nat) : SeqAt.shaped (lN ns) = true := by
  have := shaped_intL (ns.map fun n : Nat => (n : Int))
  rw [List.map_map] at this
  exact this
theorem dc_inv {g : MG} {tk tv : ME} {vs : List Nat} {Γ : Gm} {xs : List PyData} {Q : Ow → Prop} (I : Nat → List (Key × Sc) → Prop) (i0 : I 0 [])
    (h : ∀ (j : Nat) (x : PyData) (acc : List (Key × Sc)), xs[j]? = some x → I j acc → g x (wipeG Γ vs) fun Γ2 => tk Γ2 fun d => tv Γ2 fun d' => ∃ k v, d = kyD k ∧ d' = scD v ∧ acc.length < 1000000 ∧ I (j + 1) (putS acc k v)) (hp : ∀ acc, I xs.length acc → Q (.dic acc)) : DcI g mYes tk tv vs Γ xs Q := ⟨I, i0, h, hp⟩
/-- comprehensions over rows of one kind -/
theorem lc_filtA {α : Type} {g : MG} {tt : MT} {te : ME} {vs : List Nat} {Γ : Gm} {Q : Ow → Prop} (ls : List α) (e f : α → PyData) (p : α → Bool) (hn : ls.length ≤ 1000000)
    (h : ∀ (j : Nat) (x : α), ls[j]? = some x → ∀ (Rt : PyData → Prop) (Rf : Prop), (p x = true → Rt (f x)) → (p x = false → Rf) → g (e x) (wipeG Γ vs) fun Γ2 => tt Γ2 fun b => if b = true then te Γ2 Rt else Rf) (hp : Q (.lst ((ls.filter p).map f))) : LcI g tt te vs Γ (ls.map e) Q := by
  refine ⟨fun j acc => acc = ((ls.take j).filter p).map f, rfl, ?_, ?_⟩
  · rintro j x acc hx rfl
    rw [List.getElem?_map] at hx
    cases q : ls[j]? with
    | none => rw [q] at hx; cases hx
    | some a =>
      rw [q] at hx; cases hx
      obtain ⟨hj, _⟩ := List.getElem?_eq_some_iff.mp q
      have e : ls.take (j + 1) = ls.take j ++ [a] := by rw [List.take_add_one, q]; rfl
      refine h j a q _ _ (fun r => ⟨?_, ?_⟩) fun r => ?_
      · have := List.length_filter_le p (ls.take j)
        rw [List.length_map]
        rw [List.length_take] at this
        omega
      · show _ = ((ls.take (j + 1)).filter p).map f
        rw [e, List.filter_append, List.map_append, List.filter_cons, if_pos r]; rfl
      · show _ = ((ls.take (j + 1)).filter p).map f
        rw [e, List.filter_append, List.filter_cons, if_neg (by rw [r]; exact Bool.false_ne_true), List.filter_nil, List.append_nil]
  · rintro acc rfl
    rw [List.length_map, List.take_length]; exact hp
theorem lc_mapA {α : Type} {g : MG} {te : ME} {vs : List Nat} {Γ : Gm} {Q : Ow → Prop} (ls : List α) (e f : α → PyData) (hn : ls.length ≤ 1000000)
    (h : ∀ (j : Nat) (x : α), ls[j]? = some x → ∀ R : PyData → Prop, R (f x) → g (e x) (wipeG Γ vs) fun Γ2 => te Γ2 R) (hp : Q (.lst (ls.map f))) : LcI g mYes te vs Γ (ls.map e) Q := by
  refine lc_map (ls.map f) (by rw [List.length_map, List.length_map]) (by rw [List.length_map]; exact hn) (fun j x y hx hy R hR => ?_) hp
  rw [List.getElem?_map] at hx hy
  cases q : ls[j]? with
  | none => rw [q] at hx; cases hx
  | some a =>
    rw [q] at hx hy
    cases hx; cases hy
    exact h j a q R hR
theorem eqv_nats (a b : List Nat) : PyData.eqv (lN a) (lN b) = decide (a = b) := by
  have h : ∀ l : List Nat, lN l = .list ((l.map fun n : Nat => (n : Int)).map .int) := fun l => by rw [List.map_map]; rfl
  rw [h, h, eqv_intL]
  apply decide_eq_decide.mpr
  constructor
  · intro e
    have := congrArg (List.map Int.toNat) e
    rw [List.map_map, List.map_map] at this
    have hh : ∀ l : List Nat, l.map (Int.toNat ∘ fun n : Nat => (n : Int)) = l := fun l => by
      conv => rhs; rw [← List.map_id l]
      apply List.map_congr_left
      intro x _
      simp
    rw [hh, hh] at this
    exact this
  · intro e; rw [e]
/-- data of so little depth, without dicts -/
def Wf : Nat → PyData → Prop
  | 0, _ => False
  | n + 1, d => (∀ k, d ≠ .dict k) ∧ SeqAt.shaped d = true ∧ ∀ ds, d = .list ds ∨ d = .tuple ds → ds.length ≤ 1000000 ∧ ∀ x ∈ ds, Wf n x
theorem Wf.shaped {n : Nat} {d : PyData} (h : Wf n d) : SeqAt.shaped d = true := by
  cases n with
  | zero => exact h.elim
  | succ n => exact h.2.1
theorem wf_str {n : Nat} {x : Str} (h : PyData.canLay0 (.str x) = true) : Wf (n + 1) (.str x) := ⟨(fun k e => nomatch e), shaped_of h (by simp [PyData.depth]), fun ds e => by rcases e with e | e <;> cases e⟩
theorem wf_int {n : Nat} {x : Int} : Wf (n + 1) (.int x) := ⟨(fun k e => nomatch e), shaped_of rfl (by simp [PyData.depth]), fun ds e => by rcases e with e | e <;> cases e⟩
theorem wf_bool {n : Nat} {x : Bool} : Wf (n + 1) (.bool x) := ⟨(fun k e => nomatch e), shaped_of rfl (by simp [PyData.depth]), fun ds e => by rcases e with e | e <;> cases e⟩
theorem wf_strT {n : Nat} {ps : List Str} (h : OkS ps) (hl : ps.length ≤ 1000000) : Wf (n + 2) (tS ps) := ⟨(fun k e => nomatch e), shaped_strT h, fun ds e => by
  rcases e with e | e
  · cases e
  · cases e
    refine ⟨by rw [List.length_map]; exact hl, fun x hx => ?_⟩
    obtain ⟨y, hy, rfl⟩ := List.mem_map.mp hx
    exact wf_str (h y hy)⟩
theorem wf_strL {n : Nat} {ps : List Str} (h : OkS ps) (hl : ps.length ≤ 1000000) : Wf (n + 2) (lS ps) := ⟨(fun k e => nomatch e), shaped_strL h, fun ds e => by
  rcases e with e | e
  · cases e
    refine ⟨by rw [List.length_map]; exact hl, fun x hx => ?_⟩
    obtain ⟨y, hy, rfl⟩ := List.mem_map.mp hx
    exact wf_str (h y hy)
  · cases e⟩
theorem wf_nats {n : Nat} {ns : List Nat} (hl : ns.length ≤ 1000000) : Wf (n + 2) (lN ns) := ⟨(fun k e => nomatch e), shaped_nats ns, fun ds e => by
  rcases e with e | e
  · cases e
    refine ⟨by rw [List.length_map]; exact hl, fun x hx => ?_⟩
    obtain ⟨y, hy, rfl⟩ := List.mem_map.mp hx
    exact wf_int
  · cases e⟩
theorem depth_le {ds : List PyData} {k : Nat} (h : ∀ d ∈ ds, d.depth ≤ k) : PyData.depthAll ds ≤ k := by
  induction ds with
  | nil => exact Nat.zero_le _
  | cons d r ih =>
    simp only [PyData.depthAll]
    have h1 := h d (List.mem_cons_self ..)
    have h2 := ih fun x hx => h x (List.mem_cons_of_mem _ hx)
    omega
theorem shaped_list {ds : List PyData} {k : Nat} (hk : k < 64) (h : ∀ d ∈ ds, d.canLay0 = true ∧ d.depth ≤ k) : SeqAt.shaped (.list ds) = true := by
  refine shaped_of ?_ ?_
  · simp only [PyData.canLay0]
    exact lay_all fun d hd => (h d hd).1
  · simp only [PyData.depth]
    have := depth_le fun d hd => (h d hd).2
    omega
theorem shaped_tup {ds : List PyData} {k : Nat} (hk : k < 64) (h : ∀ d ∈ ds, d.canLay0 = true ∧ d.depth ≤ k) : SeqAt.shaped (.tuple ds) = true := by
  refine shaped_of ?_ ?_
  · simp only [PyData.canLay0]
    exact lay_all fun d hd => (h d hd).1
  · simp only [PyData.depth]
    have := depth_le fun d hd => (h d hd).2
    omega
theorem Wf.depth : ∀ {n : Nat} {d : PyData}, Wf n d → d.depth ≤ n
  | 0, _, h => h.elim
  | n + 1, d, ⟨h1, h2, h3⟩ => by
    cases d with
    | list ds =>
      have := depth_le fun d hd => Wf.depth ((h3 ds (.inl rfl)).2 d hd)
      simp only [PyData.depth]; omega
    | tuple ds =>
      have := depth_le fun d hd => Wf.depth ((h3 ds (.inr rfl)).2 d hd)
      simp only [PyData.depth]; omega
    | dict k => exact absurd rfl (h1 k)
    | _ => simp [PyData.depth]
theorem wf_list {n : Nat} {ds : List PyData} (hn : n < 60) (hl : ds.length ≤ 1000000) (h : ∀ d ∈ ds, Wf n d) : Wf (n + 1) (.list ds) := ⟨(fun k e => nomatch e), shaped_list (k := n) (by omega) fun d hd => ⟨SeqAt.canLay_of_shaped (h d hd).shaped, (h d hd).depth⟩, fun ds' e => by
  rcases e with e | e
  · cases e; exact ⟨hl, h⟩
  · cases e⟩
theorem wf_tup {n : Nat} {ds : List PyData} (hn : n < 60) (hl : ds.length ≤ 1000000) (h : ∀ d ∈ ds, Wf n d) : Wf (n + 1) (.tuple ds) := ⟨(fun k e => nomatch e), shaped_tup (k := n) (by omega) fun d hd => ⟨SeqAt.canLay_of_shaped (h d hd).shaped, (h d hd).depth⟩, fun ds' e => by
  rcases e with e | e
  · cases e
  · cases e; exact ⟨hl, h⟩⟩
theorem like_seq {n : Nat} (ih : ∀ (d : PyData) (P : PyData → Prop), Wf n d → P (.bool true) → F_law_like n [d, d] P) {ds : List PyData} {d : PyData} (hd : d = .list ds ∨ d = .tuple ds) (hl : ds.length ≤ 1000000) (h : ∀ x ∈ ds, Wf n x) (hp : P (.bool true)) :
    (mSeq (mIfS (mTest (mOp fNe (mCB1 fLen (mVar 0)) (mCB1 fLen (mVar 1)))) (mRet (mC (.bool false))) mNext)
    (mRet (mOp fEqD (mOf (mLc (iR (mCB1 fLen (mVar 0))) (gN 2) (mNot (mTest (mCall 2 (F_law_like n) (mCons (mOp fIxA (mVar 0) (mVar 2)) (mCons (mOp fIxA (mVar 1) (mVar 2)) mNil))))) (mVar 2) [2])) (mOf (mLstF mNil))))) [.dat d, .dat d, .no] (endW P) := by
  refine ⟨_, rfl, _, hd, _, rfl, _, hd, .inl ⟨_, _, rfl, rfl, _, rfl, ?_⟩⟩
  rw [decide_eq_true rfl]
  refine iteF ?_
  refine ⟨_, rfl, _, hd, ds.length, rfl, hl, lc_filt (fun _ => false) id (by rw [rngD_len]; exact hl) (fun j x hx Rt Rf _ hf => ?_) ?_⟩
  · obtain ⟨hj, rfl⟩ := rngD_inv hx
    have hat : fIxA d (nI j) = fun P => fIxL d (nI j) P ∨ fIxT d (nI j) P := rfl
    have key : ∀ Q : PyData → Prop, Q ds[j] → fIxA d (nI j) Q := fun Q q => by
      rcases hd with rfl | rfl
      · exact .inl ⟨_, _, _, rfl, rfl, atI_at (List.getElem?_eq_getElem hj), q⟩
      · exact .inr ⟨_, _, _, rfl, rfl, atI_at (List.getElem?_eq_getElem hj), q⟩
    refine ⟨_, rfl, _, rfl, key _ ⟨_, rfl, _, rfl, key _ ⟨rfl, ih _ _ (h _ (List.getElem_mem hj)) ⟨true, rfl, ?_⟩⟩⟩⟩
    exact iteF (hf rfl)
  · refine ⟨_, rfl, by decide, _, rfl, ?_⟩
    have : ((rngD ds.length).filter fun _ => false) = [] := List.filter_eq_nil_iff.mpr fun _ _ h => nomatch h
    rw [this]
    exact eqD_self (by decide) hp
theorem like_self : ∀ (n : Nat) (d : PyData) (P : PyData → Prop), Wf n d → P (.bool true) → F_law_like n [d, d] P
  | 0, _, _, h, _ => h.elim
  | n + 1, d, P, ⟨h1, h2, h3⟩, hp => by
    cases d with
    | list ds =>
      obtain ⟨hl, hw⟩ := h3 ds (.inl rfl)
      refine ⟨_, rfl, h1, _, rfl, iteT ?_⟩
      refine ⟨_, rfl, h1, _, rfl, h1, .inr (.inr ⟨_, _, rfl, rfl, _, rfl, ?_⟩)⟩
      rw [decide_eq_true rfl]
      refine iteF ⟨_, rfl, h1, _, rfl, h1, .inr (.inr ⟨_, _, rfl, rfl, _, rfl, ?_⟩)⟩
      rw [decide_eq_true rfl]
      exact iteF (like_seq (like_self n) (.inl rfl) hl hw hp)
    | tuple ds =>
      obtain ⟨hl, hw⟩ := h3 ds (.inr rfl)
      refine ⟨_, rfl, h1, _, rfl, iteT ?_⟩
      refine ⟨_, rfl, h1, _, rfl, h1, .inr (.inr ⟨_, _, rfl, rfl, _, rfl, ?_⟩)⟩
      rw [decide_eq_true rfl]
      refine iteF ⟨_, rfl, h1, _, rfl, h1, .inr (.inr ⟨_, _, rfl, rfl, _, rfl, ?_⟩)⟩
      rw [decide_eq_true rfl]
      exact iteF (like_seq (like_self n) (.inr rfl) hl hw hp)
    | dict k => exact absurd rfl (h1 k)
    | none =>
      refine ⟨_, rfl, h1, _, rfl, iteF ⟨_, rfl, h1, _, rfl, iteF ⟨_, rfl, h1, _, rfl, h1, .inr (.inr ⟨_, _, rfl, rfl, _, rfl, ?_⟩)⟩⟩⟩
      rw [decide_eq_true rfl]
      exact iteT ⟨_, rfl, _, rfl, eqD_self h2 hp⟩
    | bool k =>
      refine ⟨_, rfl, h1, _, rfl, iteF ⟨_, rfl, h1, _, rfl, iteF ⟨_, rfl, h1, _, rfl, h1, .inr (.inr ⟨_, _, rfl, rfl, _, rfl, ?_⟩)⟩⟩⟩
      rw [decide_eq_true rfl]
      exact iteT ⟨_, rfl, _, rfl, eqD_self h2 hp⟩
    | int k =>
      refine ⟨_, rfl, h1, _, rfl, iteF ⟨_, rfl, h1, _, rfl, iteF ⟨_, rfl, h1, _, rfl, h1, .inr (.inr ⟨_, _, rfl, rfl, _, rfl, ?_⟩)⟩⟩⟩
      rw [decide_eq_true rfl]
      exact iteT ⟨_, rfl, _, rfl, eqD_self h2 hp⟩
    | str k =>
      refine ⟨_, rfl, h1, _, rfl, iteF ⟨_, rfl, h1, _, rfl, iteF ⟨_, rfl, h1, _, rfl, h1, .inr (.inr ⟨_, _, rfl, rfl, _, rfl, ?_⟩)⟩⟩⟩
      rw [decide_eq_true rfl]
      exact iteT ⟨_, rfl, _, rfl, eqD_self h2 hp⟩
end
end LT

/-! LMk: numbers tell the readings (plain mathematics). -/
namespace LT
section
variable {α : Type} [DecidableEq α]
/-- the readings that lift these numbers -/
def rb (dft : α) : List α → List Nat → List α
  | _, [] => []
  | ps, n :: ns => ps.getD n dft :: rb dft (tk ps (ps.getD n dft)) ns
def ustep (dft : α) (n : Nat) (s : List α × List α) : List α × List α := (s.1.tail.take n ++ [s.1.headD dft] ++ s.1.tail.drop n, s.1.headD dft :: s.2)
def ud (dft : α) (ps : List α) (ns : List Nat) : List α × List α := ns.foldr (ustep dft) (ps, [])
theorem rb_lf (dft : α) : ∀ (rs ps : List α), (∀ r ∈ rs, r ∈ ps) → rb dft ps (lf ps rs) = rs
  | [], _, _ => rfl
  | r :: rs, ps, h => by
    have hr := h r (List.mem_cons_self ..)
    have e : ps.getD (ps.idxOf r) dft = r := by
      rw [List.getD_eq_getElem?_getD, (idx_at hr).1]; rfl
    show ps.getD (ps.idxOf r) dft :: rb dft (tk ps (ps.getD (ps.idxOf r) dft)) (lf (tk ps r) rs) = _
    rw [e, rb_lf dft rs (tk ps r) fun x hx => (tk_perm hr).mem_iff.mpr (h x (List.mem_cons_of_mem _ hx))]
theorem back_tk (dft : α) {ps : List α} {r : α} (hr : r ∈ ps) (s : List α) : ustep dft (ps.idxOf r) (tk ps r, s) = (ps, r :: s) := by
  unfold ustep tk
  have e : ps.erase r = ps.take (ps.idxOf r) ++ ps.drop (ps.idxOf r + 1) := by rw [← erase_idx, List.eraseIdx_eq_take_drop_succ]
  obtain ⟨h1, _⟩ := idx_at hr
  obtain ⟨hi, hx⟩ := List.getElem?_eq_some_iff.mp h1
  have hl : (ps.take (ps.idxOf r)).length = ps.idxOf r := by rw [List.length_take]; omega
  simp only [List.tail_cons, List.headD_cons]
  rw [e, List.take_left' hl, List.drop_left' hl]
  have : ps.drop (ps.idxOf r) = r :: ps.drop (ps.idxOf r + 1) := by rw [List.drop_eq_getElem_cons hi, hx]
  rw [List.append_assoc, List.singleton_append, ← this, List.take_append_drop]
theorem ud_lf (dft : α) : ∀ (rs ps : List α), (∀ r ∈ rs, r ∈ ps) → ud dft (bh ps rs) (lf ps rs) = (ps, rs)
  | [], _, _ => rfl
  | r :: rs, ps, h => by
    have hr := h r (List.mem_cons_self ..)
    show ustep dft (ps.idxOf r) (ud dft (bh (tk ps r) rs) (lf (tk ps r) rs)) = _
    rw [ud_lf dft rs (tk ps r) fun x hx => (tk_perm hr).mem_iff.mpr (h x (List.mem_cons_of_mem _ hx))]
    exact back_tk dft hr rs
theorem idx_getD (dft : α) {ps : List α} (nd : ps.Nodup) {n : Nat} (h : n < ps.length) : ps.idxOf (ps.getD n dft) = n ∧ ps.getD n dft ∈ ps := by
  have e : ps.getD n dft = ps[n] := by simp [List.getD, h]
  rw [e]
  exact ⟨nd.idxOf_getElem n h, List.getElem_mem h⟩
theorem lf_rb (dft : α) : ∀ (ns : List Nat) (ps : List α), ps.Nodup → (∀ n ∈ ns, n < ps.length) → lf ps (rb dft ps ns) = ns ∧ (∀ r ∈ rb dft ps ns, r ∈ ps) ∧ (rb dft ps ns).length = ns.length
  | [], _, _, _ => ⟨rfl, (fun r hr => by cases hr), rfl⟩
  | n :: ns, ps, nd, h => by
    obtain ⟨h1, h2⟩ := idx_getD dft nd (h n (List.mem_cons_self ..))
    have pm := tk_perm h2
    obtain ⟨i1, i2, i3⟩ := lf_rb dft ns (tk ps (ps.getD n dft)) (pm.nodup_iff.mpr nd) fun m hm => by rw [pm.length_eq]; exact h m (List.mem_cons_of_mem _ hm)
    refine ⟨?_, fun r hr => ?_, ?_⟩
    · show ps.idxOf (ps.getD n dft) :: lf (tk ps (ps.getD n dft)) (rb dft (tk ps (ps.getD n dft)) ns) = _
      rw [h1, i1]
    · rcases List.mem_cons.mp hr with e | e
      · rw [e]; exact h2
      · exact pm.mem_iff.mp (i2 r e)
    · show (rb dft _ ns).length + 1 = ns.length + 1
      rw [i3]
theorem un_one (dft : α) {ps : List α} {n : Nat} (nd : ps.Nodup) (h : n < ps.length) (s : List α) : (ustep dft n (ps, s)).1.Perm ps ∧ (ustep dft n (ps, s)).1.idxOf (ps.headD dft) = n ∧ tk (ustep dft n (ps, s)).1 (ps.headD dft) = ps ∧ ps.headD dft ∈ ps := by
  cases ps with
  | nil => simp at h
  | cons b rest =>
    have hb : b ∉ rest := (List.nodup_cons.mp nd).1
    have hn : n ≤ rest.length := by simpa using Nat.le_of_lt_succ h
    have hbt : b ∉ rest.take n := fun q => hb (List.mem_of_mem_take q)
    have hl : (rest.take n).length = n := by rw [List.length_take]; omega
    have e : (ustep dft n (b :: rest, s)).1 = rest.take n ++ (b :: rest.drop n) := by
      unfold ustep
      simp
    have hi : (rest.take n ++ (b :: rest.drop n)).idxOf b = n := by
      rw [List.idxOf_append, if_neg hbt, List.idxOf_cons_self, hl, Nat.zero_add]
    rw [e]
    refine ⟨?_, hi, ?_, List.mem_cons_self ..⟩
    · have := List.perm_middle (a := b) (l₁ := rest.take n) (l₂ := rest.drop n)
      rw [List.take_append_drop] at this
      exact this
    · show b :: (rest.take n ++ (b :: rest.drop n)).erase b = _
      rw [List.erase_append_right _ hbt, List.erase_cons_head, List.take_append_drop]
theorem ud_all (dft : α) {ps : List α} (nd : ps.Nodup) : ∀ ns : List Nat, (∀ n ∈ ns, n < ps.length) → (ud dft ps ns).1.Perm ps ∧ bh (ud dft ps ns).1 (ud dft ps ns).2 = ps ∧ lf (ud dft ps ns).1 (ud dft ps ns).2 = ns ∧ (∀ r ∈ (ud dft ps ns).2, r ∈ ps)
  | [], _ => ⟨List.Perm.refl _, rfl, rfl, (fun r hr => by cases hr)⟩
  | n :: ns, h => by
    obtain ⟨i1, i2, i3, i4⟩ := ud_all dft nd ns fun m hm => h m (List.mem_cons_of_mem _ hm)
    have e : ud dft ps (n :: ns) = ustep dft n (ud dft ps ns) := rfl
    rw [e]
    generalize ud dft ps ns = q at i1 i2 i3 i4
    obtain ⟨p, rs⟩ := q
    simp only at i1 i2 i3 i4
    obtain ⟨h1, h2, h3, h4⟩ := un_one dft (i1.nodup_iff.mpr nd) (n := n) (by rw [i1.length_eq]; exact h n (List.mem_cons_self ..)) rs
    have e2 : (ustep dft n (p, rs)).2 = p.headD dft :: rs := rfl
    rw [e2]
    refine ⟨h1.trans i1, ?_, ?_, fun r hr => ?_⟩
    · rw [bh_cons, h3]; exact i2
    · show (ustep dft n (p, rs)).1.idxOf (p.headD dft) :: lf (tk (ustep dft n (p, rs)).1 (p.headD dft)) rs = _
      rw [h2, h3, i3]
    · rcases List.mem_cons.mp hr with e | e
      · rw [e]; exact i1.mem_iff.mp h4
      · exact i4 r e
theorem ud_len (dft : α) (ps : List α) : ∀ ns : List Nat, (ud dft ps ns).2.length = ns.length
  | [] => rfl
  | n :: ns => by
    show (ud dft ps ns).2.length + 1 = ns.length + 1
    rw [ud_len dft ps ns]
end
end LT

/-! LMs: texts in order; all orders of a row (plain mathematics). -/
namespace LT
open PySem PySem.Spec PyProof.Rows
theorem ltCps_iff : ∀ a b : List Nat, ltCps a b = true ↔ a < b
  | [], [] => by simp [ltCps]
  | [], _ :: _ => by simp [ltCps]
  | _ :: _, [] => by simp [ltCps]
  | a :: r, b :: t => by
    rw [List.cons_lt_cons_iff, ← ltCps_iff r t]
    simp [ltCps]
def sle (a b : Str) : Prop := a.cps.toList ≤ b.cps.toList
instance (a b : Str) : Decidable (sle a b) := inferInstanceAs (Decidable (a.cps.toList ≤ b.cps.toList))
theorem sle_anti {a b : Str} (h : sle a b) (h' : sle b a) : a = b := str_ext (List.le_antisymm h h')
theorem sle_trans {a b c : Str} (h : sle a b) (h' : sle b c) : sle a c := List.le_trans h h'
theorem sle_total (a b : Str) : sle a b ∨ sle b a := List.le_total _ _
theorem rising_pw : ∀ (l : List Str) (p : Str), risingS p l = true → (p :: l).Pairwise sle
  | [], p, _ => by simp
  | x :: r, p, h => by
    simp only [risingS, Bool.and_eq_true, Bool.not_eq_true'] at h
    have hx : sle p x := by
      have : ¬ x.cps.toList < p.cps.toList := fun q => by
        rw [← ltCps_iff] at q
        rw [q] at h
        exact nomatch h.1
      exact List.not_lt.mp this
    have ih := rising_pw r x h.2
    rw [List.pairwise_cons] at ih ⊢
    refine ⟨fun y hy => ?_, List.pairwise_cons.mpr ih⟩
    rcases List.mem_cons.mp hy with e | e
    · rw [e]; exact hx
    · exact sle_trans hx (ih.1 y e)
theorem sorted_pw {l : List Str} (h : sortedS l = true) : l.Pairwise sle := by
  cases l with
  | nil => exact List.Pairwise.nil
  | cons x r => exact rising_pw r x h
theorem pw_eq : ∀ {l k : List Str}, l.Perm k → l.Pairwise sle → k.Pairwise sle → l = k
  | [], k, h, _, _ => by rw [List.nil_perm.mp h]
  | a :: l, [], h, _, _ => by have := h.length_eq; simp at this
  | a :: l, b :: k, h, h1, h2 => by
    rw [List.pairwise_cons] at h1 h2
    have e : a = b := by
      have ha : a ∈ b :: k := h.mem_iff.mp (List.mem_cons_self ..)
      have hb : b ∈ a :: l := h.mem_iff.mpr (List.mem_cons_self ..)
      rcases List.mem_cons.mp ha with q | q
      · exact q
      · rcases List.mem_cons.mp hb with q' | q'
        · exact q'.symm
        · exact sle_anti (h1.1 b q') (h2.1 a q)
    subst e
    rw [pw_eq (List.perm_cons a |>.mp h) h1.2 h2.2]
def srt (l : List Str) : List Str := l.mergeSort fun a b => decide (sle a b)
theorem srt_perm (l : List Str) : (srt l).Perm l := List.mergeSort_perm _ _
theorem srt_pw (l : List Str) : (srt l).Pairwise sle := by
  have := List.pairwise_mergeSort (le := fun a b => decide (sle a b)) (fun a b c h h' => decide_eq_true (sle_trans (of_decide_eq_true h) (of_decide_eq_true h'))) (fun a b => by
    rcases sle_total a b with h | h
    · simp [h]
    · simp [h]) l
  exact this.imp fun h => of_decide_eq_true h
theorem srt_of {l k : List Str} (h : k.Perm l) (hs : sortedS k = true) : k = srt l := pw_eq (h.trans (srt_perm l).symm) (sorted_pw hs) (srt_pw l)
theorem srt_len (l : List Str) : (srt l).length = l.length := (srt_perm l).length_eq
theorem srt_congr {l k : List Str} (h : l.Perm k) : srt l = srt k := pw_eq (((srt_perm l).trans h).trans (srt_perm k).symm) (srt_pw l) (srt_pw k)
/-! ### all orders -/
section
variable {α : Type} [DecidableEq α]
/-- a row without its i-th -/
def wo (bs : List α) (i : Nat) : List α := bs.take i ++ bs.drop (i + 1)
def od (dft : α) : Nat → List α → List (List α)
  | 0, _ => [[]]
  | n + 1, bs => if bs.length = 0 then [[]] else (List.range bs.length).flatMap fun i => (od dft n (wo bs i)).map fun r => bs.getD i dft :: r
theorem wo_len {bs : List α} {i : Nat} (h : i < bs.length) : (wo bs i).length + 1 = bs.length := by
  unfold wo
  rw [List.length_append, List.length_take, List.length_drop]
  omega
theorem wo_perm (dft : α) {bs : List α} {i : Nat} (h : i < bs.length) : (bs.getD i dft :: wo bs i).Perm bs := by
  have e : bs.getD i dft = bs[i] := by simp [List.getD, h]
  unfold wo
  rw [e]
  have e2 : bs = bs.take i ++ (bs[i] :: bs.drop (i + 1)) := by rw [← List.drop_eq_getElem_cons h, List.take_append_drop]
  conv => rhs; rw [e2]
  exact (List.perm_middle).symm
theorem od_perm (dft : α) : ∀ (n : Nat) (bs l : List α), bs.length ≤ n → l ∈ od dft n bs → l.Perm bs
  | 0, bs, l, h, hl => by
    have hb : bs = [] := List.length_eq_zero_iff.mp (by omega)
    subst hb
    rw [List.mem_singleton.mp hl]
  | n + 1, bs, l, h, hl => by
    unfold od at hl
    split at hl
    · rename_i h0
      rw [List.length_eq_zero_iff.mp h0, List.mem_singleton.mp hl]
    · obtain ⟨i, hi, h2⟩ := List.mem_flatMap.mp hl
      obtain ⟨r, hr, rfl⟩ := List.mem_map.mp h2
      have hi := List.mem_range.mp hi
      have := od_perm dft n (wo bs i) r (by have := wo_len hi; omega) hr
      exact (this.cons _).trans (wo_perm dft hi)
theorem mem_od (dft : α) : ∀ (n : Nat) (bs l : List α), bs.length ≤ n → l.Perm bs → l ∈ od dft n bs
  | 0, bs, l, h, hl => by
    have hb : bs = [] := List.length_eq_zero_iff.mp (by omega)
    subst hb
    rw [List.perm_nil.mp hl]; exact List.mem_singleton.mpr rfl
  | n + 1, bs, l, h, hl => by
    unfold od
    split
    · rename_i h0
      rw [List.length_eq_zero_iff.mp h0] at hl
      rw [List.perm_nil.mp hl]; exact List.mem_singleton.mpr rfl
    · rename_i h0
      cases l with
      | nil => have := hl.length_eq; simp at this; omega
      | cons a r =>
        have ha : a ∈ bs := hl.mem_iff.mp (List.mem_cons_self ..)
        have hi : bs.idxOf a < bs.length := List.idxOf_lt_length_of_mem ha
        refine List.mem_flatMap.mpr ⟨bs.idxOf a, List.mem_range.mpr hi, ?_⟩
        have e : bs.getD (bs.idxOf a) dft = a := by
          rw [List.getD_eq_getElem?_getD, (idx_at ha).1]; rfl
        have pm := wo_perm dft hi
        rw [e] at pm
        refine List.mem_map.mpr ⟨r, mem_od dft n _ r (by have := wo_len hi; omega) ?_, by rw [e]⟩
        exact (List.perm_cons a).mp (hl.trans pm.symm)
theorem od_nodup (dft : α) : ∀ (n : Nat) (bs : List α), bs.Nodup → bs.length ≤ n → (od dft n bs).Nodup
  | 0, bs, _, _ => by simp [od]
  | n + 1, bs, nd, h => by
    unfold od
    split
    · simp
    · have key : ∀ (is : List Nat), is.Nodup → (∀ i ∈ is, i < bs.length) → (is.flatMap fun i => (od dft n (wo bs i)).map fun r => bs.getD i dft :: r).Nodup := by
        intro is
        induction is with
        | nil => intro _ _; simp
        | cons i is ih =>
          intro ndi hi
          rw [List.nodup_cons] at ndi
          rw [List.flatMap_cons, List.nodup_append]
          have hi0 := hi i (List.mem_cons_self ..)
          refine ⟨?_, ih ndi.2 fun j hj => hi j (List.mem_cons_of_mem _ hj), ?_⟩
          · have ndw : (wo bs i).Nodup := by
              have := (wo_perm dft hi0).nodup_iff.mpr nd
              exact (List.nodup_cons.mp this).2
            refine List.Pairwise.map _ (fun x y hxy e => hxy ?_) (od_nodup dft n (wo bs i) ndw (by have := wo_len hi0; omega))
            exact (List.cons.inj e).2
          · intro x hx y hy e
            obtain ⟨r, _, rfl⟩ := List.mem_map.mp hx
            obtain ⟨j, hj, hy2⟩ := List.mem_flatMap.mp hy
            obtain ⟨r', _, rfl⟩ := List.mem_map.mp hy2
            have hj0 := hi j (List.mem_cons_of_mem _ hj)
            have e1 := (List.cons.inj e).1
            have ei : bs.getD i dft = bs[i] := by simp [List.getD, hi0]
            have ej : bs.getD j dft = bs[j] := by simp [List.getD, hj0]
            rw [ei, ej] at e1
            have : i = j := (List.getElem_inj nd).mp e1
            exact ndi.1 (this ▸ hj)
      exact key _ List.nodup_range fun i hi => List.mem_range.mp hi
theorem flat_len {β γ : Type} (f : β → List γ) (b : Nat) : ∀ l : List β, (∀ x ∈ l, (f x).length ≤ b) → (l.flatMap f).length ≤ l.length * b
  | [], _ => by simp
  | x :: l, h => by
    rw [List.flatMap_cons, List.length_append, List.length_cons, Nat.add_mul, Nat.one_mul]
    have h1 := h x (List.mem_cons_self ..)
    have h2 := flat_len f b l fun y hy => h y (List.mem_cons_of_mem _ hy)
    omega
theorem od_len (dft : α) : ∀ (n : Nat) (bs : List α), bs.length ≤ 5 → bs.length ≤ n → (od dft n bs).length ≤ 5 ^ bs.length
  | 0, bs, _, _ => by
    show 1 ≤ _
    exact Nat.pos_of_ne_zero (by simp)
  | n + 1, bs, h5, h => by
    unfold od
    split
    · show 1 ≤ _
      exact Nat.pos_of_ne_zero (by simp)
    · rename_i h0
      refine Nat.le_trans (flat_len _ (5 ^ (bs.length - 1)) _ fun i hi => ?_) ?_
      · have hi := List.mem_range.mp hi
        have hw := wo_len hi
        rw [List.length_map]
        have := od_len dft n (wo bs i) (by omega) (by omega)
        rw [show (wo bs i).length = bs.length - 1 by omega] at this
        exact this
      · rw [List.length_range]
        have e : 5 ^ bs.length = 5 * 5 ^ (bs.length - 1) := by
          rw [← Nat.pow_succ']
          congr 1; omega
        rw [e]
        exact Nat.mul_le_mul_right _ h5
end
end LT

/-! LTn: what lies where behind readings; the fewest readings to a pile. -/
namespace LT
section
variable {α : Type} [DecidableEq α]
/-- books by their last wants, the latest first -/
def lw : List α → List α
  | [] => []
  | r :: rs => if r ∈ rs then lw rs else lw rs ++ [r]
theorem mem_lw {x : α} : ∀ {rs : List α}, x ∈ lw rs ↔ x ∈ rs
  | [] => Iff.rfl
  | r :: rs => by
    unfold lw
    split
    · rename_i h
      rw [mem_lw, List.mem_cons]
      exact ⟨.inr, fun q => q.elim (fun e => e ▸ h) id⟩
    · rw [List.mem_append, mem_lw, List.mem_singleton, List.mem_cons]
      exact ⟨fun q => q.elim .inr .inl, fun q => q.elim .inr .inl⟩
theorem lw_nodup : ∀ rs : List α, (lw rs).Nodup
  | [] => List.nodup_nil
  | r :: rs => by
    unfold lw
    split
    · exact lw_nodup rs
    · rename_i h
      rw [List.nodup_append]
      refine ⟨lw_nodup rs, by simp, fun x hx y hy => ?_⟩
      rw [List.mem_singleton] at hy
      subst hy
      intro e
      subst e
      exact h (mem_lw.mp hx)
theorem lw_length : ∀ rs : List α, (lw rs).length ≤ rs.length
  | [] => Nat.le_refl _
  | r :: rs => by
    have := lw_length rs
    unfold lw
    split
    · simp only [List.length_cons]; omega
    · simp only [List.length_append, List.length_cons, List.length_nil]; omega
theorem lw_full : ∀ {rs : List α}, (lw rs).length = rs.length → lw rs = rs.reverse
  | [], _ => rfl
  | r :: rs, h => by
    have := lw_length rs
    unfold lw at h ⊢
    split at h
    · simp only [List.length_cons] at h; omega
    · rename_i hn
      rw [if_neg hn, List.reverse_cons, lw_full (by simpa using h)]
theorem filter_erase {p : α → Bool} {ps : List α} {z : α} (h : p z = false) : (ps.erase z).filter p = ps.filter p := by
  induction ps with
  | nil => rfl
  | cons a r ih =>
    by_cases e : a = z
    · subst e
      rw [List.erase_cons_head, List.filter_cons_of_neg (by simp [h])]
    · rw [List.erase_cons_tail (by simpa using e), List.filter_cons, List.filter_cons, ih]
/-- behind readings: wanted ones by their last wants, the others as they lay -/
theorem bh_lies : ∀ {rs ps : List α}, ps.Nodup → (∀ r ∈ rs, r ∈ ps) → bh ps rs = lw rs ++ ps.filter (fun b => !decide (b ∈ rs))
  | [], ps, _, _ => by
    rw [bh_nil, List.filter_eq_self.mpr (by simp)]
    rfl
  | r :: rs, ps, nd, h => by
    have hr := h r (List.mem_cons_self ..)
    have pm := tk_perm hr
    rw [bh_cons, bh_lies (pm.nodup_iff.mpr nd) fun x hx => pm.mem_iff.mpr (h x (List.mem_cons_of_mem _ hx))]
    have e1 : lw (r :: rs) = if r ∈ rs then lw rs else lw rs ++ [r] := rfl
    rw [e1]
    unfold tk
    have key : ps.filter (fun b => !decide (b ∈ r :: rs)) = (ps.erase r).filter (fun b => !decide (b ∈ rs)) := by
      rw [nd.erase_eq_filter, List.filter_filter]
      apply List.filter_congr
      intro x _
      simp only [List.mem_cons]
      by_cases e : x = r <;> by_cases e2 : x ∈ rs <;> simp [e, e2]
    rw [key]
    by_cases e : r ∈ rs
    · rw [if_pos e, List.filter_cons_of_neg (by simp [e])]
    · rw [if_neg e, List.filter_cons_of_pos (by simp [e]), List.append_assoc]
      rfl
/-! ### the fewest readings -/
/-- the other pile's lowest ones, from below, as long as each lies above what was kept -/
def kp (left : List α) : List α → List α
  | [] => []
  | o :: os => if o ∈ left then kp (left.take (left.idxOf o)) os else o :: os
def Good (ps os : List α) (k : Nat) : Prop := ps.filter (fun b => decide (b ∈ os.drop k)) = os.drop k
theorem filter_mem_self {l : List α} {p : α → Bool} (h : ∀ x ∈ l, p x = true) : l.filter p = l := List.filter_eq_self.mpr h
theorem Good.up {ps os : List α} {k : Nat} (nd : os.Nodup) (h : Good ps os k) : Good ps os (k + 1) := by
  unfold Good at h ⊢
  by_cases hk : k < os.length
  · have e : os.drop k = os[k] :: os.drop (k + 1) := List.drop_eq_getElem_cons hk
    have nd2 : (os.drop k).Nodup := nd.sublist (List.drop_sublist k os)
    have h2 := congrArg (List.filter fun b => decide (b ∈ os.drop (k + 1))) h
    rw [List.filter_filter] at h2
    have e1 : ps.filter (fun a => (decide (a ∈ os.drop (k + 1)) && decide (a ∈ os.drop k))) = ps.filter (fun b => decide (b ∈ os.drop (k + 1))) := by
      apply List.filter_congr
      intro x _
      by_cases hx : x ∈ os.drop (k + 1)
      · have hx2 : x ∈ os.drop k := by rw [e]; exact List.mem_cons_of_mem _ hx
        rw [decide_eq_true hx, decide_eq_true hx2]; rfl
      · rw [decide_eq_false hx]; rfl
    rw [e1, e] at h2
    rw [h2, List.filter_cons_of_neg, filter_mem_self]
    · intro x hx; simpa using hx
    · rw [e, List.nodup_cons] at nd2
      simpa using nd2.1
  · rw [List.drop_eq_nil_of_le (by omega)]
    simp
theorem Good.mono {ps os : List α} {k : Nat} (nd : os.Nodup) (h : Good ps os k) : ∀ j, Good ps os (k + j)
  | 0 => h
  | j + 1 => (Good.mono nd h j).up nd
theorem good_end (ps os : List α) : Good ps os os.length := by
  unfold Good
  rw [List.drop_length]
  simp
theorem kp_spec (ps os : List α) (nd : ps.Nodup) (pm : os.Perm ps) : ∀ (k : Nat) (left rest : List α), k ≤ os.length → ps = left ++ rest → rest.filter (fun b => decide (b ∈ os.drop k)) = os.drop k →
    (∀ x ∈ left, x ∉ os.drop k) → (k = os.length ∧ rest = [] ∨ ∃ x r, rest = x :: r ∧ x ∈ os.drop k) →
    ∃ j, j ≤ k ∧ kp left (os.take k).reverse = (os.take j).reverse ∧ Good ps os j ∧ (0 < j → ¬ Good ps os (j - 1))
  | 0, left, rest, _, hp, hf, hl, _ => by
    refine ⟨0, Nat.le_refl _, rfl, ?_, fun h => absurd h (Nat.lt_irrefl _)⟩
    unfold Good
    rw [hp, List.filter_append, hf, List.filter_eq_nil_iff.mpr (fun x hx => by simpa using hl x hx), List.nil_append]
  | k + 1, left, rest, hk, hp, hf, hl, hh => by
    have hkl : k < os.length := hk
    have nd2 : os.Nodup := pm.nodup_iff.mpr nd
    have e : os.drop k = os[k] :: os.drop (k + 1) := List.drop_eq_getElem_cons hkl
    have et : (os.take (k + 1)).reverse = os[k] :: (os.take k).reverse := by
      rw [take_snoc (List.getElem?_eq_getElem hkl), List.reverse_append]
      rfl
    have ndd : (os.drop k).Nodup := nd2.sublist (List.drop_sublist k os)
    rw [e, List.nodup_cons] at ndd
    have hmem : os[k] ∈ ps := pm.mem_iff.mp (List.getElem_mem hkl)
    have ndp := nd
    rw [hp, List.nodup_append] at ndp
    obtain ⟨ndl, ndr, ndx⟩ := ndp
    rw [et]
    unfold kp
    by_cases ho : os[k] ∈ left
    · rw [if_pos ho]
      obtain ⟨i1, i2⟩ := idx_at ho
      have hil : left.idxOf os[k] < left.length := (List.getElem?_eq_some_iff.mp i1).1
      have el : left = left.take (left.idxOf os[k]) ++ (os[k] :: left.drop (left.idxOf os[k] + 1)) := by
        have e3 : left.drop (left.idxOf os[k]) = left[left.idxOf os[k]] :: left.drop (left.idxOf os[k] + 1) := List.drop_eq_getElem_cons hil
        rw [(List.getElem?_eq_some_iff.mp i1).2] at e3
        rw [← e3, List.take_append_drop]
      have nde := ndl
      rw [el, List.nodup_append, List.nodup_cons] at nde
      obtain ⟨n1, ⟨n2, n3⟩, n4⟩ := nde
      have hp' : ps = left.take (left.idxOf os[k]) ++ (os[k] :: left.drop (left.idxOf os[k] + 1) ++ rest) := by
        rw [hp]
        conv => lhs; rw [el]
        rw [List.append_assoc]
      have go := kp_spec ps os nd pm k (left.take (left.idxOf os[k])) (os[k] :: left.drop (left.idxOf os[k] + 1) ++ rest) (by omega) hp'
      refine (fun h1 h2 h3 => (go h1 h2 h3).elim fun j hj => ⟨j, by omega, hj.2⟩) ?_ ?_ ?_
      · rw [e]
        generalize os[k] = ok at *
        rw [List.cons_append, List.filter_cons_of_pos (by simp), List.filter_append]
        have g1 : (left.drop (left.idxOf ok + 1)).filter (fun b => decide (b ∈ ok :: os.drop (k + 1))) = [] := by
          apply List.filter_eq_nil_iff.mpr
          intro x hx
          have hxl : x ∈ left := List.mem_of_mem_drop hx
          have : x ≠ ok := fun q => n2 (q ▸ hx)
          simp [this, hl x hxl]
        have g2 : rest.filter (fun b => decide (b ∈ ok :: os.drop (k + 1))) = rest.filter (fun b => decide (b ∈ os.drop (k + 1))) := by
          apply List.filter_congr
          intro x hx
          have : x ≠ ok := fun q => ndx _ ho _ hx q.symm
          simp [this]
        rw [g1, g2, hf, List.nil_append]
      · intro x hx
        rw [e, List.mem_cons]
        rintro (q | q)
        · exact n4 x hx os[k] (List.mem_cons_self ..) q
        · exact hl x (List.mem_of_mem_take hx) q
      · exact .inr ⟨os[k], left.drop (left.idxOf os[k] + 1) ++ rest, rfl, by rw [e]; exact List.mem_cons_self ..⟩
    · rw [if_neg ho]
      refine ⟨k + 1, Nat.le_refl _, by rw [et], ?_, fun _ => ?_⟩
      · unfold Good
        rw [hp, List.filter_append, hf, List.filter_eq_nil_iff.mpr (fun x hx => by simpa using hl x hx), List.nil_append]
      · rw [Nat.add_sub_cancel]
        intro hg
        unfold Good at hg
        rcases hh with ⟨h1, h2⟩ | ⟨x, r, h1, h2⟩
        · rw [h2, List.append_nil] at hp
          exact ho (hp ▸ hmem)
        · rw [hp, List.filter_append, List.filter_eq_nil_iff.mpr, List.nil_append, h1, e, List.filter_cons_of_pos (p := fun b => decide (b ∈ os[k] :: List.drop (k + 1) os)) (a := x) (l := r) (decide_eq_true (List.mem_cons_of_mem _ h2))] at hg
          · have : x = os[k] := (List.cons.inj hg).1
            exact ndd.1 (this ▸ h2)
          · intro y hy
            rw [e, decide_eq_true_iff, List.mem_cons]
            rintro (q | q)
            · exact ho (q ▸ hy)
            · exact hl y hy q
/-- how many of the lowest books of the other pile lie in its order in the first one -/
def stay (ps os : List α) : Nat → Nat
  | 0 => 0
  | k + 1 => if ps.filter (fun b => decide (b ∈ os.drop (os.length - k))) = os.drop (os.length - k) then k else stay ps os k
theorem stay_eq {ps os : List α} {j : Nat} (nd : os.Nodup) (hj : j ≤ os.length) (h : Good ps os j) (h2 : 0 < j → ¬ Good ps os (j - 1)) : ∀ k, os.length - j < k → k ≤ os.length + 1 → stay ps os k = os.length - j
  | 0, h3, _ => absurd h3 (Nat.not_lt_zero _)
  | k + 1, h3, h4 => by
    unfold stay
    by_cases e : k = os.length - j
    · subst e
      rw [if_pos]
      have : os.length - (os.length - j) = j := by omega
      rw [this]; exact h
    · rw [if_neg, stay_eq nd hj h h2 k (by omega) (by omega)]
      intro hg
      have hg' : Good ps os (os.length - k) := hg
      have := hg'.mono nd (j - 1 - (os.length - k))
      rw [show os.length - k + (j - 1 - (os.length - k)) = j - 1 by omega] at this
      exact h2 (by omega) this
/-- all that the law asks of the told readings -/
theorem fewest {ps os : List α} (nd : ps.Nodup) (pm : os.Perm ps) :
    bh ps (kp ps os.reverse) = os ∧ (∀ r ∈ kp ps os.reverse, r ∈ ps) ∧ (kp ps os.reverse).length + stay ps os (os.length + 1) = ps.length ∧ (kp ps os.reverse).length ≤ ps.length ∧
    (∀ row : List α, (∀ r ∈ row, r ∈ ps) → bh ps row = os → (kp ps os.reverse).length ≤ row.length ∧ (row.length = (kp ps os.reverse).length → row = kp ps os.reverse)) := by
  have nd2 : os.Nodup := pm.nodup_iff.mpr nd
  obtain ⟨j, h1, h2, h3, h4⟩ := kp_spec ps os nd pm os.length ps [] (Nat.le_refl _) (by simp) (by simp) (by simp) (.inl ⟨rfl, rfl⟩)
  rw [List.take_length] at h2
  have hl : (kp ps os.reverse).length = j := by rw [h2, List.length_reverse, List.length_take, Nat.min_eq_left h1]
  have hst := stay_eq nd2 h1 h3 h4 (os.length + 1) (by omega) (Nat.le_refl _)
  have hmem : ∀ r ∈ kp ps os.reverse, r ∈ ps := fun r hr => by
    rw [h2, List.mem_reverse] at hr
    exact pm.mem_iff.mp (List.mem_of_mem_take hr)
  have hlen := pm.length_eq
  refine ⟨?_, hmem, by rw [hl, hst]; omega, by rw [hl]; omega, fun row hr hb => ?_⟩
  · rw [bh_lies nd hmem, h2]
    have ndt : (os.take j).Nodup := nd2.sublist (List.take_sublist j os)
    have e1 : lw (os.take j).reverse = os.take j := by
      have : ∀ l : List α, l.Nodup → lw l = l.reverse := by
        intro l hl
        induction l with
        | nil => rfl
        | cons a r ih =>
          rw [List.nodup_cons] at hl
          unfold lw
          rw [if_neg hl.1, ih hl.2, List.reverse_cons]
      rw [this _ ((List.reverse_perm _).nodup_iff.mpr ndt), List.reverse_reverse]
    rw [e1]
    have e2 : ps.filter (fun b => !decide (b ∈ (os.take j).reverse)) = ps.filter (fun b => decide (b ∈ os.drop j)) := by
      apply List.filter_congr
      intro x hx
      have hxo : x ∈ os := pm.mem_iff.mpr hx
      have hsp : os = os.take j ++ os.drop j := (List.take_append_drop j os).symm
      have nds := nd2
      rw [hsp, List.nodup_append] at nds
      rw [hsp, List.mem_append] at hxo
      by_cases hx1 : x ∈ os.take j
      · have : x ∉ os.drop j := fun q => nds.2.2 x hx1 x q rfl
        simp [List.mem_reverse, hx1, this]
      · have : x ∈ os.drop j := hxo.resolve_left hx1
        simp [List.mem_reverse, hx1, this]
    rw [e2, h3, List.take_append_drop]
  · have hb' := bh_lies nd hr
    rw [hb] at hb'
    generalize ek : (lw row).length = k at *
    have ekk : os.take k = lw row := by rw [hb', ← ek]; exact List.take_left
    have ed : os.drop k = ps.filter (fun b => !decide (b ∈ row)) := by
      rw [hb', ← ek]; exact List.drop_left
    have hko : k ≤ os.length := by
      have := congrArg List.length hb'
      rw [List.length_append, ek] at this
      omega
    have gk : Good ps os k := by
      unfold Good
      rw [ed]
      apply List.filter_congr
      intro x hx
      by_cases hxr : x ∈ row <;> simp [hxr, hx]
    have hjk : j ≤ k := by
      refine Nat.le_of_not_lt fun hlt => ?_
      have := gk.mono nd2 (j - 1 - k)
      rw [show k + (j - 1 - k) = j - 1 by omega] at this
      exact h4 (by omega) this
    have hkr := lw_length row
    rw [hl]
    refine ⟨by omega, fun he => ?_⟩
    have hk2 : k = row.length := by omega
    have hkj : k = j := by omega
    have := lw_full (rs := row) (by omega)
    rw [h2, ← hkj, ekk, this, List.reverse_reverse]
end
end LT

/-! LMp: pairs, passings; where a book lies (plain mathematics). -/
namespace LT
open PySem PySem.Spec PyProof.Rows
theorem ltS_iff {a b : Str} : (decide (a.cps.toList < b.cps.toList)) = true ↔ sle a b ∧ a ≠ b := by
  rw [decide_eq_true_iff]
  constructor
  · intro h
    refine ⟨?_, fun e => ?_⟩
    · rcases sle_total a b with q | q
      · exact q
      · exact absurd h (List.not_lt.mpr q)
    · subst e
      exact List.lt_irrefl _ h
  · rintro ⟨h, e⟩
    have : ¬ b.cps.toList ≤ a.cps.toList := fun q => e (sle_anti h q)
    exact List.not_le.mp this
section
/-- all two of a row, in its order -/
def prs : List Str → List (Str × Str)
  | [] => []
  | a :: r => r.map (fun o => (a, o)) ++ prs r
theorem prs_mem : ∀ {l : List Str} {p : Str × Str}, l.Pairwise sle → l.Nodup → (p ∈ prs l ↔ p.1 ∈ l ∧ p.2 ∈ l ∧ sle p.1 p.2 ∧ p.1 ≠ p.2)
  | [], p, _, _ => by simp [prs]
  | a :: r, p, hp, nd => by
    rw [List.pairwise_cons] at hp
    rw [List.nodup_cons] at nd
    unfold prs
    rw [List.mem_append, List.mem_map, prs_mem hp.2 nd.2]
    constructor
    · rintro (⟨o, ho, rfl⟩ | ⟨h1, h2, h3, h4⟩)
      · exact ⟨List.mem_cons_self .., List.mem_cons_of_mem _ ho, hp.1 o ho, fun e => by have e : a = o := e; exact nd.1 (e ▸ ho)⟩
      · exact ⟨List.mem_cons_of_mem _ h1, List.mem_cons_of_mem _ h2, h3, h4⟩
    · rintro ⟨h1, h2, h3, h4⟩
      rcases List.mem_cons.mp h1 with e1 | e1
      · rcases List.mem_cons.mp h2 with e2 | e2
        · exact absurd (e1.trans e2.symm) h4
        · exact .inl ⟨p.2, e2, by rw [← e1]⟩
      · rcases List.mem_cons.mp h2 with e2 | e2
        · have := hp.1 p.1 e1
          rw [e2] at h3
          exact absurd (by rw [e2]; exact sle_anti h3 this) h4
        · exact .inr ⟨e1, e2, h3, h4⟩
theorem prs_nodup : ∀ {l : List Str}, l.Nodup → (prs l).Nodup
  | [], _ => by simp [prs]
  | a :: r, nd => by
    rw [List.nodup_cons] at nd
    unfold prs
    rw [List.nodup_append]
    refine ⟨List.Pairwise.map _ (fun x y hxy e => hxy (Prod.mk.inj e).2) nd.2, prs_nodup nd.2, fun x hx y hy e => ?_⟩
    obtain ⟨o, ho, rfl⟩ := List.mem_map.mp hx
    subst e
    have : ∀ {l : List Str} {p : Str × Str}, p ∈ prs l → p.1 ∈ l := by
      intro l
      induction l with
      | nil => intro p hp; cases hp
      | cons b s ih =>
        intro p hp
        unfold prs at hp
        rcases List.mem_append.mp hp with h | h
        · obtain ⟨o', _, rfl⟩ := List.mem_map.mp h
          exact List.mem_cons_self ..
        · exact List.mem_cons_of_mem _ (ih h)
    exact nd.1 (this hy)
theorem prs_len : ∀ l : List Str, (prs l).length ≤ l.length * l.length
  | [] => by simp [prs]
  | a :: r => by
    unfold prs
    have := prs_len r
    rw [List.length_append, List.length_map, List.length_cons, Nat.add_mul, Nat.mul_add, Nat.one_mul]
    omega
theorem prs_step {l : List Str} : ∀ {j : Nat} {a : Str}, l[j]? = some a → prs (l.drop j) = (l.drop (j + 1)).map (fun o => (a, o)) ++ prs (l.drop (j + 1)) := fun {j a} h => by
  obtain ⟨hj, ha⟩ := List.getElem?_eq_some_iff.mp h
  rw [List.drop_eq_getElem_cons hj, ha]
  rfl
/-- how often two passed one another -/
def hit (a b : Str) (r : Str × Str) : Bool := decide (r = (a, b) ∨ r = (b, a))
def cnt2 (rows : List (Str × Str)) (a b : Str) : Nat := rows.countP (hit a b)
theorem cnt2_snoc (rows : List (Str × Str)) (r : Str × Str) (a b : Str) : cnt2 (rows ++ [r]) a b = cnt2 rows a b + if hit a b r then 1 else 0 := by
  unfold cnt2
  rw [List.countP_append, List.countP_singleton]
theorem hit_one {l : List Str} {r : Str × Str} (hp : l.Pairwise sle) (nd : l.Nodup) (h1 : r.1 ∈ l) (h2 : r.2 ∈ l) (hne : r.1 ≠ r.2) : ∃ q ∈ prs l, (∀ p ∈ prs l, hit p.1 p.2 r = true ↔ p = q) ∧ ((q = r ∧ sle r.1 r.2) ∨ (q = (r.2, r.1) ∧ sle r.2 r.1)) := by
  rcases sle_total r.1 r.2 with h | h
  · refine ⟨r, (prs_mem hp nd).mpr ⟨h1, h2, h, hne⟩, fun p hp' => ?_, .inl ⟨rfl, h⟩⟩
    obtain ⟨_, _, p3, p4⟩ := (prs_mem hp nd).mp hp'
    unfold hit
    rw [decide_eq_true_iff]
    constructor
    · rintro (e | e)
      · exact e.symm
      · rw [e] at h
        exact absurd (sle_anti p3 h) p4
    · intro e; rw [e]; exact .inl rfl
  · refine ⟨(r.2, r.1), (prs_mem hp nd).mpr ⟨h2, h1, h, Ne.symm hne⟩, fun p hp' => ?_, .inr ⟨rfl, h⟩⟩
    obtain ⟨_, _, p3, p4⟩ := (prs_mem hp nd).mp hp'
    unfold hit
    rw [decide_eq_true_iff]
    constructor
    · rintro (e | e)
      · rw [e] at h
        exact absurd (sle_anti p3 h) p4
      · rw [e]
    · intro e; rw [e]; exact .inr rfl
theorem sum_add {α : Type} (f g : α → Nat) : ∀ l : List α, (l.map fun x => f x + g x).sum = (l.map f).sum + (l.map g).sum
  | [] => rfl
  | a :: r => by
    simp only [List.map_cons, List.sum_cons, sum_add f g r]
    omega
theorem sum_ind {α : Type} [DecidableEq α] (p : α → Bool) : ∀ {l : List α} {q : α}, l.Nodup → q ∈ l → (∀ x ∈ l, p x = true ↔ x = q) → (l.map fun x => if p x then 1 else 0).sum = 1
  | [], q, _, h, _ => by cases h
  | a :: r, q, nd, h, hp => by
    rw [List.nodup_cons] at nd
    simp only [List.map_cons, List.sum_cons]
    by_cases e : a = q
    · have h0 : (r.map fun x => if p x then 1 else 0).sum = 0 := by
        have : r.map (fun x => if p x then 1 else 0) = r.map fun _ => 0 := by
          apply List.map_congr_left
          intro x hx
          rw [if_neg]
          intro hpx
          have := (hp x (List.mem_cons_of_mem _ hx)).mp hpx
          exact nd.1 (e ▸ this ▸ hx)
        rw [this]
        clear this hp nd h
        induction r with
        | nil => rfl
        | cons b s ih => simpa using ih
      rw [if_pos ((hp a (List.mem_cons_self ..)).mpr e), h0]
    · rw [if_neg fun hpa => e ((hp a (List.mem_cons_self ..)).mp hpa), sum_ind p nd.2 ((List.mem_cons.mp h).resolve_left fun z => e z.symm) fun x hx => hp x (List.mem_cons_of_mem _ hx)]
theorem sum_cnt {l : List Str} (hp : l.Pairwise sle) (nd : l.Nodup) (rows : List (Str × Str)) (h : ∀ r ∈ rows, r.1 ∈ l ∧ r.2 ∈ l ∧ r.1 ≠ r.2) : ((prs l).map fun p => cnt2 rows p.1 p.2).sum = rows.length := by
  refine list_snoc (p := fun rows => (∀ r ∈ rows, r.1 ∈ l ∧ r.2 ∈ l ∧ r.1 ≠ r.2) → ((prs l).map fun p => cnt2 rows p.1 p.2).sum = rows.length) ?_ ?_ rows h
  · intro _
    have : ∀ ps : List (Str × Str), (ps.map fun p => cnt2 [] p.1 p.2).sum = 0 := by
      intro ps
      induction ps with
      | nil => rfl
      | cons a r ih => simp only [List.map_cons, List.sum_cons, ih]; rfl
    exact this _
  · intro rows r ih h
    have hr := h r (List.mem_append_right _ (List.mem_singleton.mpr rfl))
    have e : ((prs l).map fun p => cnt2 (rows ++ [r]) p.1 p.2) = (prs l).map fun p => cnt2 rows p.1 p.2 + if hit p.1 p.2 r then 1 else 0 := List.map_congr_left fun p _ => cnt2_snoc rows r p.1 p.2
    obtain ⟨q, hq, hh, _⟩ := hit_one hp nd hr.1 hr.2.1 hr.2.2
    rw [e, sum_add, ih fun x hx => h x (List.mem_append_left _ hx), List.length_append, sum_ind (fun p => hit p.1 p.2 r) (prs_nodup nd) hq hh]
    rfl
theorem pw_rows : ∀ {rs ps : List Str}, ps.Nodup → (∀ r ∈ rs, r ∈ ps) → ∀ x ∈ pw ps rs, x.1 ∈ ps ∧ x.2 ∈ ps ∧ x.1 ≠ x.2
  | [], ps, _, _, x, hx => by cases hx
  | r :: rs, ps, nd, h, x, hx => by
    have hr := h r (List.mem_cons_self ..)
    have pm := tk_perm hr
    unfold pw at hx
    rcases List.mem_append.mp hx with hx | hx
    · obtain ⟨o, ho, rfl⟩ := List.mem_map.mp hx
      refine ⟨hr, List.mem_of_mem_take ho, fun e => ?_⟩
      have e : r = o := e
      subst e
      obtain ⟨i, hi⟩ := List.mem_iff_getElem?.mp ho
      have hi2 := List.getElem?_eq_some_iff.mp hi
      have hlt : i < ps.idxOf r := by have := hi2.1; rw [List.length_take] at this; omega
      rw [List.getElem?_take_of_lt hlt] at hi
      exact (idx_at hr).2 i hlt hi
    · obtain ⟨h1, h2, h3⟩ := pw_rows (pm.nodup_iff.mpr nd) (fun x hx => pm.mem_iff.mpr (h x (List.mem_cons_of_mem _ hx))) x hx
      exact ⟨pm.mem_iff.mp h1, pm.mem_iff.mp h2, h3⟩
theorem pw_count : ∀ {rs ps : List Str}, (∀ r ∈ rs, r ∈ ps) → (pw ps rs).length = (lf ps rs).sum
  | [], _, _ => rfl
  | r :: rs, ps, h => by
    have hr := h r (List.mem_cons_self ..)
    show ((ps.take (ps.idxOf r)).map (fun o => (r, o)) ++ pw (tk ps r) rs).length = ps.idxOf r + (lf (tk ps r) rs).sum
    rw [List.length_append, List.length_map, List.length_take, Nat.min_eq_left List.idxOf_le_length, pw_count fun x hx => (tk_perm hr).mem_iff.mpr (h x (List.mem_cons_of_mem _ hx))]
end
/-! ### where a book lies -/
section
variable {α : Type} [DecidableEq α]
theorem dc_rev_lw : ∀ rs : List α, dc rs.reverse = lw rs
  | [] => rfl
  | r :: rs => by
    rw [List.reverse_cons, dc_snoc, dc_rev_lw rs]
    have e : lw (r :: rs) = if r ∈ rs then lw rs else lw rs ++ [r] := rfl
    rw [e]
    by_cases h : r ∈ rs
    · rw [if_pos (mem_lw.mpr h), if_pos h]
    · rw [if_neg (fun q => h (mem_lw.mp q)), if_neg h]
theorem lw_app : ∀ (A X : List α), ∃ Y, lw (A ++ X) = lw X ++ Y
  | [], X => ⟨[], by simp⟩
  | a :: A, X => by
    obtain ⟨Y, hY⟩ := lw_app A X
    have e : lw (a :: (A ++ X)) = if a ∈ A ++ X then lw (A ++ X) else lw (A ++ X) ++ [a] := rfl
    show ∃ Y, lw (a :: (A ++ X)) = _
    rw [e]
    split
    · exact ⟨Y, hY⟩
    · exact ⟨Y ++ [a], by rw [hY, List.append_assoc]⟩
theorem idx_append {l k : List α} {b : α} (h : b ∉ l) : (l ++ b :: k).idxOf b = l.length := by
  rw [List.idxOf_append, if_neg h, List.idxOf_cons_self, Nat.zero_add]
theorem last_split {b : α} : ∀ {A : List α}, b ∈ A → ∃ A1 A2, A = A1 ++ b :: A2 ∧ b ∉ A2 := by
  intro A
  refine list_snoc (p := fun A => b ∈ A → ∃ A1 A2, A = A1 ++ b :: A2 ∧ b ∉ A2) (fun h => by cases h) (fun l x ih h => ?_) A
  by_cases e : x = b
  · exact ⟨l, [], by rw [e], by simp⟩
  · have hb : b ∈ l := by
      rcases List.mem_append.mp h with q | q
      · exact q
      · exact absurd (List.mem_singleton.mp q).symm e
    obtain ⟨A1, A2, h1, h2⟩ := ih hb
    refine ⟨A1, A2 ++ [x], by rw [h1]; simp, fun q => ?_⟩
    rcases List.mem_append.mp q with q | q
    · exact h2 q
    · exact e (List.mem_singleton.mp q).symm
theorem idx_filter {p : α → Bool} {b : α} : ∀ {ps : List α}, b ∈ ps → p b = true → (ps.filter p).idxOf b = ((ps.take (ps.idxOf b)).filter p).length
  | [], h, _ => by cases h
  | a :: r, h, hb => by
    by_cases e : a = b
    · subst e
      rw [List.filter_cons, if_pos hb, List.idxOf_cons_self, List.idxOf_cons_self]
      rfl
    · have hr : b ∈ r := (List.mem_cons.mp h).resolve_left fun q => e q.symm
      rw [idx_ne e, List.take_succ_cons, List.filter_cons, List.filter_cons]
      by_cases hpa : p a = true
      · rw [if_pos hpa, if_pos hpa, idx_ne e, idx_filter hr hb]; rfl
      · rw [if_neg hpa, if_neg hpa, idx_filter hr hb]
end
theorem dcn_app (A : List Str) {T : List Str} (nd : T.Nodup) : dcn (A ++ T) = dcn A + (T.filter fun b => !decide (b ∈ A)).length := by
  refine list_snoc (p := fun T => T.Nodup → dcn (A ++ T) = dcn A + (T.filter fun b => !decide (b ∈ A)).length) (fun _ => by simp) (fun T x ih nd => ?_) T nd
  rw [List.nodup_append] at nd
  rw [← List.append_assoc, dcn_snoc, ih nd.1, List.filter_append, List.length_append]
  have hx : x ∉ T := fun q => nd.2.2 x q x (List.mem_singleton.mpr rfl) rfl
  have e : ((A ++ T).any (· == x)) = decide (x ∈ A) := by
    rw [Bool.eq_iff_iff, List.any_eq_true, decide_eq_true_iff]
    constructor
    · rintro ⟨y, hy, q⟩
      have : y = x := by simpa using q
      subst this
      exact (List.mem_append.mp hy).resolve_right hx
    · intro h
      exact ⟨x, List.mem_append_left _ h, by simp⟩
  rw [e]
  by_cases h : x ∈ A
  · simp [h]
  · simp [h]; omega
theorem dcn_lw (l : List Str) : dcn l = (lw l).length := by
  have : (dc l).Perm (lw l) := by
    rw [List.perm_ext_iff_of_nodup (dc_nodup l) (lw_nodup l)]
    intro x
    rw [mem_dc, mem_lw]
  exact this.length_eq
/-- wanted before: as many lie above it as were wanted since -/
theorem lies_since {ps A : List Str} {b : Str} (nd : ps.Nodup) (hin : ∀ r ∈ A, r ∈ ps) (hb : b ∈ A) : (bh ps A).idxOf b = dcn (A.drop (A.length - A.reverse.idxOf b)) := by
  obtain ⟨A1, A2, rfl, h2⟩ := last_split hb
  have e1 : (A1 ++ b :: A2).reverse.idxOf b = A2.length := by
    rw [List.reverse_append, List.reverse_cons, List.append_assoc]
    have := idx_append (l := A2.reverse) (k := A1.reverse) (b := b) (by rw [List.mem_reverse]; exact h2)
    rw [List.length_reverse] at this
    exact this
  rw [e1]
  have e2 : (A1 ++ b :: A2).length - A2.length = A1.length + 1 := by simp only [List.length_append, List.length_cons]; omega
  have e3 : (A1 ++ b :: A2).drop (A1.length + 1) = A2 := by
    rw [List.drop_append, List.drop_of_length_le (by omega)]
    simp
  rw [e2, e3, bh_lies nd hin]
  obtain ⟨Y, hY⟩ := lw_app A1 (b :: A2)
  have e4 : lw (b :: A2) = lw A2 ++ [b] := by
    show (if b ∈ A2 then lw A2 else lw A2 ++ [b]) = _
    rw [if_neg h2]
  rw [hY, e4, List.append_assoc, List.append_assoc, List.singleton_append, idx_append (fun q => h2 (mem_lw.mp q)), dcn_lw]
/-- not yet wanted -/
theorem lies_first {ps A : List Str} {b : Str} (nd : ps.Nodup) (hin : ∀ r ∈ A, r ∈ ps) (hbp : b ∈ ps) (hb : b ∉ A) : (bh ps A).idxOf b = dcn (A ++ ps.take (ps.idxOf b)) := by
  rw [bh_lies nd hin, List.idxOf_append, if_neg (fun q => hb (mem_lw.mp q)), idx_filter hbp (by simp [hb]), dcn_app A (nd.sublist (List.take_sublist _ _)), dcn_lw, Nat.add_comm]
end LT

/-! QP: pairs and passings over plain data. -/
namespace LT
open PySem PySem.Spec PyProof.Rows L2
section
variable {P : PyData → Prop}
theorem lc2_inv {g g1 : MG} {it1 : MA} {te : ME} {vs vs1 : List Nat} {Γ : Gm} {xs : List PyData} {Q : Ow → Prop} (I : Nat → List PyData → Prop) (i0 : I 0 [])
    (h : ∀ (j : Nat) (x : PyData) (acc : List PyData), xs[j]? = some x → I j acc → g x (wipeG Γ vs) fun Γ2 => it1 Γ2 fun ys => LcJ g1 mYes te vs1 Γ2 ys acc (I (j + 1))) (hp : ∀ acc, I xs.length acc → Q (.lst acc)) : Lc2I g mYes it1 g1 mYes te vs vs1 Γ xs Q := ⟨I, i0, h, hp⟩
theorem lcJ_map {g1 : MG} {te : ME} {vs1 : List Nat} {Γ2 : Gm} {ys acc : List PyData} {Nx : List PyData → Prop} (zs : List PyData) (hl : ys.length = zs.length) (hn : acc.length + zs.length ≤ 1000000)
    (h : ∀ (j : Nat) (x y : PyData), ys[j]? = some x → zs[j]? = some y → ∀ R : PyData → Prop, R y → g1 x (wipeG Γ2 vs1) fun Γ3 => te Γ3 R) (hp : Nx (acc ++ zs)) : LcJ g1 mYes te vs1 Γ2 ys acc Nx := by
  refine ⟨fun j ac => ac = acc ++ zs.take j, (List.append_nil acc).symm, ?_, ?_⟩
  · rintro j x ac hx rfl
    obtain ⟨hj, _⟩ := List.getElem?_eq_some_iff.mp hx
    have hz : zs[j]? = some (zs[j]'(by omega)) := List.getElem?_eq_getElem _
    refine h j x _ hx hz _ ⟨by rw [List.length_append, List.length_take]; omega, ?_⟩
    show _ = acc ++ zs.take (j + 1)
    rw [List.take_add_one, hz, List.append_assoc]; rfl
  · rintro ac rfl
    rw [hl, List.take_length]; exact hp
abbrev row3 (p : Str × Str) (n : Nat) : PyData := .tuple [.str p.1, .str p.2, nI n]
end
end LT

/-! QT: of all two books how often they passed one another, by the rows. -/
namespace LT
open PySem PySem.Spec PyProof.Rows L2
section
variable {P : PyData → Prop}
end
end LT

/-! LMd: days done again: passings of two books by their own readings alone (plain mathematics). -/
namespace LT
open PySem PySem.Spec PyProof.Rows
section
variable {α : Type} [DecidableEq α]
/-- changes, begun behind t -/
def ch : α → List α → Nat
  | _, [] => 0
  | t, r :: rs => (if r = t then 0 else 1) + ch r rs
theorem ch_app : ∀ (u v : List α) (t : α), ch t (u ++ v) = ch t u + ch (u.getLastD t) v
  | [], v, t => by simp [ch]
  | r :: u, v, t => by
    show (if r = t then 0 else 1) + ch r (u ++ v) = (if r = t then 0 else 1) + ch r u + ch ((r :: u).getLastD t) v
    rw [ch_app u v r, List.getLastD_cons, Nat.add_assoc]
/-- changes of a round word -/
def cyc (d : α) (f : List α) : Nat := ch (f.getLastD d) f
theorem last_app {u v : List α} {d e : α} (h : v ≠ []) : (u ++ v).getLastD d = v.getLastD e := by
  rw [List.getLastD_eq_getLast?, List.getLastD_eq_getLast?, List.getLast?_append]
  cases hv : v.getLast? with
  | none => exact absurd (List.getLast?_eq_none_iff.mp hv) h
  | some z => rfl
theorem cyc_rot (d : α) (u v : List α) : cyc d (v ++ u) = cyc d (u ++ v) := by
  by_cases hu : u = []
  · subst hu; simp
  by_cases hv : v = []
  · subst hv; simp
  unfold cyc
  rw [ch_app, ch_app, last_app hu (e := d), last_app hv (e := d)]
  have e1 : v.getLastD (u.getLastD d) = v.getLastD d := by
    have := last_app (u := []) (v := v) (d := u.getLastD d) (e := d) hv
    simpa using this
  have e2 : u.getLastD (v.getLastD d) = u.getLastD d := by
    have := last_app (u := []) (v := u) (d := v.getLastD d) (e := d) hu
    simpa using this
  rw [e1, e2, Nat.add_comm]
theorem ch_rev : ∀ (u : List α) (t x : α), ch t (u ++ [x]) = ch x (u.reverse ++ [t])
  | [], t, x => by
    simp only [List.nil_append, List.reverse_nil, ch]
    by_cases h : x = t
    · simp [h]
    · simp [h, Ne.symm h]
  | r :: u, t, x => by
    show (if r = t then 0 else 1) + ch r (u ++ [x]) = _
    rw [ch_rev u r x, List.reverse_cons, List.append_assoc, ch_app u.reverse, ch_app u.reverse]
    have e1 : ch (u.reverse.getLastD x) ([r] ++ [t]) = (if r = u.reverse.getLastD x then 0 else 1) + (if t = r then 0 else 1) := by simp [ch]
    have e2 : ch (u.reverse.getLastD x) [r] = if r = u.reverse.getLastD x then 0 else 1 := by simp [ch]
    rw [e1, e2]
    have e3 : (if t = r then 0 else 1) = (if r = t then 0 else 1 : Nat) := by
      by_cases h : r = t
      · simp [h]
      · simp [h, Ne.symm h]
    rw [e3]
    omega
theorem cyc_rev (d : α) (f : List α) : cyc d f.reverse = cyc d f := by
  by_cases hf : f = []
  · subst hf; rfl
  obtain ⟨g, z, rfl⟩ : ∃ g z, f = g ++ [z] := ⟨f.dropLast, f.getLast hf, (List.dropLast_concat_getLast hf).symm⟩
  rw [List.reverse_append]
  show cyc d ([z] ++ g.reverse) = _
  rw [cyc_rot d g.reverse [z]]
  unfold cyc
  have e1 : ∀ u : List α, (u ++ [z]).getLastD d = z := fun u => by simp
  rw [e1, e1, ch_rev, List.reverse_reverse]
end
abbrev tw (a b x : Str) : Bool := decide (x = a ∨ x = b)
theorem tw_comm (a b : Str) : tw a b = tw b a := by
  funext x
  unfold tw
  rw [Bool.eq_iff_iff, decide_eq_true_iff, decide_eq_true_iff]
  exact Or.comm
theorem hit_comm (a b : Str) : hit a b = hit b a := by
  funext x
  unfold hit
  rw [Bool.eq_iff_iff, decide_eq_true_iff, decide_eq_true_iff]
  exact Or.comm
theorem no_hit {a b r : Str} {l : List Str} (h : ∀ o ∈ l, hit a b (r, o) = false) : (l.map fun o => (r, o)).countP (hit a b) = 0 := by
  rw [List.countP_eq_zero]
  intro x hx
  obtain ⟨o, ho, rfl⟩ := List.mem_map.mp hx
  rw [h o ho]; exact Bool.false_ne_true
theorem top_hit {a b : Str} (hab : a ≠ b) : ∀ {ps : List Str}, ps.Nodup → a ∈ ps → ((ps.take (ps.idxOf a)).map fun o => (a, o)).countP (hit a b) = if a = (ps.filter (tw a b)).headD a then 0 else 1
  | [], _, h => by cases h
  | x :: r, nd, h => by
    rw [List.nodup_cons] at nd
    by_cases e : x = a
    · subst e
      rw [List.idxOf_cons_self, List.filter_cons, if_pos (by simp)]
      simp
    · have hr : a ∈ r := (List.mem_cons.mp h).resolve_left fun q => e q.symm
      rw [idx_ne e, List.take_succ_cons, List.map_cons, List.countP_cons]
      by_cases e2 : x = b
      · subst e2
        have hh : hit a x (a, x) = true := by simp [hit]
        have hf : (x :: r).filter (tw a x) = x :: r.filter (tw a x) := by rw [List.filter_cons, if_pos (by simp)]
        rw [no_hit (fun o ho => ?_), hf, List.headD_cons, if_neg hab, hh]
        · rfl
        · unfold hit
          rw [decide_eq_false_iff_not]
          rintro (q | q)
          · have : o = x := (Prod.mk.inj q).2
            subst this
            exact nd.1 (List.mem_of_mem_take ho)
          · exact hab (Prod.mk.inj q).1
      · have hx : tw a b x = false := by simp [tw, e, e2]
        have hh : hit a b (a, x) = false := by
          unfold hit
          rw [decide_eq_false_iff_not]
          rintro (q | q)
          · exact e2 (Prod.mk.inj q).2
          · exact hab (Prod.mk.inj q).1
        have hf : (x :: r).filter (tw a b) = r.filter (tw a b) := by rw [List.filter_cons, hx, if_neg Bool.false_ne_true]
        rw [top_hit hab nd.2 hr, hh, hf]
        rfl
theorem headD_eq {α : Type} {l : List α} (a b : α) (h : l ≠ []) : l.headD a = l.headD b := by
  cases l with
  | nil => exact absurd rfl h
  | cons x r => rfl
theorem cnt_ch {a b : Str} (hab : a ≠ b) : ∀ {rs ps : List Str}, ps.Nodup → a ∈ ps → b ∈ ps → (∀ r ∈ rs, r ∈ ps) → cnt2 (pw ps rs) a b = ch ((ps.filter (tw a b)).headD a) (rs.filter (tw a b))
  | [], ps, _, _, _, _ => rfl
  | r :: rs, ps, nd, ha, hb, h => by
    have hr := h r (List.mem_cons_self ..)
    have pm := tk_perm hr
    have ih := cnt_ch hab (rs := rs) (ps := tk ps r) (pm.nodup_iff.mpr nd) (pm.mem_iff.mpr ha) (pm.mem_iff.mpr hb) fun x hx => pm.mem_iff.mpr (h x (List.mem_cons_of_mem _ hx))
    have e : cnt2 (pw ps (r :: rs)) a b = ((ps.take (ps.idxOf r)).map fun o => (r, o)).countP (hit a b) + cnt2 (pw (tk ps r) rs) a b := by
      unfold cnt2
      show ((ps.take (ps.idxOf r)).map (fun o => (r, o)) ++ pw (tk ps r) rs).countP _ = _
      rw [List.countP_append]
    rw [e, ih]
    by_cases q : tw a b r = true
    · have et : ((tk ps r).filter (tw a b)).headD a = r := by
        show ((r :: ps.erase r).filter (tw a b)).headD a = r
        rw [List.filter_cons, if_pos q]; rfl
      rw [List.filter_cons, if_pos q, et]
      show _ + _ = (if r = _ then 0 else 1) + _
      congr 1
      have q' := of_decide_eq_true q
      rcases q' with rfl | rfl
      · exact top_hit hab nd hr
      · rw [hit_comm a r, top_hit (Ne.symm hab) nd hr, tw_comm r a]
        rw [headD_eq r a fun z => ?_]
        have : a ∈ ps.filter (tw a r) := List.mem_filter.mpr ⟨ha, by simp⟩
        rw [z] at this; cases this
    · have q' : tw a b r = false := by simpa using q
      have hn : ¬ (r = a ∨ r = b) := of_decide_eq_false q'
      rw [List.filter_cons, if_neg q, no_hit fun o ho => ?_, Nat.zero_add]
      · congr 1
        show ((r :: ps.erase r).filter (tw a b)).headD a = _
        rw [List.filter_cons, if_neg q, filter_erase q']
      · unfold hit
        rw [decide_eq_false_iff_not]
        rintro (z | z)
        · exact hn (.inl (Prod.mk.inj z).1)
        · exact hn (.inr (Prod.mk.inj z).1)
theorem lw_filter (p : Str → Bool) : ∀ rs : List Str, (lw rs).filter p = lw (rs.filter p)
  | [] => rfl
  | r :: rs => by
    have e : lw (r :: rs) = if r ∈ rs then lw rs else lw rs ++ [r] := rfl
    rw [e]
    by_cases hp : p r = true
    · rw [List.filter_cons, if_pos hp]
      have e2 : lw (r :: rs.filter p) = if r ∈ rs.filter p then lw (rs.filter p) else lw (rs.filter p) ++ [r] := rfl
      rw [e2]
      by_cases h : r ∈ rs
      · rw [if_pos h, if_pos (List.mem_filter.mpr ⟨h, hp⟩), lw_filter p rs]
      · rw [if_neg h, if_neg (fun q => h (List.mem_filter.mp q).1), List.filter_append, lw_filter p rs, List.filter_cons, if_pos hp]; rfl
    · rw [List.filter_cons, if_neg hp]
      split
      · exact lw_filter p rs
      · rw [List.filter_append, lw_filter p rs, List.filter_cons, if_neg hp, List.filter_nil, List.append_nil]
theorem lw_head (d : Str) : ∀ f : List Str, (lw f).headD d = f.getLastD d
  | [] => rfl
  | r :: rs => by
    have e : lw (r :: rs) = if r ∈ rs then lw rs else lw rs ++ [r] := rfl
    rw [e]
    by_cases h0 : rs = []
    · subst h0; rfl
    · have hne : lw rs ≠ [] := fun q => h0 (by
        cases rs with
        | nil => rfl
        | cons y s =>
          have : y ∈ lw (y :: s) := mem_lw.mpr (List.mem_cons_self ..)
          rw [q] at this; cases this)
      have ih := lw_head d rs
      have e2 : (r :: rs).getLastD d = rs.getLastD d := by
        have := last_app (u := [r]) (v := rs) (d := d) (e := d) h0
        simpa using this
      rw [e2, ← ih]
      split
      · rfl
      · cases hl : lw rs with
        | nil => exact absurd hl hne
        | cons y s => rfl
/-- behind a day: two books passed one another as often as their readings change, round -/
theorem day_cyc {ps d : List Str} {a b : Str} (hab : a ≠ b) (nd : ps.Nodup) (ha : a ∈ d) (hb : b ∈ d) (h : ∀ r ∈ d, r ∈ ps) : cnt2 (pw (bh ps d) d) a b = cyc a (d.filter (tw a b)) := by
  have pm := bh_perm h
  rw [cnt_ch hab (pm.nodup_iff.mpr nd) (pm.mem_iff.mpr (h a ha)) (pm.mem_iff.mpr (h b hb)) fun r hr => pm.mem_iff.mpr (h r hr)]
  unfold cyc
  congr 1
  rw [bh_lies nd h, List.filter_append, lw_filter]
  have hne : d.filter (tw a b) ≠ [] := fun q => by
    have : a ∈ d.filter (tw a b) := List.mem_filter.mpr ⟨ha, by simp⟩
    rw [q] at this; cases this
  rw [← lw_head]
  cases hl : lw (d.filter (tw a b)) with
  | nil =>
    have : a ∈ lw (d.filter (tw a b)) := mem_lw.mpr (List.mem_filter.mpr ⟨ha, by simp⟩)
    rw [hl] at this; cases this
  | cons y s => rfl
theorem day_still {α : Type} [DecidableEq α] {ps d : List α} (nd : ps.Nodup) (h : ∀ r ∈ d, r ∈ ps) : bh (bh ps d) d = bh ps d := by
  have pm := bh_perm h
  rw [bh_lies (pm.nodup_iff.mpr nd) (fun r hr => pm.mem_iff.mpr (h r hr)), bh_lies nd h, List.filter_append, List.filter_filter]
  have e1 : (lw d).filter (fun b => !decide (b ∈ d)) = [] := by
    rw [List.filter_eq_nil_iff]
    intro x hx
    simp [mem_lw.mp hx]
  rw [e1, List.nil_append]
  simp
theorem lf_tail {α : Type} [DecidableEq α] (X : List α) : ∀ {rs ps : List α}, (∀ r ∈ rs, r ∈ ps) → lf (ps ++ X) rs = lf ps rs
  | [], _, _ => rfl
  | r :: rs, ps, h => by
    have hr := h r (List.mem_cons_self ..)
    show (ps ++ X).idxOf r :: lf (tk (ps ++ X) r) rs = ps.idxOf r :: lf (tk ps r) rs
    have e : tk (ps ++ X) r = tk ps r ++ X := by
      unfold tk
      rw [List.erase_append_left X hr]; rfl
    rw [List.idxOf_append, if_pos hr, e, lf_tail X fun x hx => (tk_perm hr).mem_iff.mpr (h x (List.mem_cons_of_mem _ hx))]
/-- behind a day the wanted ones lie as if no others were there -/
theorem day_lies {ps ws d : List Str} (nd : ps.Nodup) (ndw : ws.Nodup) (h : ∀ r ∈ d, r ∈ ps) (hw : ∀ r, r ∈ d ↔ r ∈ ws) : bh ps d = bh ws d ++ ps.filter (fun b => !decide (b ∈ d)) := by
  rw [bh_lies nd h, bh_lies ndw fun r hr => (hw r).mp hr]
  have : ws.filter (fun b => !decide (b ∈ d)) = [] := by
    rw [List.filter_eq_nil_iff]
    intro x hx
    simp [(hw x).mpr hx]
  rw [this, List.append_nil]
theorem day_lf {ps ws d : List Str} (nd : ps.Nodup) (ndw : ws.Nodup) (h : ∀ r ∈ d, r ∈ ps) (hw : ∀ r, r ∈ d ↔ r ∈ ws) : lf (bh ps d) d = lf (bh ws d) d := by
  rw [day_lies nd ndw h hw, lf_tail]
  intro r hr
  exact (bh_perm fun r hr => (hw r).mp hr).mem_iff.mpr ((hw r).mp hr)
/-- two days, whose readings of all two books are as round words alike, lift as many -/
theorem day_sum {ws d e : List Str} (nd : ws.Nodup) (h : ∀ r, r ∈ d ↔ r ∈ ws) (h' : ∀ r, r ∈ e ↔ r ∈ ws) (hc : ∀ p ∈ prs (srt ws), cnt2 (pw (bh ws e) e) p.1 p.2 = cnt2 (pw (bh ws d) d) p.1 p.2) : (lf (bh ws e) e).sum = (lf (bh ws d) d).sum := by
  have key : ∀ d : List Str, (∀ r, r ∈ d ↔ r ∈ ws) → (lf (bh ws d) d).sum = ((prs (srt ws)).map fun p => cnt2 (pw (bh ws d) d) p.1 p.2).sum := fun d h => by
    have hin : ∀ r ∈ d, r ∈ ws := fun r hr => (h r).mp hr
    have pm := bh_perm hin
    have hin2 : ∀ r ∈ d, r ∈ bh ws d := fun r hr => pm.mem_iff.mpr (hin r hr)
    rw [← pw_count hin2, sum_cnt (srt_pw ws) ((srt_perm ws).nodup_iff.mpr nd) _ fun r hr => ?_]
    obtain ⟨a1, a2, a3⟩ := pw_rows (pm.nodup_iff.mpr nd) hin2 r hr
    exact ⟨(srt_perm ws).mem_iff.mpr (pm.mem_iff.mp a1), (srt_perm ws).mem_iff.mpr (pm.mem_iff.mp a2), a3⟩
  rw [key e h', key d h]
  congr 1
  exact List.map_congr_left hc
end LT

/-! QW: wants, days, piles for wants. -/
namespace LT
open PySem PySem.Spec PyProof.Rows L2
section
variable {P : PyData → Prop}
abbrev wD (p : Str × Nat) : PyData := .tuple [.str p.1, nI p.2]
abbrev tW (ws : List (Str × Nat)) : PyData := .tuple (ws.map wD)
abbrev nm (ws : List (Str × Nat)) : List Str := ws.map (·.1)
def rowsOf (ws : List (Str × Nat)) : List Str := ws.flatMap fun p => List.replicate p.2 p.1
theorem rows_len (ws : List (Str × Nat)) : (rowsOf ws).length = (ws.map (·.2)).sum := by
  unfold rowsOf
  induction ws with
  | nil => rfl
  | cons p r ih => simp [ih]
theorem rows_snoc (ws : List (Str × Nat)) (p : Str × Nat) : rowsOf (ws ++ [p]) = rowsOf ws ++ List.replicate p.2 p.1 := by simp [rowsOf]
theorem mem_rows {ws : List (Str × Nat)} (h : ∀ p ∈ ws, 1 ≤ p.2) (x : Str) : x ∈ rowsOf ws ↔ x ∈ nm ws := by
  unfold rowsOf nm
  rw [List.mem_flatMap, List.mem_map]
  constructor
  · rintro ⟨p, hp, hx⟩
    exact ⟨p, hp, (List.mem_replicate.mp hx).2.symm⟩
  · rintro ⟨p, hp, rfl⟩
    exact ⟨p, hp, List.mem_replicate.mpr ⟨by have := h p hp; omega, rfl⟩⟩
theorem at_w {ws : List (Str × Nat)} {j : Nat} {x : PyData} (h : (ws.map wD)[j]? = some x) : ∃ p, ws[j]? = some p ∧ x = wD p := by
  rw [List.getElem?_map] at h
  cases e : ws[j]? with
  | none => rw [e] at h; cases h
  | some z => rw [e] at h; cases h; exact ⟨z, rfl, rfl⟩
theorem atI_end {α : Type} {xs : List α} {x : α} : L2.atI (xs ++ [x]) (-1) = some x := by
  unfold L2.atI L2.ixN
  rw [if_neg (by decide), if_pos (by rw [List.length_append]; show -((_ + 1 : Nat) : Int) ≤ -1; omega)]
  have e : ((-1 : Int) + ((xs ++ [x]).length : Int)).toNat = xs.length := by rw [List.length_append]; show (-1 + ((xs.length + 1 : Nat) : Int)).toNat = _; omega
  rw [e]
  simp
theorem min2_go {i j k : Int} (h : (if j < i then j else i) = k) (hp : P (.int k)) : fMin2 (.int i) (.int j) P := ⟨i, j, rfl, rfl, by show P (.int (if j < i then j else i)); rw [h]; exact hp⟩
theorem gt_go {i j : Int} {b : Bool} (h : decide (j < i) = b) (hp : P (.bool b)) : fGt (.int i) (.int j) P := ⟨i, j, rfl, rfl, by show P (.bool (decide (j < i))); rw [h]; exact hp⟩
theorem add_go {i j k : Int} (h : i + j = k) (hp : P (.int k)) : fAdd (.int i) (.int j) P := ⟨i, j, rfl, rfl, by show P (.int (i + j)); rw [h]; exact hp⟩
theorem sub_go {i j k : Int} (h : i - j = k) (hp : P (.int k)) : fSub (.int i) (.int j) P := ⟨i, j, rfl, rfl, by show P (.int (i - j)); rw [h]; exact hp⟩
theorem mul_go {i j k : Int} (hc : CMul i j) (h : i * j = k) (hp : P (.int k)) : fMul (.int i) (.int j) P := ⟨i, j, rfl, rfl, hc, by show P (.int (i * j)); rw [h]; exact hp⟩
theorem eq_go {i j : Int} {b : Bool} (h : decide (i = j) = b) (hp : P (.bool b)) : fEq (.int i) (.int j) P := .inl ⟨i, j, rfl, rfl, by rw [h]; exact hp⟩
/-- [book for book, many in wants] -/
theorem lc_names {Γ : Gm} {ws : List (Str × Nat)} {Q : Ow → Prop} {i j : Nat} (hl : ws.length ≤ 1000) (hij : ∀ (x : Sv) (y : Sv), (((wipeG Γ [i, j]).set i x).set j y)[i]? = some x) (hp : Q (.lst ((nm ws).map .str))) : LcI (gT 2 (gs1 (gN i) (gs1 (gN j) gs0))) mYes (mVar i) [i, j] Γ (ws.map wD) Q := by
  refine lc_map ((nm ws).map .str) (by rw [List.length_map, List.length_map, List.length_map]) (by rw [List.length_map, List.length_map]; omega) (fun k x y hx hy R hR => ?_) hp
  obtain ⟨p, hk, rfl⟩ := at_w hx
  rw [List.getElem?_map, List.getElem?_map, hk] at hy
  cases hy
  exact ⟨_, rfl, rfl, _, _, rfl, _, _, rfl, rfl, _, hij _ _, hR⟩
/-- items of a list by an order of its places -/
theorem lc_order {Γ : Gm} {xs : List Str} {js : List Nat} {Q : Ow → Prop} {i j : Nat} (hl : xs.length ≤ 1000) (pm : js.Perm (List.range xs.length)) (h1 : ∀ x : Sv, ((wipeG Γ [j]).set j x)[j]? = some x) (h2 : ∀ x : Sv, ((wipeG Γ [j]).set j x)[i]? = some (.dat (lS xs)))
    (hp : ∀ ys : List Str, ys.Perm xs → Q (.lst (ys.map .str))) : LcI (gN j) mYes (mOp fIxL (mVar i) (mVar j)) [j] Γ (js.map nI) Q := by
  have hjl : js.length = xs.length := by rw [pm.length_eq, List.length_range]
  refine lc_map (((js.map fun k => xs.getD k ("" : Str))).map .str) (by rw [List.length_map, List.length_map, List.length_map]) (by rw [List.length_map, List.length_map]; omega) (fun k x y hx hy R hR => ?_) (hp _ (perm_getD ("" : Str) xs pm))
  obtain ⟨n, hn, rfl⟩ := at_nat hx
  rw [List.getElem?_map, List.getElem?_map, hn] at hy
  cases hy
  have hib : n < xs.length := List.mem_range.mp (pm.mem_iff.mp (List.mem_of_getElem? hn))
  refine ⟨_, h2 _, _, h1 _, _, _, _, rfl, rfl, atI_at (x := .str xs[n]) (by rw [List.getElem?_map, List.getElem?_eq_getElem hib]; rfl), ?_⟩
  have e2 : xs.getD n ("" : Str) = xs[n] := by simp [List.getD, hib]
  have hR' : R (.str (xs.getD n ("" : Str))) := hR
  rw [e2] at hR'
  exact hR'
/-! ### dicts of wants -/
theorem mg_nodup : ∀ (more acc : List (Key × Sc)), ((acc ++ more).map (·.1)).Nodup → mgS acc more = acc ++ more
  | [], acc, _ => by simp [mgS]
  | p :: r, acc, nd => by
    show mgS (putS acc p.1 p.2) r = _
    have hp : putS acc p.1 p.2 = acc ++ [p] := by
      unfold putS
      rw [if_neg]
      intro q
      obtain ⟨kv, h1, h2⟩ := List.any_eq_true.mp q
      have h2 : kv.1 = p.1 := by simpa using h2
      rw [List.map_append, List.nodup_append] at nd
      exact nd.2.2 kv.1 (List.mem_map.mpr ⟨kv, h1, rfl⟩) p.1 (by simp) h2
    rw [hp, mg_nodup r (acc ++ [p]) (by rw [List.append_assoc]; exact nd), List.append_assoc]; rfl
abbrev kW (p : Str × Nat) : Key × Sc := (.inr p.1, .inl (p.2 : Int))
theorem keys_nodup {ws : List (Str × Nat)} (nd : (nm ws).Nodup) : ((ws.map kW).map (·.1)).Nodup := by
  rw [List.map_map]
  have : ((fun x : Key × Sc => x.1) ∘ kW) = (fun x : Str => (Sum.inr x : Key)) ∘ (fun p : Str × Nat => p.1) := rfl
  rw [this, ← List.map_map]
  exact List.Pairwise.map _ (fun a b h e => h (Sum.inr.inj e)) nd
theorem dict_w {Γ : Gm} {a : ME} {ws : List (Str × Nat)} {Q : Ow → Prop} (nd : (nm ws).Nodup) (ha : ∀ R : PyData → Prop, R (tW ws) → a Γ R) (hp : Q (.dic (ws.map kW))) : mDictT a Γ Q := by
  refine ha _ ⟨ws.map fun p => (p.1, (p.2 : Int)), ?_, ?_⟩
  · show PyData.tuple (ws.map wD) = _
    rw [List.map_map]; rfl
  · have e : (ws.map fun p => (p.1, (p.2 : Int))).map prK = ws.map kW := by rw [List.map_map]; rfl
    rw [e, mg_nodup _ [] (by rw [List.nil_append]; exact keys_nodup nd)]
    exact hp
theorem val_w {ws : List (Str × Nat)} (nd : (nm ws).Nodup) {p : Str × Nat} (h : p ∈ ws) : valS (ws.map kW) (.inr p.1) = some (.inl (p.2 : Int)) := by
  unfold valS
  rw [List.find?_map, Option.map_map]
  have : ws.find? ((fun kv : Key × Sc => decide (kv.1 = .inr p.1)) ∘ kW) = some p := by
    induction ws with
    | nil => cases h
    | cons q r ih =>
      rw [List.find?_cons]
      have nd' : q.1 ∉ nm r ∧ (nm r).Nodup := List.nodup_cons.mp nd
      by_cases e : q.1 = p.1
      · have : ((fun kv : Key × Sc => decide (kv.1 = .inr p.1)) ∘ kW) q = true := by simp [e]
        rw [this]
        rcases List.mem_cons.mp h with z | z
        · rw [z]
        · exact absurd (List.mem_map.mpr ⟨p, z, e.symm⟩) nd'.1
      · have : ((fun kv : Key × Sc => decide (kv.1 = .inr p.1)) ∘ kW) q = false := by simp [e]
        rw [this]
        exact ih nd'.2 ((List.mem_cons.mp h).resolve_left fun z => e (by rw [z]))
  rw [this]; rfl
theorem val_w_some (ws : List (Str × Nat)) (x : Str) : (valS (ws.map kW) (.inr x)).isSome = decide (x ∈ nm ws) := by
  unfold valS
  rw [Option.isSome_map, Bool.eq_iff_iff, List.find?_isSome, decide_eq_true_iff]
  constructor
  · rintro ⟨kv, h1, h2⟩
    obtain ⟨p, hp, rfl⟩ := List.mem_map.mp h1
    have : (Sum.inr p.1 : Key) = Sum.inr x := by simpa using h2
    exact List.mem_map.mpr ⟨p, hp, Sum.inr.inj this⟩
  · intro h
    obtain ⟨p, hp, rfl⟩ := List.mem_map.mp h
    exact ⟨_, List.mem_map.mpr ⟨p, hp, rfl⟩, by simp⟩
/-- wants as drawn -/
structure Wants (n r : Nat) (ws : List (Str × Nat)) : Prop where
  sub : (nm ws).Sublist (bookNames.take n)
  ne : ws ≠ []
  each : ∀ p ∈ ws, 1 ≤ p.2 ∧ p.2 ≤ 4
  most : (ws.map (·.2)).sum ≤ r
theorem Wants.nd {n r : Nat} {ws : List (Str × Nat)} (h : Wants n r ws) : (nm ws).Nodup := (books_nodup.sublist (List.take_sublist n bookNames)).sublist h.sub
theorem Wants.ok {n r : Nat} {ws : List (Str × Nat)} (h : Wants n r ws) : OkS (nm ws) := fun x hx => books_ok x (List.mem_of_mem_take (h.sub.subset hx))
theorem Wants.len {n r : Nat} {ws : List (Str × Nat)} (h : Wants n r ws) : ws.length ≤ 7 := by
  have := h.sub.length_le
  rw [List.length_map, List.length_take] at this
  have e : bookNames.length = 7 := rfl
  omega
theorem wants_ok {n r : Nat} (hn : 1 ≤ n) (hn7 : n ≤ 7) (hr : 1 ≤ r) (hr7 : r ≤ 1000) (hp : ∀ ws, Wants n r ws → P (tW ws)) : F_law_wants [nI n, nI r] P := by
  refine ⟨by decide, _, rfl, ?_⟩
  refine ⟨rfl, law_books_ok ⟨_, rfl, _, rfl, _, rfl, _, rfl, _, rfl, ?_⟩⟩
  rw [cutD_to, ← List.map_take]
  have hbl : (bookNames.take n).length = n := by
    rw [List.length_take]
    have : bookNames.length = 7 := rfl
    omega
  refine ⟨fun j Γ => ∃ (ws : List (Str × Nat)) (left : Nat) (y5 y6 y7 : Sv), Γ = [.tape, .dat (nI n), .dat (nI r), .own (.lst (ws.map wD)), .dat (nI left), y5, y6, y7] ∧ (nm ws).Sublist ((bookNames.take n).take j) ∧ (0 < j → ws ≠ []) ∧ (∀ p ∈ ws, 1 ≤ p.2 ∧ p.2 ≤ 4) ∧ (ws.map (·.2)).sum + left = r, ⟨[], r, _, _, _, rfl, by simp, by omega, fun p hp => (nomatch hp), by simp⟩, ?_, ?_⟩
  · rintro j x Γ hx ⟨ws, left, y5, y6, y7, rfl, hs, hne, he, hsum⟩
    obtain ⟨d', hd', rfl⟩ := enumD_inv hx
    obtain ⟨b, hb, rfl⟩ := at_strD hd'
    obtain ⟨hj, _⟩ := List.getElem?_eq_some_iff.mp hb
    have hsl := hs.length_le
    rw [List.length_map, List.length_take] at hsl
    have hws : ws.length < 1000000 := by omega
    refine ⟨_, rfl, rfl, _, _, rfl, _, _, rfl, rfl, rfl, 4, rfl, by decide, by decide, fun m hm => ⟨1, m, rfl, rfl, ?_⟩⟩
    have hst : (bookNames.take n).take (j + 1) = (bookNames.take n).take j ++ [b] := take_snoc hb
    have skip : ws ≠ [] → ∃ (ws' : List (Str × Nat)) (left' : Nat) (z5 z6 z7 : Sv), [Sv.tape, .dat (nI n), .dat (nI r), .own (.lst (ws.map wD)), .dat (nI left), .dat (.int (j : Nat)), .dat (.str b), .dat (.int (1 + (m : Int)))] = [.tape, .dat (nI n), .dat (nI r), .own (.lst (ws'.map wD)), .dat (nI left'), z5, z6, z7] ∧ (nm ws').Sublist ((bookNames.take n).take (j + 1)) ∧ (0 < j + 1 → ws' ≠ []) ∧ (∀ p ∈ ws', 1 ≤ p.2 ∧ p.2 ≤ 4) ∧ (ws'.map (·.2)).sum + left' = r := fun hw =>
      ⟨ws, left, _, _, _, rfl, hs.trans (by rw [hst]; exact List.sublist_append_left _ _), fun _ => hw, he, hsum⟩
    have go : ∀ k : Nat, 1 ≤ k → k ≤ 4 → k ≤ left → ∃ (ws' : List (Str × Nat)) (left' : Nat) (z5 z6 z7 : Sv), [Sv.tape, .dat (nI n), .dat (nI r), .own (.lst ((ws ++ [(b, k)]).map wD)), .dat (nI (left - k)), .dat (.int (j : Nat)), .dat (.str b), .dat (.int (1 + (m : Int)))] = [.tape, .dat (nI n), .dat (nI r), .own (.lst (ws'.map wD)), .dat (nI left'), z5, z6, z7] ∧ (nm ws').Sublist ((bookNames.take n).take (j + 1)) ∧ (0 < j + 1 → ws' ≠ []) ∧ (∀ p ∈ ws', 1 ≤ p.2 ∧ p.2 ≤ 4) ∧ (ws'.map (·.2)).sum + left' = r := fun k k1 k4 kl => by
      refine ⟨ws ++ [(b, k)], left - k, _, _, _, rfl, ?_, fun _ => by simp, fun p hp => ?_, ?_⟩
      · rw [hst]
        show ((ws ++ [(b, k)]).map (·.1)).Sublist _
        rw [List.map_append]
        exact hs.append (List.Sublist.refl _)
      · rcases List.mem_append.mp hp with h | h
        · exact he p h
        · rw [List.mem_singleton] at h
          rw [h]; exact ⟨k1, k4⟩
      · simp; omega
    have h0 : left = 0 → 0 < j := fun h => by
      rcases Nat.eq_zero_or_pos j with e | e
      · subst e
        have : ws = [] := by
          have := hs.length_le
          simp at this
          exact this
        subst this
        simp at hsum
        omega
      · exact e
    have hmin : 0 < left → ∃ k : Nat, 1 ≤ k ∧ k ≤ 4 ∧ k ≤ left ∧ (if (left : Int) < 1 + (m : Int) then (left : Int) else 1 + (m : Int)) = (k : Int) := fun hl => by
      by_cases q : (left : Int) < 1 + (m : Int)
      · rw [if_pos q]; exact ⟨left, by omega, by omega, by omega, rfl⟩
      · rw [if_neg q]; exact ⟨1 + m, by omega, by omega, by omega, by omega⟩
    refine ⟨_, rfl, _, _, rfl, rfl, _, rfl, ?_⟩
    by_cases hl : 0 < left
    · obtain ⟨k, k1, k4, kl, hk⟩ := hmin hl
      rw [show decide ((0 : Int) < (left : Int)) = true from decide_eq_true (by omega)]
      refine iteT ⟨rfl, 4, rfl, by decide, by decide, fun q hq => ⟨_, _, rfl, rfl, _, rfl, ?_⟩⟩
      have put : ∀ Q : Out → Prop, Q (.nx [Sv.tape, .dat (nI n), .dat (nI r), .own (.lst ((ws ++ [(b, k)]).map wD)), .dat (nI (left - k)), .dat (.int (j : Nat)), .dat (.str b), .dat (.int (1 + (m : Int)))]) →
          mSeq (mApp 3 (mTup (mCons (mVar 6) (mCons (mCB2 fMin2 (mVar 7) (mVar 4)) mNil)))) (mSet 4 (xD (mOp fSub (mVar 4) (mOp fIxT (mOp fIxL (mVarQ 3) (mNeg (mC (.int 1)))) (mC (.int 1))))))
            [Sv.tape, .dat (nI n), .dat (nI r), .own (.lst (ws.map wD)), .dat (nI left), .dat (.int (j : Nat)), .dat (.str b), .dat (.int (1 + (m : Int)))] Q := fun Q hQ => by
        refine ⟨_, rfl, by rw [List.length_map]; exact hws, _, rfl, _, rfl, _, rfl, _, _, rfl, rfl, by show 2 ≤ 1000; decide, ?_⟩
        show mSet 4 _ [Sv.tape, .dat (nI n), .dat (nI r), .own (.lst (ws.map wD ++ [PyData.tuple [.str b, .int (if (left : Int) < 1 + (m : Int) then (left : Int) else 1 + (m : Int))]])), .dat (nI left), .dat (.int (j : Nat)), .dat (.str b), .dat (.int (1 + (m : Int)))] Q
        rw [hk]
        have es : ws.map wD ++ [PyData.tuple [.str b, .int (k : Int)]] = (ws ++ [(b, k)]).map wD := by rw [List.map_append]; rfl
        rw [es]
        refine ⟨_, rfl, _, rfl, _, rfl, _, -1, wD (b, k), rfl, rfl, ?_, _, _, _, rfl, rfl, rfl, _, _, rfl, rfl, ?_⟩
        · rw [List.map_append]; exact atI_end
        · show Q (.nx [Sv.tape, .dat (nI n), .dat (nI r), .own (.lst ((ws ++ [(b, k)]).map wD)), .dat (.int ((left : Int) - (k : Int))), .dat (.int (j : Nat)), .dat (.str b), .dat (.int (1 + (m : Int)))])
          rw [show (left : Int) - (k : Int) = ((left - k : Nat) : Int) by omega]
          exact hQ
      by_cases hq0 : 0 < q
      · rw [show decide ((0 : Int) < (q : Int)) = true from decide_eq_true (by omega)]
        exact iteT (iteT (put _ (go k k1 k4 kl)))
      · rw [show decide ((0 : Int) < (q : Int)) = false from decide_eq_false (by omega)]
        refine iteF ⟨_, rfl, .inl ⟨_, _, rfl, rfl, _, rfl, ?_⟩⟩
        by_cases hj0 : j = 0
        · rw [show decide (((j : Nat) : Int) = 0) = true from decide_eq_true (by omega)]
          exact iteT (put _ (go k k1 k4 kl))
        · rw [show decide (((j : Nat) : Int) = 0) = false from decide_eq_false (by omega)]
          exact iteF (skip (hne (by omega)))
    · rw [show decide ((0 : Int) < (left : Int)) = false from decide_eq_false (by omega)]
      exact iteF (iteF (skip (hne (h0 (by omega)))))
  · rintro Γ ⟨ws, left, y5, y6, y7, rfl, hs, hne, he, hsum⟩
    rw [enumD_len, List.length_map, hbl] at hs hne
    rw [List.take_of_length_le (by omega)] at hs
    exact ⟨_, rfl, _, .inl rfl, hp ws ⟨hs, hne (by omega), he, by omega⟩⟩
theorem sum_nI : ∀ l : List Nat, (l.map fun n : Nat => (n : Int)).sum = ((l.sum : Nat) : Int)
  | [] => rfl
  | a :: r => by
    simp only [List.map_cons, List.sum_cons, sum_nI r]
    omega
theorem sum_go {ns : List Nat} (hp : P (nI ns.sum)) : fSum (lN ns) P := ⟨ns.map fun n : Nat => (n : Int), by rw [List.map_map]; rfl, by rw [sum_nI]; exact hp⟩
end
end LT

/-! LMe: how often two books may pass one another in a day; the day that lets all two do so most often (plain mathematics). -/
namespace LT
open PySem PySem.Spec PyProof.Rows
section
variable {α : Type} [DecidableEq α]
/-- times that a comes behind another -/
def ent (a : α) : α → List α → Nat
  | _, [] => 0
  | t, r :: rs => (if r = a ∧ t ≠ a then 1 else 0) + ent a r rs
theorem ent_le (a : α) : ∀ (f : List α) (t : α), ent a t f ≤ f.count a
  | [], _ => Nat.le_refl _
  | r :: rs, t => by
    have := ent_le a rs r
    unfold ent
    rw [List.count_cons]
    by_cases h : r = a
    · subst h
      simp
      split <;> omega
    · simp [h]
      omega
theorem ch_ent {a b : α} (hab : a ≠ b) : ∀ (f : List α) (t : α), (t = a ∨ t = b) → (∀ x ∈ f, x = a ∨ x = b) → ch t f = ent a t f + ent b t f
  | [], _, _, _ => rfl
  | r :: rs, t, ht, h => by
    have hr := h r (List.mem_cons_self ..)
    have ih := ch_ent hab rs r hr fun x hx => h x (List.mem_cons_of_mem _ hx)
    unfold ch ent
    rw [ih]
    rcases hr with rfl | rfl <;> rcases ht with rfl | rfl
    · simp [hab]
    · simp [hab, Ne.symm hab]; omega
    · simp [hab, Ne.symm hab]; omega
    · simp [hab, Ne.symm hab]
theorem ent_bal {a b : α} (hab : a ≠ b) : ∀ (f : List α) (t : α), (t = a ∨ t = b) → (∀ x ∈ f, x = a ∨ x = b) → ent a t f + (if t = a then 1 else 0) = ent b t f + (if f.getLastD t = a then 1 else 0)
  | [], t, _, _ => by simp [ent]
  | r :: rs, t, ht, h => by
    have hr := h r (List.mem_cons_self ..)
    have ih := ent_bal hab rs r hr fun x hx => h x (List.mem_cons_of_mem _ hx)
    rw [List.getLastD_cons]
    unfold ent
    rcases hr with rfl | rfl <;> rcases ht with rfl | rfl
    · simp [hab] at ih ⊢; omega
    · simp [hab, Ne.symm hab] at ih ⊢; omega
    · simp [hab, Ne.symm hab] at ih ⊢; omega
    · simp [hab, Ne.symm hab] at ih ⊢; omega
theorem ch_zero : ∀ (f : List α) (t : α), ch t f = 0 → ∀ x ∈ f, x = t
  | [], _, _, x, hx => by cases hx
  | r :: rs, t, h, x, hx => by
    unfold ch at h
    have h1 : r = t := by
      by_cases e : r = t
      · exact e
      · rw [if_neg e] at h; omega
    rcases List.mem_cons.mp hx with e | hx
    · rw [e, h1]
    · rw [← h1]; exact ch_zero rs r (by omega) x hx
theorem getLastD_mem : ∀ {f : List α} {d : α}, f ≠ [] → f.getLastD d ∈ f := fun {f d} h => by
  rw [List.getLastD_eq_getLast?, List.getLast?_eq_some_getLast h]
  exact List.getLast_mem h
theorem cyc_bounds {a b : α} (d : α) {f : List α} (hab : a ≠ b) (hin : ∀ x ∈ f, x = a ∨ x = b) (ha : a ∈ f) (hb : b ∈ f) : ∃ e, cyc d f = 2 * e ∧ 1 ≤ e ∧ e ≤ f.count a ∧ e ≤ f.count b := by
  have hne : f ≠ [] := List.ne_nil_of_mem ha
  have ht := hin _ (getLastD_mem (d := d) hne)
  have hl : f.getLastD (f.getLastD d) = f.getLastD d := by
    rw [List.getLastD_eq_getLast?, List.getLastD_eq_getLast?, List.getLast?_eq_some_getLast hne]; rfl
  have h1 := ch_ent hab f _ ht hin
  have h2 := ent_bal hab f _ ht hin
  rw [hl] at h2
  refine ⟨ent a (f.getLastD d) f, by unfold cyc; omega, ?_, ent_le a f _, ?_⟩
  · rcases Nat.eq_zero_or_pos (ent a (f.getLastD d) f) with e | e
    · have h0 := ch_zero f (f.getLastD d) (by omega)
      exact absurd ((h0 a ha).trans (h0 b hb).symm) hab
    · exact e
  · have := ent_le b f (f.getLastD d)
    omega
/-- rows, each ended by c -/
def blk (c : α) (Bs : List (List α)) : List α := Bs.flatMap fun B => B ++ [c]
theorem blk_cons (c : α) (B : List α) (Bs : List (List α)) : blk c (B :: Bs) = B ++ [c] ++ blk c Bs := by simp [blk]
theorem blk_app (c : α) (As Bs : List (List α)) : blk c (As ++ Bs) = blk c As ++ blk c Bs := by simp [blk]
theorem blk_last (c d : α) : ∀ {Bs : List (List α)}, Bs ≠ [] → (blk c Bs).getLastD d = c := fun {Bs} h => by
  obtain ⟨As, B, rfl⟩ : ∃ As B, Bs = As ++ [B] := ⟨Bs.dropLast, Bs.getLast h, (List.dropLast_concat_getLast h).symm⟩
  rw [blk_app]
  simp [blk]
theorem ch_rep (a c : α) (h : a ≠ c) : ∀ k, ch a (List.replicate k a ++ [c]) = 1
  | 0 => by simp [ch, Ne.symm h]
  | k + 1 => by
    rw [List.replicate_succ, List.cons_append]
    unfold ch
    rw [ch_rep a c h k]
    simp
theorem ch_blk (c : α) (f : List α → List α) (hf : ∀ l k, f (l ++ k) = f l ++ f k) (hc : f [c] = [c]) : ∀ (Bs : List (List α)), (∀ B ∈ Bs, ch c (f B ++ [c]) = 2) → ch c (f (blk c Bs)) = 2 * Bs.length
  | [], _ => by
    have : f [] = [] := by
      have := congrArg List.length (hf [] [])
      rw [List.append_nil, List.length_append] at this
      exact List.length_eq_zero_iff.mp (by omega)
    show ch c (f []) = _
    rw [this]; rfl
  | B :: Bs, h => by
    rw [blk_cons, hf, hf, hc, ch_app, h B (List.mem_cons_self ..)]
    have : (f B ++ [c]).getLastD c = c := by simp
    rw [this, ch_blk c f hf hc Bs fun B hB => h B (List.mem_cons_of_mem _ hB), List.length_cons]
    omega
end
theorem filt_rep {a c : Str} {B : List Str} (hc : c ∉ B) (ha : a ∈ B) : ∃ k, B.filter (tw a c) = List.replicate (k + 1) a := by
  have h1 : ∀ x ∈ B.filter (tw a c), x = a := fun x hx => by
    obtain ⟨m, q⟩ := List.mem_filter.mp hx
    rcases of_decide_eq_true q with e | e
    · exact e
    · exact absurd (e ▸ m) hc
  have h2 := List.eq_replicate_of_mem h1
  have h3 : a ∈ B.filter (tw a c) := List.mem_filter.mpr ⟨ha, by simp⟩
  have h4 := List.length_pos_of_mem h3
  exact ⟨(B.filter (tw a c)).length - 1, by rw [Nat.sub_add_cancel h4]; exact h2⟩
theorem cyc_blk {a c : Str} (x : Str) (hac : a ≠ c) {Bs : List (List Str)} (hne : Bs ≠ []) (h : ∀ B ∈ Bs, c ∉ B ∧ a ∈ B) : cyc x ((blk c Bs).filter (tw a c)) = 2 * Bs.length := by
  have hf : [c].filter (tw a c) = [c] := by simp [tw]
  have hlast : ((blk c Bs).filter (tw a c)).getLastD x = c := by
    obtain ⟨As, B, rfl⟩ : ∃ As B, Bs = As ++ [B] := ⟨Bs.dropLast, Bs.getLast hne, (List.dropLast_concat_getLast hne).symm⟩
    rw [blk_app, List.filter_append]
    have : blk c [B] = B ++ [c] := by simp [blk]
    rw [this, List.filter_append, hf, ← List.append_assoc]
    simp
  unfold cyc
  rw [hlast]
  refine ch_blk c (fun l => l.filter (tw a c)) (fun l k => List.filter_append ..) hf Bs fun B hB => ?_
  obtain ⟨k, hk⟩ := filt_rep (h B hB).1 (h B hB).2
  show ch c (B.filter (tw a c) ++ [c]) = 2
  rw [hk, List.replicate_succ, List.cons_append]
  unfold ch
  rw [ch_rep a c hac k, if_neg hac]
/-! ### arcs -/
theorem fold_no {b : Str} : ∀ {B : List Str} (cl : List (List Str)) (cu : List Str), b ∉ B → B.foldl (arcStep b) (cl, cu) = (cl, cu ++ B)
  | [], cl, cu, _ => by simp
  | x :: B, cl, cu, h => by
    rw [List.mem_cons, not_or] at h
    rw [List.foldl_cons]
    have : arcStep b (cl, cu) x = (cl, cu ++ [x]) := by
      unfold arcStep
      rw [if_neg (Ne.symm h.1)]
    rw [this, fold_no cl (cu ++ [x]) h.2, List.append_assoc]; rfl
theorem fold_blk {b : Str} : ∀ {Bs : List (List Str)} (cl : List (List Str)) (cu : List Str), (∀ B ∈ Bs, b ∉ B) → ∀ C, b ∉ C → (blk b Bs ++ C).foldl (arcStep b) (cl, cu) = match Bs with
    | [] => (cl, cu ++ C)
    | B :: r => (cl ++ [cu ++ B] ++ r.map (b :: ·), b :: C)
  | [], cl, cu, _, C, hC => by
    show C.foldl _ _ = _
    exact fold_no cl cu hC
  | B :: Bs, cl, cu, h, C, hC => by
    rw [blk_cons, List.append_assoc, List.append_assoc, List.foldl_append, fold_no cl cu (h B (List.mem_cons_self ..))]
    show (blk b Bs ++ C).foldl (arcStep b) (arcStep b (cl, cu ++ B) b) = _
    have : arcStep b (cl, cu ++ B) b = (cl ++ [cu ++ B], [b]) := by
      unfold arcStep
      rw [if_pos rfl]
    rw [this, fold_blk (Bs := Bs) (cl ++ [cu ++ B]) [b] (fun B hB => h B (List.mem_cons_of_mem _ hB)) C hC]
    cases Bs with
    | nil => simp
    | cons B' r => simp
theorem arcs_blk {b : Str} {B1 : List Str} {rest : List (List Str)} (h1 : b ∉ B1) (h : ∀ B ∈ rest, b ∉ B) : arcsL b (blk b rest ++ B1) = (rest ++ [B1]).map (b :: ·) := by
  unfold arcsL
  rw [fold_blk [] [b] h B1 h1]
  cases rest with
  | nil => simp
  | cons B r => simp
/-- the word with the next book's readers -/
def mdw (c : Str) (n m : Nat) : Nat → List (List Str) → List Str
  | _, [] => []
  | i, a :: r => a ++ (if i + 1 < n ∨ i + 1 = m then [c] else []) ++ mdw c n m (i + 1) r
theorem mdw_end {c : Str} {n m : Nat} : ∀ {r : List (List Str)} {i : Nat}, n ≤ i + 1 → r ≠ [] → i + r.length = m → mdw c n m i r = r.flatten ++ [c]
  | [], _, _, h, _ => absurd rfl h
  | [a], i, h1, _, h3 => by
    simp only [List.length_singleton] at h3
    simp [mdw, h3]
  | a :: a' :: r, i, h1, _, h3 => by
    simp only [List.length_cons] at h3
    unfold mdw
    rw [if_neg (by omega), mdw_end (r := a' :: r) (i := i + 1) (by omega) (by simp) (by simp only [List.length_cons]; omega)]
    simp
def grp (k : Nat) (r : List (List Str)) : List (List Str) := r.take k ++ [(r.drop k).flatten]
theorem mdw_blk {c : Str} {n m : Nat} : ∀ (k i : Nat) {r : List (List Str)}, i + 1 + k = n → n ≤ m → i + r.length = m → mdw c n m i r = blk c (grp k r)
  | 0, i, r, h1, h2, h3 => by
    have hr : r ≠ [] := fun e => by rw [e] at h3; simp at h3; omega
    rw [mdw_end (by omega) hr h3]
    simp [grp, blk]
  | k + 1, i, r, h1, h2, h3 => by
    cases r with
    | nil => simp at h3; omega
    | cons a r =>
      simp only [List.length_cons] at h3
      unfold mdw
      rw [if_pos (by omega), mdw_blk k (i + 1) (r := r) (by omega) h2 (by omega)]
      simp [grp, blk]
theorem grp_len {k : Nat} {r : List (List Str)} (h : k < r.length) : (grp k r).length = k + 1 := by
  unfold grp
  rw [List.length_append, List.length_take, List.length_singleton]; omega
theorem grp_flat (k : Nat) (r : List (List Str)) : (grp k r).flatten = r.flatten := by
  unfold grp
  rw [List.flatten_append]
  simp only [List.flatten_cons, List.flatten_nil, List.append_nil]
  rw [← List.flatten_append, List.take_append_drop]
theorem grp_has {k : Nat} {r : List (List Str)} (hk : k < r.length) {x : Str} (h : ∀ A ∈ r, x ∈ A) : ∀ B ∈ grp k r, x ∈ B := fun B hB => by
  unfold grp at hB
  rcases List.mem_append.mp hB with q | q
  · exact h B (List.mem_of_mem_take q)
  · rw [List.mem_singleton] at q
    rw [q, List.mem_flatten]
    have hd : 0 < (r.drop k).length := by rw [List.length_drop]; omega
    obtain ⟨A, hA⟩ := List.exists_mem_of_length_pos hd
    exact ⟨A, hA, h A (List.mem_of_mem_drop hA)⟩
theorem grp_not {k : Nat} {r : List (List Str)} {x : Str} (h : ∀ A ∈ r, x ∉ A) : ∀ B ∈ grp k r, x ∉ B := fun B hB hx => by
  unfold grp at hB
  rcases List.mem_append.mp hB with q | q
  · exact h B (List.mem_of_mem_take q) hx
  · rw [List.mem_singleton] at q
    rw [q, List.mem_flatten] at hx
    obtain ⟨A, hA, hxA⟩ := hx
    exact h A (List.mem_of_mem_drop hA) hxA
theorem blk_perm {α : Type} [DecidableEq α] (c : α) : ∀ Bs : List (List α), (blk c Bs).Perm (Bs.flatten ++ List.replicate Bs.length c)
  | [] => List.Perm.refl _
  | B :: Bs => by
    rw [blk_cons, List.flatten_cons, List.length_cons, List.replicate_succ, List.append_assoc, List.append_assoc]
    refine List.Perm.append_left B ?_
    refine ((blk_perm c Bs).cons c).trans ?_
    exact List.perm_middle.symm
theorem blk_filter {a b c : Str} (ha : a ≠ c) (hb : b ≠ c) (Bs : List (List Str)) : (blk c Bs).filter (tw a b) = Bs.flatten.filter (tw a b) := by
  have hc : tw a b c = false := by simp [tw, Ne.symm ha, Ne.symm hb]
  induction Bs with
  | nil => rfl
  | cons B Bs ih =>
    rw [blk_cons, List.filter_append, List.filter_append, ih, List.flatten_cons, List.filter_append, List.filter_cons, hc]
    simp
/-- the day so far: each two of its books passed one another as often as may be -/
structure MDay (done : List (Str × Nat)) (last : Str) (m : Nat) (w : List Str) : Prop where
  perm : w.Perm (done.flatMap fun p => List.replicate p.2 p.1)
  nd : (done.map (·.1)).Nodup
  is : (last, m) ∈ done
  least : ∀ p ∈ done, m ≤ p.2
  blks : ∃ Bs, w = blk last Bs ∧ Bs ≠ [] ∧ Bs.length = m ∧ (∀ B ∈ Bs, last ∉ B) ∧ ∀ p ∈ done, p.1 ≠ last → ∀ B ∈ Bs, p.1 ∈ B
  most : ∀ p ∈ done, ∀ q ∈ done, p.1 ≠ q.1 → ∀ x, cyc x (w.filter (tw p.1 q.1)) = 2 * min p.2 q.2
theorem blk_rep (c : Str) : ∀ m, blk c (List.replicate m []) = List.replicate m c
  | 0 => rfl
  | m + 1 => by
    rw [List.replicate_succ, blk_cons, blk_rep c m, List.replicate_succ]; rfl
theorem mday_one {b : Str} {m : Nat} (hm : 1 ≤ m) : MDay [(b, m)] b m (List.replicate m b) := by
  refine ⟨by simp, by simp, by simp, by simp, ⟨List.replicate m [], (blk_rep b m).symm, by simp; omega, by simp, fun B hB => ?_, fun p hp hne => ?_⟩, fun p hp q hq hne => ?_⟩
  · rw [(List.mem_replicate.mp hB).2]; simp
  · rw [List.mem_singleton] at hp
    rw [hp] at hne
    exact absurd rfl hne
  · rw [List.mem_singleton] at hp hq
    rw [hp, hq] at hne
    exact absurd rfl hne
theorem mday_step {done : List (Str × Nat)} {last c : Str} {m n : Nat} {w : List Str} (h : MDay done last m w) (hn : 1 ≤ n) (hnm : n ≤ m) (hc : c ∉ done.map (·.1)) :
    ∃ w1, w.idxOf last < w.length ∧ w.drop (w.idxOf last) ++ w.take (w.idxOf last) = last :: w1 ∧ (arcsL last w1).length = m ∧ MDay (done ++ [(c, n)]) c n (mdw c n m 0 (arcsL last w1)) := by
  obtain ⟨Bs, hw, hne, hlen, hnot, hhas⟩ := h.blks
  obtain ⟨B1, rest, rfl⟩ : ∃ B1 rest, Bs = B1 :: rest := by
    cases Bs with
    | nil => exact absurd rfl hne
    | cons B r => exact ⟨B, r, rfl⟩
  have hn1 := hnot B1 (List.mem_cons_self ..)
  have hnr : ∀ B ∈ rest, last ∉ B := fun B hB => hnot B (List.mem_cons_of_mem _ hB)
  have hw' : w = B1 ++ last :: blk last rest := by rw [hw, blk_cons]; simp
  have hidx : w.idxOf last = B1.length := by rw [hw']; exact idx_append hn1
  have hrot : w.drop (w.idxOf last) ++ w.take (w.idxOf last) = last :: (blk last rest ++ B1) := by
    rw [hidx, hw', List.drop_left, List.take_left]; rfl
  have harcs := arcs_blk hn1 hnr
  have harl : (arcsL last (blk last rest ++ B1)).length = m := by
    rw [harcs, List.length_map, List.length_append, ← hlen]; simp
  refine ⟨blk last rest ++ B1, by rw [hidx, hw', List.length_append, List.length_cons]; omega, hrot, harl, ?_⟩
  have hflat : (arcsL last (blk last rest ++ B1)).flatten = last :: (blk last rest ++ B1) := by
    rw [harcs]
    clear hrot hw hw' harl harcs hidx hhas hnot hlen hne
    induction rest with
    | nil => simp [blk]
    | cons B r ih =>
      have := ih fun B hB => hnr B (List.mem_cons_of_mem _ hB)
      rw [List.cons_append, List.map_cons, List.flatten_cons, this, blk_cons]
      simp
  have hAhas : ∀ p ∈ done, ∀ A ∈ arcsL last (blk last rest ++ B1), p.1 ∈ A := fun p hp A hA => by
    rw [harcs] at hA
    obtain ⟨B, hB, rfl⟩ := List.mem_map.mp hA
    by_cases e : p.1 = last
    · rw [e]; exact List.mem_cons_self ..
    · refine List.mem_cons_of_mem _ (hhas p hp e B ?_)
      rcases List.mem_append.mp hB with q | q
      · exact List.mem_cons_of_mem _ q
      · rw [List.mem_singleton] at q
        rw [q]; exact List.mem_cons_self ..
  generalize hA : arcsL last (blk last rest ++ B1) = As at harl hflat hAhas
  have hperm0 : As.flatten.Perm w := by
    rw [hflat, ← hrot]
    refine List.perm_append_comm.trans ?_
    rw [List.take_append_drop]
  have hmem : ∀ x, x ∈ As.flatten ↔ x ∈ done.flatMap fun p => List.replicate p.2 p.1 := fun x => by rw [hperm0.mem_iff, h.perm.mem_iff]
  have hcA : ∀ A ∈ As, c ∉ A := fun A hA hx => by
    have : c ∈ As.flatten := List.mem_flatten.mpr ⟨A, hA, hx⟩
    rw [hmem, List.mem_flatMap] at this
    obtain ⟨p, hp, q⟩ := this
    exact hc (List.mem_map.mpr ⟨p, hp, (List.mem_replicate.mp q).2.symm⟩)
  have hkl : n - 1 < As.length := by omega
  have hword : mdw c n m 0 As = blk c (grp (n - 1) As) := mdw_blk (n - 1) 0 (by omega) hnm (by omega)
  have hgl : (grp (n - 1) As).length = n := by rw [grp_len hkl]; omega
  have hgne : grp (n - 1) As ≠ [] := fun e => by rw [e] at hgl; simp at hgl; omega
  rw [hword]
  have hcyc : ∀ p ∈ done, ∀ x, cyc x ((blk c (grp (n - 1) As)).filter (tw p.1 c)) = 2 * n := fun p hp x => by
    have hpc : p.1 ≠ c := fun e => hc (e ▸ List.mem_map.mpr ⟨p, hp, rfl⟩)
    rw [cyc_blk x hpc hgne fun B hB => ⟨grp_not hcA B hB, grp_has hkl (hAhas p hp) B hB⟩, hgl]
  refine ⟨?_, ?_, by simp, fun p hp => ?_, ⟨grp (n - 1) As, rfl, hgne, hgl, grp_not hcA, fun p hp hne B hB => ?_⟩, fun p hp q hq hne x => ?_⟩
  · refine (blk_perm c _).trans ?_
    rw [grp_flat, hgl, List.flatMap_append]
    simp only [List.flatMap_cons, List.flatMap_nil, List.append_nil]
    exact (hperm0.trans h.perm).append_right _
  · rw [List.map_append, List.nodup_append]
    exact ⟨h.nd, by simp, fun a ha b hb e => by
      simp only [List.map_cons, List.map_nil, List.mem_singleton] at hb
      exact hc (by rw [← hb, ← e]; exact ha)⟩
  · rcases List.mem_append.mp hp with q | q
    · have := h.least p q; omega
    · rw [List.mem_singleton] at q
      rw [q]; exact Nat.le_refl _
  · rcases List.mem_append.mp hp with q | q
    · exact grp_has hkl (hAhas p q) B hB
    · rw [List.mem_singleton] at q
      rw [q] at hne
      exact absurd rfl hne
  · have hle : ∀ p ∈ done, n ≤ p.2 := fun p hp => by have := h.least p hp; omega
    rcases List.mem_append.mp hp with hp | hp <;> rcases List.mem_append.mp hq with hq | hq
    · have hpc : p.1 ≠ c := fun e => hc (e ▸ List.mem_map.mpr ⟨p, hp, rfl⟩)
      have hqc : q.1 ≠ c := fun e => hc (e ▸ List.mem_map.mpr ⟨q, hq, rfl⟩)
      rw [blk_filter hpc hqc, grp_flat, hflat, ← hrot, List.filter_append, cyc_rot, ← List.filter_append, List.take_append_drop]
      exact h.most p hp q hq hne x
    · rw [List.mem_singleton] at hq
      rw [hq, hcyc p hp x]
      have := hle p hp
      show 2 * n = 2 * min p.2 n
      omega
    · rw [List.mem_singleton] at hp
      rw [hp, tw_comm, hcyc q hq x]
      have := hle q hq
      show 2 * n = 2 * min n q.2
      omega
    · rw [List.mem_singleton] at hp hq
      rw [hp, hq] at hne
      exact absurd rfl hne
end LT

/-! QX: the most that days lift; all rows of books. -/
namespace LT
open PySem PySem.Spec PyProof.Rows L2
section
variable {P : PyData → Prop}
def wI (ws : List (Str × Nat)) : List (Str × Int) := ws.map fun p => (p.1, (p.2 : Int))
theorem tW_eq (ws : List (Str × Nat)) : tW ws = .tuple ((wI ws).map prD) := by
  unfold wI
  rw [List.map_map]; rfl
theorem mg_w {ws : List (Str × Nat)} (nd : (nm ws).Nodup) : mgS [] ((wI ws).map prK) = ws.map kW := by
  have e : (wI ws).map prK = ws.map kW := by unfold wI; rw [List.map_map]; rfl
  rw [e, mg_nodup _ [] (by rw [List.nil_append]; exact keys_nodup nd)]
  rfl
/-- how often a book is wanted -/
def cw (ws : List (Str × Nat)) (x : Str) : Nat := ((ws.find? fun p => decide (p.1 = x)).map (·.2)).getD 0
theorem cw_of {ws : List (Str × Nat)} (nd : (nm ws).Nodup) {p : Str × Nat} (h : p ∈ ws) : cw ws p.1 = p.2 := by
  unfold cw
  induction ws with
  | nil => cases h
  | cons q r ih =>
    have nd' : q.1 ∉ nm r ∧ (nm r).Nodup := List.nodup_cons.mp nd
    rw [List.find?_cons]
    by_cases e : q.1 = p.1
    · rw [decide_eq_true e]
      rcases List.mem_cons.mp h with z | z
      · rw [z]; rfl
      · exact absurd (List.mem_map.mpr ⟨p, z, e.symm⟩) nd'.1
    · rw [decide_eq_false e]
      exact ih nd'.2 ((List.mem_cons.mp h).resolve_left fun z => e (by rw [z]))
theorem val_cw {ws : List (Str × Nat)} (nd : (nm ws).Nodup) {x : Str} (h : x ∈ nm ws) : valS (ws.map kW) (.inr x) = some (.inl ((cw ws x : Nat) : Int)) := by
  obtain ⟨p, hp, rfl⟩ := List.mem_map.mp h
  rw [val_w nd hp, cw_of nd hp]
theorem min_int (a b : Nat) : (if (b : Int) < (a : Int) then (b : Int) else (a : Int)) = ((min a b : Nat) : Int) := by
  by_cases h : (b : Int) < (a : Int)
  · rw [if_pos h]; omega
  · rw [if_neg h]; omega
/-- the row told of two books -/
theorem row_due {Γ : Gm} {ws : List (Str × Nat)} {x y : Str} {i j k : Nat} {R : PyData → Prop} (nd : (nm ws).Nodup) (hx : x ∈ nm ws) (hy : y ∈ nm ws) (hi : Γ[i]? = some (.dat (.str x))) (hj : Γ[j]? = some (.dat (.str y))) (hk : Γ[k]? = some (.dat (dD (ws.map kW)))) (hR : R (row3 (x, y) (2 * min (cw ws x) (cw ws y)))) :
    mTup (mCons (mVar i) (mCons (mVar j) (mCons (mOp fMul (mC (.int 2)) (mCB2 fMin2 (mDGet (mVar k) (mVar i)) (mDGet (mVar k) (mVar j)))) mNil))) Γ R := by
  refine ⟨_, hi, _, hj, _, hk, _, hi, _, .inr x, _, rfl, rfl, val_cw nd hx, _, hk, _, hj, _, .inr y, _, rfl, rfl, val_cw nd hy, _, _, rfl, rfl, _, _, rfl, rfl, .inl ⟨by decide, by decide⟩, by show 3 ≤ 1000; decide, ?_⟩
  have e : (2 : Int) * (if ((cw ws y : Nat) : Int) < ((cw ws x : Nat) : Int) then ((cw ws y : Nat) : Int) else ((cw ws x : Nat) : Int)) = ((2 * min (cw ws x) (cw ws y) : Nat) : Int) := by
    rw [min_int]; omega
  show R (.tuple [.str x, .str y, .int ((2 : Int) * (if ((cw ws y : Nat) : Int) < ((cw ws x : Nat) : Int) then ((cw ws y : Nat) : Int) else ((cw ws x : Nat) : Int)))])
  rw [e]
  exact hR
theorem keys_w (ws : List (Str × Nat)) : ((ws.map kW).map fun kv => kyD kv.1) = (nm ws).map .str := by
  rw [List.map_map, List.map_map]; rfl
abbrev dueL (ws : List (Str × Nat)) : List PyData := (prs (srt (nm ws))).map fun p => row3 p (2 * min (cw ws p.1) (cw ws p.2))
theorem prs_in {ws : List (Str × Nat)} (nd : (nm ws).Nodup) {p : Str × Str} (h : p ∈ prs (srt (nm ws))) : p.1 ∈ nm ws ∧ p.2 ∈ nm ws ∧ p.1 ≠ p.2 := by
  obtain ⟨a1, a2, _, a4⟩ := (prs_mem (srt_pw (nm ws)) ((srt_perm (nm ws)).nodup_iff.mpr nd)).mp h
  exact ⟨(srt_perm (nm ws)).mem_iff.mp a1, (srt_perm (nm ws)).mem_iff.mp a2, a4⟩
theorem prs_small {ws : List (Str × Nat)} (hl : ws.length ≤ 63) : (prs (srt (nm ws))).length ≤ 100000 := by
  have h8 := prs_len (srt (nm ws))
  rw [srt_len, List.length_map] at h8
  have h9 : ws.length * ws.length ≤ 63 * 63 := Nat.mul_le_mul (by omega) (by omega)
  omega
end
end LT

/-! L07: numbers tell the readings. -/
namespace LT
open PySem PySem.Spec PyProof.Rows L2
section
variable {P : PyData → Prop}
def nameOk (x : Str) : Bool := decide (1 ≤ x.length) && decide (x.length ≤ 8) && x.cps.toList.all fun c => decide (c ∈ vLetters.cps.toList)
theorem is_name_ok {x : Str} (h : nameOk x = true) (hp : P (.bool true)) : F_is_name [.str x] P := by
  unfold nameOk at h
  rw [Bool.and_eq_true, Bool.and_eq_true] at h
  obtain ⟨⟨h1, h2⟩, h3⟩ := h
  have h1 := of_decide_eq_true h1
  have h2 := of_decide_eq_true h2
  refine ⟨_, rfl, (fun k e => nomatch e), _, rfl, iteT ?_⟩
  refine ⟨_, rfl, x, rfl, by omega, _, _, rfl, rfl, _, rfl, ?_⟩
  rw [decide_eq_true (show (1 : Int) ≤ (x.length : Int) by omega)]
  refine iteT ⟨_, _, rfl, rfl, _, rfl, ?_⟩
  rw [decide_eq_true (show (x.length : Int) ≤ 8 by omega)]
  refine iteT ⟨_, rfl, x, rfl, lc_map (x.cps.toList.map fun _ => .bool true) ?_ ?_ (fun k u v hu hv R hR => ?_) ?_⟩
  · unfold sgnD; rw [List.length_map, List.length_map]
  · rw [List.length_map]
    have : x.cps.toList.length = x.length := by simp [Str.length]
    omega
  · unfold sgnD at hu
    rw [List.getElem?_map] at hu hv
    cases e : x.cps.toList[k]? with
    | none => rw [e] at hu; cases hu
    | some c =>
      rw [e] at hu hv
      cases hu; cases hv
      have hc : decide (c ∈ vLetters.cps.toList) = true := List.all_eq_true.mp h3 c (List.mem_of_getElem? e)
      refine ⟨_, rfl, c, vLetters, rfl, rfl, ?_⟩
      rw [hc]; exact hR
  · refine ⟨_, rfl, x.cps.toList.map fun _ => true, by rw [List.map_map]; rfl, ?_⟩
    have : ((x.cps.toList.map fun _ => true).all id) = true := by simp
    rw [this]; exact hp
theorem books_names : ∀ x ∈ bookNames, nameOk x = true := by
  have : bookNames.all nameOk = true := by decide +kernel
  exact fun x hx => List.all_eq_true.mp this x hx
theorem any_key {l : List Str} {x : Str} (h : x ∉ l) : ((l.map fun y => ((.inr y : Key), (.inr true : Sc))).any fun kv => decide (kv.1 = .inr x)) = false := by
  rw [List.any_map, List.any_eq_false]
  intro y hy q
  have : (Sum.inr y : Key) = .inr x := of_decide_eq_true q
  cases this
  exact h hy
theorem is_pile_ok {ps : List Str} (nd : ps.Nodup) (h1 : 1 ≤ ps.length) (h7 : ps.length ≤ 7) (hn : ∀ x ∈ ps, nameOk x = true) (hp : P (.bool true)) : F_is_pile [tS ps] P := by
  refine ⟨_, rfl, (fun k e => nomatch e), _, rfl, iteF ⟨_, rfl, _, .inr rfl, _, _, rfl, rfl, _, rfl, ?_⟩⟩
  rw [List.length_map, decide_eq_true (show (1 : Int) ≤ (ps.length : Int) by omega)]
  refine iteT ⟨_, _, rfl, rfl, _, rfl, ?_⟩
  rw [decide_eq_true (show (ps.length : Int) ≤ 7 by omega)]
  refine iteF ⟨_, rfl, _, rfl, lc_map (ps.map fun _ => .bool true) ?_ ?_ (fun k u v hu hv R hR => ?_) ?_⟩
  · rw [List.length_map, List.length_map]
  · rw [List.length_map]; omega
  · obtain ⟨x, hx, rfl⟩ := at_strD hu
    rw [List.getElem?_map, hx] at hv
    cases hv
    exact ⟨_, rfl, rfl, is_name_ok (hn x (List.mem_of_getElem? hx)) hR⟩
  · refine ⟨_, rfl, ps.map fun _ => true, by rw [List.map_map]; rfl, ?_⟩
    have : ((ps.map fun _ => true).all id) = true := by simp
    rw [this]
    refine ⟨_, rfl, iteT ⟨_, rfl, _, rfl, dc_inv (fun j acc => acc = (ps.take j).map fun y => (.inr y, .inr true)) rfl ?_ ?_⟩⟩
    · rintro j x acc hx rfl
      obtain ⟨y, hy, rfl⟩ := at_strD hx
      refine ⟨_, rfl, .inr y, .inr true, rfl, rfl, ?_, ?_⟩
      · rw [List.length_map, List.length_take]; omega
      · have hny : y ∉ ps.take j := by
          have := nd.sublist (List.take_sublist (j + 1) ps)
          rw [take_snoc hy, List.nodup_append] at this
          exact fun q => this.2.2 y q y (List.mem_singleton.mpr rfl) rfl
        show putS _ _ _ = _
        unfold putS
        rw [any_key hny, if_neg Bool.false_ne_true, take_snoc hy, List.map_append]
        rfl
    · rintro acc rfl
      refine ⟨_, rfl, _, rfl, _, .inr rfl, .inl ⟨_, _, rfl, rfl, ?_⟩⟩
      have : decide ((((ps.take (ps.map PyData.str).length).map fun y => ((.inr y : Key), (.inr true : Sc))).length : Int) = ((ps.map PyData.str).length : Int)) = true := by
        apply decide_eq_true
        simp
      rw [this]
      exact hp
end
end LT

/-! QN: of anything: piles and wants, told twice. -/
namespace LT
open PySem PySem.Spec PyProof.Rows L2
/-- the answer is this truth -/
def EvB (F : FW) (ds : List PyData) (b : Bool) : Prop := ∀ P : PyData → Prop, P (.bool b) → F ds P
def Lf (N : Nat) (d : PyData) : Prop := d = .none ∨ (∃ b, d = .bool b) ∨ (∃ i, d = .int i) ∨ ∃ x : Str, d = .str x ∧ x.length ≤ N ∧ ∀ c ∈ x.cps.toList, c < 0x110000
/-- no dict in it, so deep, nothing longer than N -/
def Gd (N : Nat) : Nat → PyData → Prop
  | 0, d => Lf N d
  | n + 1, d => Lf N d ∨ ∃ ds, (d = .list ds ∨ d = .tuple ds) ∧ ds.length ≤ N ∧ ∀ x ∈ ds, Gd N n x
theorem Lf.mono {N N' : Nat} {d : PyData} (h : Lf N d) (hN : N ≤ N') : Lf N' d := by
  rcases h with h | h | h | ⟨x, h1, h2, h3⟩
  · exact .inl h
  · exact .inr (.inl h)
  · exact .inr (.inr (.inl h))
  · exact .inr (.inr (.inr ⟨x, h1, Nat.le_trans h2 hN, h3⟩))
theorem Lf.gd {N : Nat} {d : PyData} (h : Lf N d) : ∀ n, Gd N n d
  | 0 => h
  | _ + 1 => .inl h
theorem Gd.mono {N N' : Nat} (hN : N ≤ N') : ∀ {n n' : Nat} {d : PyData}, n ≤ n' → Gd N n d → Gd N' n' d
  | 0, n', d, _, h => (Lf.mono h hN).gd n'
  | n + 1, 0, d, hn, _ => absurd hn (Nat.not_succ_le_zero _)
  | n + 1, n' + 1, d, hn, h => by
    rcases h with h | ⟨ds, h1, h2, h3⟩
    · exact .inl (h.mono hN)
    · exact .inr ⟨ds, h1, Nat.le_trans h2 hN, fun x hx => Gd.mono hN (Nat.le_of_succ_le_succ hn) (h3 x hx)⟩
theorem Lf.nd {N : Nat} {d : PyData} (h : Lf N d) : ∀ k, d ≠ .dict k := by
  rintro k rfl
  rcases h with h | ⟨_, h⟩ | ⟨_, h⟩ | ⟨_, h, _⟩ <;> cases h
theorem Gd.nd {N n : Nat} {d : PyData} (h : Gd N n d) : ∀ k, d ≠ .dict k := by
  cases n with
  | zero => exact Lf.nd h
  | succ n =>
    rcases h with h | ⟨ds, h1, _⟩
    · exact h.nd
    · rintro k rfl
      rcases h1 with h1 | h1 <;> cases h1
theorem Gd.str {N n : Nat} {x : Str} (h : Gd N n (.str x)) : x.length ≤ N ∧ ∀ c ∈ x.cps.toList, c < 0x110000 := by
  have lf : Lf N (.str x) → x.length ≤ N ∧ ∀ c ∈ x.cps.toList, c < 0x110000 := fun h => by
    rcases h with h | ⟨_, h⟩ | ⟨_, h⟩ | ⟨y, h, h2⟩
    · cases h
    · cases h
    · cases h
    · cases h; exact h2
  cases n with
  | zero => exact lf h
  | succ n =>
    rcases h with h | ⟨ds, h1, _⟩
    · exact lf h
    · rcases h1 with h1 | h1 <;> cases h1
theorem Gd.seq {N n : Nat} {d : PyData} {ds : List PyData} (h : Gd N n d) (e : d = .list ds ∨ d = .tuple ds) : ds.length ≤ N ∧ ∃ m, n = m + 1 ∧ ∀ x ∈ ds, Gd N m x := by
  have lf : ¬ Lf N d := fun h => by
    rcases h with h | ⟨_, h⟩ | ⟨_, h⟩ | ⟨_, h, _⟩ <;> rcases e with e | e <;> rw [e] at h <;> cases h
  cases n with
  | zero => exact absurd h lf
  | succ n =>
    rcases h with h | ⟨ds', h1, h2, h3⟩
    · exact absurd h lf
    · have : ds' = ds := by
        rcases e with e | e <;> rcases h1 with h1 | h1 <;> rw [e] at h1 <;> cases h1 <;> rfl
      subst this
      exact ⟨h2, n, rfl, h3⟩
theorem gd_seq {N n : Nat} {d : PyData} {ds : List PyData} (e : d = .list ds ∨ d = .tuple ds) (hl : ds.length ≤ N) (h : ∀ x ∈ ds, Gd N n x) : Gd N (n + 1) d := .inr ⟨ds, e, hl, h⟩
theorem gd_int {N n : Nat} (i : Int) : Gd N n (.int i) := Lf.gd (.inr (.inr (.inl ⟨i, rfl⟩))) n
theorem gd_bool {N n : Nat} (i : Bool) : Gd N n (.bool i) := Lf.gd (.inr (.inl ⟨i, rfl⟩)) n
theorem gd_none {N n : Nat} : Gd N n .none := Lf.gd (.inl rfl) n
theorem gd_str {N n : Nat} {x : Str} (hl : x.length ≤ N) (h : ∀ c ∈ x.cps.toList, c < 0x110000) : Gd N n (.str x) := Lf.gd (.inr (.inr (.inr ⟨x, rfl, hl, h⟩))) n
theorem eqv_nil (l : List PyData) : PyData.eqv (.list l) (.list []) = l.isEmpty := by cases l <;> rfl
theorem one_ok {c : Nat} (h : c < 0x110000) : PyData.canLay0 (.str ⟨#[c]⟩) = true := by
  show PyData.strOk ⟨#[c]⟩ = true
  unfold PyData.strOk
  simp [h]
theorem agree_name {N n : Nat} {d : PyData} (h : Gd N n d) (hN : N ≤ 1000) : ∃ b, EvB F_is_name [d] b ∧ EvB F_law_is_name [d] b ∧ (b = true → ∃ x, d = .str x) := by
  have hnd := h.nd
  cases hs : isStr d with
  | false =>
    refine ⟨false, fun P hp => ⟨_, rfl, hnd, _, rfl, ?_⟩, fun P hp => ⟨_, rfl, hnd, _, rfl, ?_⟩, fun e => nomatch e⟩
    · rw [hs]; exact iteF hp
    · rw [hs]; exact iteT (iteT hp)
  | true =>
    obtain ⟨x, rfl⟩ : ∃ x, d = .str x := by
      cases d with
      | str x => exact ⟨x, rfl⟩
      | _ => cases hs
    obtain ⟨hl, hc⟩ := h.str
    have hxl : x.cps.toList.length = x.length := by simp [Str.length]
    refine ⟨nameOk x, fun P hp => ?_, fun P hp => ?_, fun _ => ⟨x, rfl⟩⟩
    · unfold nameOk at hp
      refine ⟨_, rfl, hnd, _, rfl, iteT ?_⟩
      refine ⟨_, rfl, x, rfl, by omega, _, _, rfl, rfl, _, rfl, ?_⟩
      by_cases h1 : 1 ≤ x.length
      · rw [decide_eq_true h1, Bool.true_and] at hp
        rw [decide_eq_true (show (1 : Int) ≤ (x.length : Int) by omega)]
        refine iteT ⟨_, _, rfl, rfl, _, rfl, ?_⟩
        by_cases h8 : x.length ≤ 8
        · rw [decide_eq_true h8, Bool.true_and] at hp
          rw [decide_eq_true (show (x.length : Int) ≤ 8 by omega)]
          refine iteT ⟨_, rfl, x, rfl, lc_mapA x.cps.toList (fun c => .str ⟨#[c]⟩) (fun c => .bool (decide (c ∈ vLetters.cps.toList))) (by omega) (fun k c hk R hR => ⟨_, rfl, c, vLetters, rfl, rfl, hR⟩) ⟨_, rfl, x.cps.toList.map fun c => decide (c ∈ vLetters.cps.toList), by rw [List.map_map]; rfl, ?_⟩⟩
          rw [List.all_map]; exact hp
        · rw [decide_eq_false h8, Bool.false_and] at hp
          rw [decide_eq_false (show ¬ (x.length : Int) ≤ 8 by omega)]
          exact iteF hp
      · rw [decide_eq_false h1, Bool.false_and, Bool.false_and] at hp
        rw [decide_eq_false (show ¬ (1 : Int) ≤ (x.length : Int) by omega)]
        exact iteF ⟨_, rfl, iteF hp⟩
    · unfold nameOk at hp
      refine ⟨_, rfl, hnd, _, rfl, iteF ⟨_, rfl, x, rfl, by omega, _, _, rfl, rfl, _, rfl, ?_⟩⟩
      by_cases h1 : 1 ≤ x.length
      · rw [decide_eq_true h1, Bool.true_and] at hp
        rw [decide_eq_true (show (0 : Int) < (x.length : Int) by omega)]
        refine iteT ⟨_, _, rfl, rfl, _, rfl, ?_⟩
        by_cases h8 : x.length ≤ 8
        · rw [decide_eq_true h8, Bool.true_and] at hp
          rw [decide_eq_true (show (x.length : Int) < 9 by omega)]
          refine iteF ⟨_, rfl, x, rfl, lc_filtA x.cps.toList (fun c => .str ⟨#[c]⟩) (fun c => .str ⟨#[c]⟩) (fun c => !decide (c ∈ vLetters.cps.toList)) (by omega) (fun k c hk Rt Rf ht hf => ⟨_, rfl, c, vLetters, rfl, rfl, _, rfl, ?_⟩) ⟨_, rfl, by decide, _, rfl, ?_, by decide, ?_⟩⟩
          · cases hq : (!decide (c ∈ vLetters.cps.toList)) with
            | true => exact iteT ⟨_, rfl, ht hq⟩
            | false => exact iteF (hf hq)
          · exact shaped_list (k := 3) (by decide) fun e he => by
              obtain ⟨c, hcm, rfl⟩ := List.mem_map.mp he
              exact ⟨one_ok (hc c (List.mem_filter.mp hcm).1), by simp [PyData.depth]⟩
          · show P (.bool (PyData.eqv _ (.list [])))
            rw [eqv_nil]
            have e : (List.map (fun c => PyData.str ⟨#[c]⟩) (x.cps.toList.filter fun c => !decide (c ∈ vLetters.cps.toList))).isEmpty = x.cps.toList.all fun c => decide (c ∈ vLetters.cps.toList) := by
              rw [Bool.eq_iff_iff, List.isEmpty_iff, List.map_eq_nil_iff, List.filter_eq_nil_iff, List.all_eq_true]
              constructor
              · intro q c hc'
                have := q c hc'
                simpa using this
              · intro q c hc'
                have := q c hc'
                simpa using this
            rw [e]; exact hp
        · rw [decide_eq_false h8, Bool.false_and] at hp
          rw [decide_eq_false (show ¬ (x.length : Int) < 9 by omega)]
          exact iteT hp
      · rw [decide_eq_false h1, Bool.false_and, Bool.false_and] at hp
        rw [decide_eq_false (show ¬ (0 : Int) < (x.length : Int) by omega)]
        exact iteF ⟨_, rfl, iteT hp⟩
theorem whole_ev {d : PyData} (hnd : ∀ k, d ≠ .dict k) : EvB F_law_whole [d] (isInt d && !isBool d) := fun P hp => by
  refine ⟨_, rfl, hnd, _, rfl, ?_⟩
  cases h : isInt d with
  | false =>
    rw [h, Bool.false_and] at hp
    exact iteF hp
  | true =>
    rw [h, Bool.true_and] at hp
    exact iteT ⟨_, rfl, hnd, _, rfl, hp⟩
theorem whole_int {d : PyData} (h : (isInt d && !isBool d) = true) : ∃ i, d = .int i := by
  cases d with
  | int i => exact ⟨i, rfl⟩
  | _ => cases h
theorem agree_within {d : PyData} (hnd : ∀ k, d ≠ .dict k) (lo hi : Int) : ∃ b, EvB F_is_within [d, .int lo, .int hi] b ∧ EvB F_law_within [d, .int lo, .int hi] b ∧ (b = true → ∃ i, d = .int i ∧ lo ≤ i ∧ i ≤ hi) := by
  cases hw : (isInt d && !isBool d) with
  | false =>
    refine ⟨false, fun P hp => ⟨_, rfl, hnd, _, rfl, ?_⟩, fun P hp => ⟨_, rfl, rfl, whole_ev hnd _ ⟨_, rfl, ?_⟩⟩, fun e => nomatch e⟩
    · cases h : isInt d with
      | false => exact iteF hp
      | true =>
        rw [h, Bool.true_and] at hw
        refine iteT ⟨_, rfl, hnd, _, rfl, _, rfl, ?_⟩
        rw [hw]; exact iteF hp
    · rw [hw]; exact iteF hp
  | true =>
    obtain ⟨i, rfl⟩ := whole_int hw
    refine ⟨decide (lo ≤ i) && decide (i ≤ hi), fun P hp => ⟨_, rfl, hnd, _, rfl, iteT ⟨_, rfl, hnd, _, rfl, _, rfl, iteT ⟨_, rfl, _, rfl, _, _, rfl, rfl, _, rfl, ?_⟩⟩⟩, fun P hp => ⟨_, rfl, rfl, whole_ev hnd _ ⟨_, rfl, iteT ⟨_, rfl, _, rfl, _, _, rfl, rfl, _, rfl, ?_⟩⟩⟩, fun e => ⟨i, rfl, ?_⟩⟩
    · by_cases h1 : lo ≤ i
      · rw [decide_eq_true h1, Bool.true_and] at hp
        rw [decide_eq_true h1]
        exact iteT ⟨_, rfl, _, _, rfl, rfl, hp⟩
      · rw [decide_eq_false h1, Bool.false_and] at hp
        rw [decide_eq_false h1]
        exact iteF hp
    · by_cases h1 : lo ≤ i
      · rw [decide_eq_true h1, Bool.true_and] at hp
        rw [decide_eq_true h1]
        exact iteT ⟨_, rfl, _, _, rfl, rfl, hp⟩
      · rw [decide_eq_false h1, Bool.false_and] at hp
        rw [decide_eq_false h1]
        exact iteF hp
    · rw [Bool.and_eq_true] at e
      exact ⟨of_decide_eq_true e.1, of_decide_eq_true e.2⟩
end LT

/-! QO: of anything: a want, a pile, wants. -/
namespace LT
open PySem PySem.Spec PyProof.Rows L2
theorem pick {ds : List PyData} {Q : PyData → Bool → Prop} (h : ∀ x ∈ ds, ∃ b, Q x b) : ∃ f : PyData → Bool, ∀ x ∈ ds, Q x (f x) := by
  classical
  refine ⟨fun x => if hx : x ∈ ds then Classical.choose (h x hx) else false, fun x hx => ?_⟩
  show Q x (if hx : x ∈ ds then Classical.choose (h x hx) else false)
  rw [dif_pos hx]
  exact Classical.choose_spec (h x hx)
theorem tup_of {d : PyData} (h : isTup d = true) : ∃ ds, d = .tuple ds := by
  cases d with
  | tuple ds => exact ⟨ds, rfl⟩
  | _ => cases h
def wTest : MT := mOr (mNot (mTest (mIsi isTup (mVar 1)))) (mOr (mTest (mOp fNe (mCB1 fLen (mVar 1)) (mC (.int 2)))) (mOr (mNot (mTest (mCall 1 F_law_is_name (mCons (mOp fIxA (mVar 1) (mC (.int 0))) mNil)))) (mNot (mTest (mCall 3 F_law_within (mCons (mOp fIxA (mVar 1) (mC (.int 1))) (mCons (mC (.int 1)) (mCons (mC (.int 4)) mNil))))))))
theorem agree_want {N n : Nat} {d : PyData} (h : Gd N n d) (hN : N ≤ 1000) : ∃ b, EvB F_is_want [d] b ∧ (∀ (Γ : Gm) (P : Bool → Prop), Γ[1]? = some (.dat d) → P (!b) → wTest Γ P) ∧ (b = true → ∃ (x : Str) (i : Int), d = .tuple [.str x, .int i] ∧ 1 ≤ i ∧ i ≤ 4) := by
  have hnd := h.nd
  cases ht : isTup d with
  | false =>
    refine ⟨false, fun P hp => ⟨_, rfl, hnd, _, rfl, ?_⟩, fun Γ P hΓ hp => ⟨_, hΓ, hnd, _, rfl, ?_⟩, fun e => nomatch e⟩
    · rw [ht]; exact iteF hp
    · rw [ht]; exact iteT hp
  | true =>
    obtain ⟨ds, rfl⟩ := tup_of ht
    obtain ⟨hl, m, rfl, hm⟩ := h.seq (.inr rfl)
    by_cases h2 : ds.length = 2
    · obtain ⟨a, c, rfl⟩ : ∃ a c, ds = [a, c] := by
        match ds, h2 with
        | [a, c], _ => exact ⟨a, c, rfl⟩
      obtain ⟨b1, n1, n2, n3⟩ := agree_name (hm a (List.mem_cons_self ..)) hN
      obtain ⟨b2, w1, w2, w3⟩ := agree_within (hm c (by simp)).nd 1 4
      refine ⟨b1 && b2, fun P hp => ⟨_, rfl, hnd, _, rfl, iteT ⟨_, rfl, _, .inr rfl, .inl ⟨_, _, rfl, rfl, _, rfl, iteT ⟨_, rfl, _, 0, a, rfl, rfl, rfl, rfl, n1 _ ⟨_, rfl, ?_⟩⟩⟩⟩⟩, fun Γ P hΓ hp => ⟨_, hΓ, hnd, _, rfl, iteF ⟨_, hΓ, _, .inr rfl, .inl ⟨_, _, rfl, rfl, _, rfl, iteF ⟨_, hΓ, .inr ⟨_, 0, a, rfl, rfl, rfl, rfl, n2 _ ⟨_, rfl, ?_⟩⟩⟩⟩⟩⟩, fun e => ?_⟩
      · cases b1 with
        | false => exact iteF hp
        | true => exact iteT ⟨_, rfl, _, 1, c, rfl, rfl, rfl, rfl, w1 _ hp⟩
      · cases b1 with
        | false => exact iteT hp
        | true => exact iteF ⟨_, hΓ, .inr ⟨_, 1, c, rfl, rfl, rfl, rfl, w2 _ ⟨_, rfl, hp⟩⟩⟩
      · rw [Bool.and_eq_true] at e
        obtain ⟨x, rfl⟩ := n3 e.1
        obtain ⟨i, rfl, i1, i2⟩ := w3 e.2
        exact ⟨x, i, rfl, i1, i2⟩
    · refine ⟨false, fun P hp => ⟨_, rfl, hnd, _, rfl, iteT ⟨_, rfl, _, .inr rfl, .inl ⟨_, _, rfl, rfl, _, rfl, ?_⟩⟩⟩, fun Γ P hΓ hp => ⟨_, hΓ, hnd, _, rfl, iteF ⟨_, hΓ, _, .inr rfl, .inl ⟨_, _, rfl, rfl, _, rfl, ?_⟩⟩⟩, fun e => nomatch e⟩
      · rw [show decide (((ds.length : Nat) : Int) = 2) = false from decide_eq_false (by omega)]
        exact iteF hp
      · rw [show decide (((ds.length : Nat) : Int) = 2) = false from decide_eq_false (by omega)]
        exact iteT hp
/-! ### piles -/
theorem strs_of {ds : List PyData} (h : ∀ x ∈ ds, ∃ y, x = .str y) : ∃ ps : List Str, ds = ps.map .str := by
  induction ds with
  | nil => exact ⟨[], rfl⟩
  | cons x ds ih =>
    obtain ⟨ps, hp⟩ := ih fun y hy => h y (List.mem_cons_of_mem _ hy)
    obtain ⟨y, hy⟩ := h x (List.mem_cons_self ..)
    exact ⟨y :: ps, by rw [hy, hp]; rfl⟩
/-- the keys of a dict of texts -/
def SKeys (ps : List Str) (acc : List (Key × Sc)) : Prop := acc.length = dcn ps ∧ ∀ y, (acc.any fun kv => decide (kv.1 = .inr y)) = decide (y ∈ ps)
theorem skeys_put {ps : List Str} {acc : List (Key × Sc)} (h : SKeys ps acc) (x : Str) (v : Sc) : SKeys (ps ++ [x]) (putS acc (.inr x) v) := by
  obtain ⟨h1, h2⟩ := h
  have hany : (ps.any (· == x)) = decide (x ∈ ps) := by
    rw [Bool.eq_iff_iff, List.any_eq_true, decide_eq_true_iff]
    constructor
    · rintro ⟨y, hy, e⟩
      rw [← beq_iff_eq.mp e]; exact hy
    · intro hx
      exact ⟨x, hx, beq_self_eq_true x⟩
  unfold putS
  rw [h2 x]
  by_cases hx : x ∈ ps
  · rw [decide_eq_true hx, if_pos rfl]
    refine ⟨?_, fun y => ?_⟩
    · rw [List.length_map, h1, dcn_snoc, hany, decide_eq_true hx, if_pos rfl]
    · have e : ((acc.map fun kv => if kv.1 = Sum.inr x then (kv.1, v) else kv).any fun kv => decide (kv.1 = .inr y)) = acc.any fun kv => decide (kv.1 = .inr y) := by
        rw [List.any_map]
        congr 1
        funext kv
        show decide ((if kv.1 = Sum.inr x then (kv.1, v) else kv).1 = .inr y) = _
        split <;> rfl
      rw [e, h2 y]
      apply decide_eq_decide.mpr
      rw [List.mem_append, List.mem_singleton]
      constructor
      · exact .inl
      · rintro (q | q)
        · exact q
        · rw [q]; exact hx
  · rw [decide_eq_false hx, if_neg Bool.false_ne_true]
    refine ⟨?_, fun y => ?_⟩
    · rw [List.length_append, h1, dcn_snoc, hany, decide_eq_false hx, if_neg Bool.false_ne_true]; rfl
    · rw [List.any_append, h2 y]
      simp only [List.any_cons, List.any_nil, Bool.or_false]
      rw [← Bool.decide_or]
      apply decide_eq_decide.mpr
      rw [List.mem_append, List.mem_singleton]
      constructor
      · rintro (q | q)
        · exact .inl q
        · exact .inr (Sum.inr.inj q).symm
      · rintro (q | q)
        · exact .inl q
        · exact .inr (by rw [q])
theorem agree_pile {N n : Nat} {d : PyData} (h : Gd N n d) (hN : N ≤ 1000) : ∃ b, EvB F_is_pile [d] b ∧ EvB F_law_is_pile [d] b := by
  have hnd := h.nd
  cases ht : isTup d with
  | false =>
    refine ⟨false, fun P hp => ⟨_, rfl, hnd, _, rfl, ?_⟩, fun P hp => ⟨_, rfl, hnd, _, rfl, ?_⟩⟩
    · rw [ht]; exact iteT (iteT hp)
    · rw [ht]; exact iteT (iteT hp)
  | true =>
    obtain ⟨ds, rfl⟩ := tup_of ht
    obtain ⟨hl, m, rfl, hm⟩ := h.seq (.inr rfl)
    by_cases h1 : 1 ≤ ds.length
    · by_cases h7 : ds.length ≤ 7
      · obtain ⟨nb, hnb⟩ : ∃ nb : PyData → Bool, ∀ x ∈ ds, EvB F_is_name [x] (nb x) ∧ EvB F_law_is_name [x] (nb x) ∧ (nb x = true → ∃ y, x = .str y) := by
          exact pick fun x hx => agree_name (hm x hx) hN
        have i1 : decide ((1 : Int) ≤ ((ds.length : Nat) : Int)) = true := decide_eq_true (by omega)
        have i7 : decide (((ds.length : Nat) : Int) ≤ 7) = true := decide_eq_true (by omega)
        -- the answer
        have key : ∃ b, (ds.all nb = false → b = false) ∧ (ds.all nb = true → ∃ ps : List Str, ds = ps.map .str ∧ b = decide (((dcn ps : Nat) : Int) = ((ds.length : Nat) : Int))) := by
          cases hall : ds.all nb with
          | false => exact ⟨false, fun _ => rfl, fun e => nomatch e⟩
          | true =>
            obtain ⟨ps, hps⟩ := strs_of fun x hx => (hnb x hx).2.2 (List.all_eq_true.mp hall x hx)
            exact ⟨_, (fun e => nomatch e), fun _ => ⟨ps, hps, rfl⟩⟩
        obtain ⟨b, k0, k1⟩ := key
        refine ⟨b, fun P hp => ?_, fun P hp => ?_⟩
        · refine ⟨_, rfl, hnd, _, rfl, iteF ⟨_, rfl, _, .inr rfl, _, _, rfl, rfl, _, rfl, ?_⟩⟩
          rw [i1]
          refine iteT ⟨_, _, rfl, rfl, _, rfl, ?_⟩
          rw [i7]
          refine iteF ⟨_, rfl, _, rfl, lc_map (ds.map fun x => .bool (nb x)) (by rw [List.length_map]) (by rw [List.length_map]; omega) (fun k u v hu hv R hR => ?_) ⟨_, rfl, ds.map nb, by rw [List.map_map]; rfl, _, rfl, ?_⟩⟩
          · rw [List.getElem?_map, hu] at hv
            cases hv
            exact ⟨_, rfl, rfl, (hnb u (List.mem_of_getElem? hu)).1 _ hR⟩
          · rw [List.all_map]
            show if ds.all (id ∘ nb) = true then _ else _
            have eall : ds.all (id ∘ nb) = ds.all nb := rfl
            rw [eall]
            cases hall : ds.all nb with
            | false =>
              rw [k0 hall] at hp
              exact iteF hp
            | true =>
              obtain ⟨ps, hps, hb⟩ := k1 hall
              subst hps
              refine iteT ⟨_, rfl, _, rfl, dc_inv (fun j acc => SKeys (ps.take j) acc) ⟨rfl, fun y => by simp⟩ (fun j x acc hx hI => ?_) fun acc hI => ⟨_, rfl, _, rfl, _, .inr rfl, .inl ⟨_, _, rfl, rfl, ?_⟩⟩⟩
              · obtain ⟨y, hy, rfl⟩ := at_strD hx
                refine ⟨_, rfl, .inr y, .inr true, rfl, rfl, ?_, ?_⟩
                · rw [hI.1]
                  have : dcn (ps.take j) ≤ (ps.take j).length := by rw [dcn_lw]; exact lw_length _
                  rw [List.length_take] at this
                  rw [List.length_map] at h7
                  omega
                · rw [take_snoc hy]; exact skeys_put hI y _
              · rw [List.length_map, List.take_length] at hI
                show P (.bool (decide (((acc.length : Nat) : Int) = _)))
                rw [hI.1, ← hb]; exact hp
        · refine ⟨_, rfl, hnd, _, rfl, iteF ⟨_, rfl, _, .inr rfl, _, _, rfl, rfl, _, rfl, ?_⟩⟩
          rw [i1]
          refine iteT ⟨_, _, rfl, rfl, _, rfl, ?_⟩
          rw [i7]
          refine iteF ⟨_, rfl, _, rfl, lc_filt (fun x => !nb x) (fun _ => .int 1) (by omega) (fun k u hu Rt Rf ht' hf => ?_) ⟨_, rfl, by decide, _, rfl, ?_, by decide, _, rfl, ?_⟩⟩
          · refine ⟨_, rfl, rfl, (hnb u (List.mem_of_getElem? hu)).2.1 _ ⟨_, rfl, ?_⟩⟩
            show if (!nb u) = true then mC (.int 1) _ Rt else Rf
            cases hq : (!nb u) with
            | true => exact iteT (ht' hq)
            | false => exact iteF (hf hq)
          · exact shaped_list (k := 3) (by decide) fun e he => by
              obtain ⟨_, _, rfl⟩ := List.mem_map.mp he
              exact ⟨rfl, by simp [PyData.depth]⟩
          · rw [eqv_nil]
            have e : (List.map (fun _ => PyData.int 1) (ds.filter fun x => !nb x)).isEmpty = ds.all nb := by
              rw [Bool.eq_iff_iff, List.isEmpty_iff, List.map_eq_nil_iff, List.filter_eq_nil_iff, List.all_eq_true]
              constructor
              · intro q c hc'
                have := q c hc'
                simpa using this
              · intro q c hc'
                have := q c hc'
                simpa using this
            rw [e]
            cases hall : ds.all nb with
            | false =>
              rw [k0 hall] at hp
              exact iteF hp
            | true =>
              obtain ⟨ps, hps, hb⟩ := k1 hall
              rw [hb] at hp
              refine iteT ⟨_, rfl, ps, .inl (by rw [hps]), ?_, _, rfl, _, .inr rfl, .inl ⟨_, _, rfl, rfl, hp⟩⟩
              rw [hps, List.length_map] at h7
              omega
      · have i1 : decide ((1 : Int) ≤ ((ds.length : Nat) : Int)) = true := decide_eq_true (by omega)
        have i7 : decide (((ds.length : Nat) : Int) ≤ 7) = false := decide_eq_false (by omega)
        refine ⟨false, fun P hp => ⟨_, rfl, hnd, _, rfl, iteF ⟨_, rfl, _, .inr rfl, _, _, rfl, rfl, _, rfl, ?_⟩⟩, fun P hp => ⟨_, rfl, hnd, _, rfl, iteF ⟨_, rfl, _, .inr rfl, _, _, rfl, rfl, _, rfl, ?_⟩⟩⟩
        · rw [i1]
          refine iteT ⟨_, _, rfl, rfl, _, rfl, ?_⟩
          rw [i7]; exact iteT hp
        · rw [i1]
          refine iteT ⟨_, _, rfl, rfl, _, rfl, ?_⟩
          rw [i7]; exact iteT hp
    · have i1 : decide ((1 : Int) ≤ ((ds.length : Nat) : Int)) = false := decide_eq_false (by omega)
      refine ⟨false, fun P hp => ⟨_, rfl, hnd, _, rfl, iteF ⟨_, rfl, _, .inr rfl, _, _, rfl, rfl, _, rfl, ?_⟩⟩, fun P hp => ⟨_, rfl, hnd, _, rfl, iteF ⟨_, rfl, _, .inr rfl, _, _, rfl, rfl, _, rfl, ?_⟩⟩⟩
      · rw [i1]; exact iteF ⟨_, rfl, iteT hp⟩
      · rw [i1]; exact iteF ⟨_, rfl, iteT hp⟩
end LT

/-! QS: of anything: wants. -/
namespace LT
open PySem PySem.Spec PyProof.Rows L2
theorem zipD_zip : ∀ l k : List Str, zipD (l.map .str) (k.map .str) = (l.zip k).map fun p => .tuple [.str p.1, .str p.2]
  | [], _ => rfl
  | _ :: _, [] => rfl
  | a :: l, b :: k => by
    have := zipD_zip l k
    unfold zipD at this ⊢
    rw [List.map_cons, List.map_cons, List.zipWith_cons_cons, this]; rfl
abbrev ltB (a b : Str) : Bool := decide (a.cps.toList < b.cps.toList)
def upB (l : List Str) : Bool := (l.zip (l.drop 1)).all fun p => ltB p.1 p.2
theorem zip_range (l : List Str) : l.zip (l.drop 1) = (List.range (l.length - 1)).map fun i => (l.getD i "", l.getD (1 + i) "") := by
  apply List.ext_getElem
  · simp
  · intro i h1 h2
    simp only [List.length_zip, List.length_drop] at h1
    have a1 : i < l.length := by omega
    have a2 : 1 + i < l.length := by omega
    simp [List.getD, a1, a2]
    congr 1
    omega
theorem upB_range (l : List Str) : upB l = (List.range (l.length - 1)).all fun i => ltB (l.getD i "") (l.getD (1 + i) "") := by
  unfold upB
  rw [zip_range, List.all_map]; rfl
theorem wants_of {ds : List PyData} (h : ∀ x ∈ ds, ∃ (s : Str) (i : Int), x = .tuple [.str s, .int i] ∧ 1 ≤ i ∧ i ≤ 4) : ∃ ws : List (Str × Nat), ds = ws.map wD := by
  induction ds with
  | nil => exact ⟨[], rfl⟩
  | cons x ds ih =>
    obtain ⟨ws, hw⟩ := ih fun y hy => h y (List.mem_cons_of_mem _ hy)
    obtain ⟨s, i, hx, h1, _⟩ := h x (List.mem_cons_self ..)
    refine ⟨(s, i.toNat) :: ws, ?_⟩
    rw [hx, hw]
    show _ = PyData.tuple [.str s, .int ((i.toNat : Nat) : Int)] :: _
    rw [show ((i.toNat : Nat) : Int) = i by omega]
theorem rises_ev {l : List Str} (hl : l.length ≤ 1000) : EvB F_law_rises [lS l] (upB l) := fun P hp => by
  refine ⟨_, rfl, _, .inl rfl, 1, l.length, rfl, by rw [List.length_map], by decide, by omega, lc_filtA (List.range (l.length - 1)) (fun i => .int ((1 + i : Nat) : Int)) (fun i => .int ((1 + i : Nat) : Int)) (fun i => !ltB (l.getD i "") (l.getD (1 + i) "")) (by rw [List.length_range]; omega) (fun k i hk Rt Rf ht hf => ?_) ⟨_, rfl, by decide, _, rfl, ?_, by decide, ?_⟩⟩
  · obtain ⟨hk1, hk2⟩ := List.getElem?_eq_some_iff.mp hk
    rw [List.length_range] at hk1
    have hki : i = k := by rw [List.getElem_range] at hk2; exact hk2.symm
    subst hki
    have a1 : i < l.length := by omega
    have a2 : 1 + i < l.length := by omega
    have e1 : l.getD i "" = l[i] := by simp [List.getD, a1]
    have e2 : l.getD (1 + i) "" = l[1 + i] := by simp [List.getD, a2]
    have t1 : L2.atI (l.map PyData.str) (((1 + i : Nat) : Int) - 1) = some (.str l[i]) := by
      rw [show ((1 + i : Nat) : Int) - 1 = ((i : Nat) : Int) by omega]
      exact atI_at (by rw [List.getElem?_map, List.getElem?_eq_getElem a1]; rfl)
    have t2 : L2.atI (l.map PyData.str) ((1 + i : Nat) : Int) = some (.str l[1 + i]) := atI_at (by rw [List.getElem?_map, List.getElem?_eq_getElem a2]; rfl)
    rw [e1, e2] at ht hf
    refine ⟨_, rfl, _, rfl, _, _, rfl, rfl, _, _, _, rfl, rfl, t1, _, rfl, _, rfl, _, _, _, rfl, rfl, t2, _, _, rfl, rfl, _, rfl, ?_⟩
    show if (!ltB l[i] l[1 + i]) = true then _ else Rf
    cases hq : (!ltB l[i] l[1 + i]) with
    | true => exact iteT ⟨_, rfl, ht hq⟩
    | false => exact iteF (hf hq)
  · exact shaped_list (k := 3) (by decide) fun e he => by
      obtain ⟨_, _, rfl⟩ := List.mem_map.mp he
      exact ⟨rfl, by simp [PyData.depth]⟩
  · show P (.bool (PyData.eqv _ (.list [])))
    rw [eqv_nil]
    have e : (List.map (fun i : Nat => PyData.int ((1 + i : Nat) : Int)) ((List.range (l.length - 1)).filter fun i => !ltB (l.getD i "") (l.getD (1 + i) ""))).isEmpty = upB l := by
      rw [upB_range, Bool.eq_iff_iff, List.isEmpty_iff, List.map_eq_nil_iff, List.filter_eq_nil_iff, List.all_eq_true]
      constructor
      · intro q c hc'
        have := q c hc'
        simpa using this
      · intro q c hc'
        have := q c hc'
        simpa using this
    rw [e]; exact hp
theorem agree_wants {N n : Nat} {d : PyData} (h : Gd N n d) (hN : N ≤ 1000) : ∃ b, EvB F_are_wants [d] b ∧ EvB F_law_are_wants [d] b := by
  have hnd := h.nd
  cases ht : isTup d with
  | false =>
    refine ⟨false, fun P hp => ⟨_, rfl, hnd, _, rfl, ?_⟩, fun P hp => ⟨_, rfl, hnd, _, rfl, ?_⟩⟩
    · rw [ht]; exact iteT (iteT hp)
    · rw [ht]; exact iteT (iteT hp)
  | true =>
    obtain ⟨ds, rfl⟩ := tup_of ht
    obtain ⟨hl, m, rfl, hm⟩ := h.seq (.inr rfl)
    by_cases h1 : 1 ≤ ds.length
    · by_cases h5 : ds.length ≤ 5
      · obtain ⟨wb, hwb⟩ := pick fun x hx => agree_want (hm x hx) hN
        have i1 : decide ((1 : Int) ≤ ((ds.length : Nat) : Int)) = true := decide_eq_true (by omega)
        have i5 : decide (((ds.length : Nat) : Int) ≤ 5) = true := decide_eq_true (by omega)
        have key : ∃ b, (ds.all wb = false → b = false) ∧ (ds.all wb = true → ∃ ws : List (Str × Nat), ds = ws.map wD ∧ b = (upB (nm ws) && decide ((((ws.map (·.2)).sum : Nat) : Int) ≤ 7))) := by
          cases hall : ds.all wb with
          | false => exact ⟨false, fun _ => rfl, fun e => nomatch e⟩
          | true =>
            obtain ⟨ws, hws⟩ := wants_of fun x hx => (hwb x hx).2.2 (List.all_eq_true.mp hall x hx)
            exact ⟨_, (fun e => nomatch e), fun _ => ⟨ws, hws, rfl⟩⟩
        obtain ⟨b, k0, k1⟩ := key
        refine ⟨b, fun P hp => ?_, fun P hp => ?_⟩
        · refine ⟨_, rfl, hnd, _, rfl, iteF ⟨_, rfl, _, .inr rfl, _, _, rfl, rfl, _, rfl, ?_⟩⟩
          rw [i1]
          refine iteT ⟨_, _, rfl, rfl, _, rfl, ?_⟩
          rw [i5]
          refine iteF ⟨_, rfl, _, rfl, lc_map (ds.map fun x => .bool (wb x)) (by rw [List.length_map]) (by rw [List.length_map]; omega) (fun k u v hu hv R hR => ?_) ⟨_, rfl, ds.map wb, by rw [List.map_map]; rfl, _, rfl, ?_⟩⟩
          · rw [List.getElem?_map, hu] at hv
            cases hv
            exact ⟨_, rfl, rfl, (hwb u (List.mem_of_getElem? hu)).1 _ hR⟩
          · rw [List.all_map]
            have eall : ds.all (id ∘ wb) = ds.all wb := rfl
            rw [eall]
            cases hall : ds.all wb with
            | false =>
              rw [k0 hall] at hp
              exact iteT hp
            | true =>
              obtain ⟨ws, hws, hb⟩ := k1 hall
              subst hws
              rw [hb] at hp
              rw [List.length_map] at h5
              refine iteF ⟨_, rfl, _, rfl, lc_names (by omega) (fun _ _ => rfl) ⟨_, rfl, ?_⟩⟩
              refine ⟨_, rfl, _, rfl, 1, rfl, _, rfl, _, rfl, _, _, rfl, rfl, ?_⟩
              have hnl : (nm ws).length ≤ 5 := by rw [List.length_map]; exact h5
              generalize nm ws = l at hp hnl ⊢
              rw [show cutD (l.map PyData.str) (some (1 : Int)) none = (l.map PyData.str).drop 1 from cutD_from 1, ← List.map_drop, zipD_zip]
              refine lc_mapA (l.zip (l.drop 1)) (fun p => .tuple [.str p.1, .str p.2]) (fun p => .bool (ltB p.1 p.2)) (by rw [List.length_zip]; omega) (fun k p hk R hR => ⟨_, rfl, rfl, _, _, rfl, _, _, rfl, rfl, _, rfl, _, rfl, p.1, p.2, rfl, rfl, hR⟩) ⟨_, rfl, (l.zip (l.drop 1)).map fun p => ltB p.1 p.2, by rw [List.map_map]; rfl, _, rfl, ?_⟩
              have eup : ((l.zip (l.drop 1)).map fun p => ltB p.1 p.2).all id = upB l := by rw [List.all_map]; rfl
              rw [eup]
              cases hu : upB l with
              | false =>
                rw [hu, Bool.false_and] at hp
                exact iteT hp
              | true =>
                rw [hu, Bool.true_and] at hp
                refine iteF ⟨_, rfl, _, rfl, lc_mapA ws wD (fun p => nI p.2) (by omega) (fun k p hk R hR => ⟨_, rfl, rfl, _, _, rfl, _, _, rfl, rfl, _, rfl, hR⟩) ⟨_, rfl, ?_⟩⟩
                rw [show (ws.map fun p => nI p.2) = (ws.map (·.2)).map nI by rw [List.map_map]; rfl]
                exact sum_go ⟨_, _, rfl, rfl, hp⟩
        · refine ⟨_, rfl, hnd, _, rfl, iteF ⟨_, rfl, _, .inr rfl, _, _, rfl, rfl, _, rfl, ?_⟩⟩
          rw [i1]
          refine iteT ⟨_, _, rfl, rfl, _, rfl, ?_⟩
          rw [i5]
          refine iteF ⟨_, rfl, _, rfl, fun j Γ => (∀ x ∈ ds.take j, wb x = true) ∧ ∃ y, Γ = [.dat (.tuple ds), y], ⟨by simp, _, rfl⟩, ?_, ?_⟩
          · rintro j x Γ hx ⟨hI, y, rfl⟩
            have hxm := List.mem_of_getElem? hx
            refine (hwb x hxm).2.1 [.dat (.tuple ds), .dat x] _ rfl ?_
            cases hq : wb x with
            | false =>
              have hall : ds.all wb = false := by
                rw [List.all_eq_false]
                exact ⟨x, hxm, by rw [hq]; exact Bool.false_ne_true⟩
              rw [k0 hall] at hp
              exact iteT hp
            | true =>
              refine iteF ⟨fun z hz => ?_, _, rfl⟩
              have et : ds.take (j + 1) = ds.take j ++ [x] := by rw [List.take_add_one, hx]; rfl
              rw [et] at hz
              rcases List.mem_append.mp hz with q | q
              · exact hI z q
              · rw [List.mem_singleton.mp q]; exact hq
          · rintro Γ ⟨hI, y, rfl⟩
            rw [List.take_length] at hI
            obtain ⟨ws, hws, hb⟩ := k1 (List.all_eq_true.mpr hI)
            subst hws
            rw [hb] at hp
            rw [List.length_map] at h5
            refine ⟨_, rfl, _, rfl, lc_mapA ws wD (fun p => .str p.1) (by omega) (fun k p hk R hR => ⟨_, rfl, .inr ⟨_, 0, _, rfl, rfl, rfl, hR⟩⟩) ⟨_, rfl, rfl, ?_⟩⟩
            rw [show (ws.map fun p => PyData.str p.1) = (nm ws).map .str by rw [List.map_map]; rfl]
            refine rises_ev (by rw [List.length_map]; omega) _ ⟨_, rfl, ?_⟩
            cases hu : upB (nm ws) with
            | false =>
              rw [hu, Bool.false_and] at hp
              exact iteF hp
            | true =>
              rw [hu, Bool.true_and] at hp
              refine iteT ⟨_, rfl, _, rfl, lc_mapA ws wD (fun p => nI p.2) (by omega) (fun k p hk R hR => ⟨_, rfl, .inr ⟨_, 1, _, rfl, rfl, rfl, hR⟩⟩) ⟨_, rfl, ?_⟩⟩
              rw [show (ws.map fun p => nI p.2) = (ws.map (·.2)).map nI by rw [List.map_map]; rfl]
              exact sum_go ⟨_, _, rfl, rfl, hp⟩
      · have i1 : decide ((1 : Int) ≤ ((ds.length : Nat) : Int)) = true := decide_eq_true (by omega)
        have i5 : decide (((ds.length : Nat) : Int) ≤ 5) = false := decide_eq_false (by omega)
        refine ⟨false, fun P hp => ⟨_, rfl, hnd, _, rfl, iteF ⟨_, rfl, _, .inr rfl, _, _, rfl, rfl, _, rfl, ?_⟩⟩, fun P hp => ⟨_, rfl, hnd, _, rfl, iteF ⟨_, rfl, _, .inr rfl, _, _, rfl, rfl, _, rfl, ?_⟩⟩⟩
        · rw [i1]
          refine iteT ⟨_, _, rfl, rfl, _, rfl, ?_⟩
          rw [i5]; exact iteT (iteT hp)
        · rw [i1]
          refine iteT ⟨_, _, rfl, rfl, _, rfl, ?_⟩
          rw [i5]; exact iteT hp
    · have i1 : decide ((1 : Int) ≤ ((ds.length : Nat) : Int)) = false := decide_eq_false (by omega)
      refine ⟨false, fun P hp => ⟨_, rfl, hnd, _, rfl, iteF ⟨_, rfl, _, .inr rfl, _, _, rfl, rfl, _, rfl, ?_⟩⟩, fun P hp => ⟨_, rfl, hnd, _, rfl, iteF ⟨_, rfl, _, .inr rfl, _, _, rfl, rfl, _, rfl, ?_⟩⟩⟩
      · rw [i1]; exact iteF ⟨_, rfl, iteT (iteT hp)⟩
      · rw [i1]; exact iteF ⟨_, rfl, iteT hp⟩
end LT

/-! QJ: anything drawn, things spoilt. -/
namespace LT
open PySem PySem.Spec PyProof.Rows L2
section
variable {P : PyData → Prop}
theorem at_map {α : Type} (f : α → PyData) {xs : List α} {k : Nat} (hk : k < xs.length) : L2.atI (xs.map f) ((k : Nat) : Int) = some (f xs[k]) := atI_at (by rw [List.getElem?_map, List.getElem?_eq_getElem hk]; rfl)
theorem at_any {xs : List PyData} {k : Nat} (hk : k < xs.length) : L2.atI xs ((k : Nat) : Int) = some xs[k] := atI_at (List.getElem?_eq_getElem hk)
abbrev anyS : List Str := ["", " ", "a", "atlas", "1", "A", "a\nb"]
theorem anyS_ok : ∀ x ∈ anyS, x.length ≤ 10 ∧ ∀ c ∈ x.cps.toList, c < 0x110000 := by
  have : anyS.all (fun x => decide (x.length ≤ 10) && x.cps.toList.all fun c => decide (c < 0x110000)) = true := by decide +kernel
  intro x hx
  have := List.all_eq_true.mp this x hx
  rw [Bool.and_eq_true, List.all_eq_true] at this
  exact ⟨of_decide_eq_true this.1, fun c hc => of_decide_eq_true (this.2 c hc)⟩
abbrev putS6 : List Str := [" ", "z", "A", "|", "abcdefgh", ""]
theorem putS6_ok : ∀ x ∈ putS6, x.length ≤ 8 ∧ ∀ c ∈ x.cps.toList, c < 0x110000 := by
  have : putS6.all (fun x => decide (x.length ≤ 8) && x.cps.toList.all fun c => decide (c < 0x110000)) = true := by decide +kernel
  intro x hx
  have := List.all_eq_true.mp this x hx
  rw [Bool.and_eq_true, List.all_eq_true] at this
  exact ⟨of_decide_eq_true this.1, fun c hc => of_decide_eq_true (this.2 c hc)⟩
theorem any_ok : ∀ (m deep : Nat) (i : Int) (P : PyData → Prop), i = ((deep : Nat) : Int) → deep < m → (∀ d, Gd 10 (deep + 1) d → P d) → F_law_any m [.int i] P
  | 0, deep, i, P, _, h, _ => absurd h (Nat.not_lt_zero _)
  | m + 1, deep, i, P, hi, hm, hp => by
    subst hi
    refine ⟨rfl, 13, rfl, by decide, by decide, fun c hc => ?_⟩
    -- ints
    have later : ∀ y3 y4 : Sv, (mSeq (mIfS (mTest (mOp fLt (mVar 2) (mC (.int 8))))
        (mRet (mOp fIxL (mOf (mLstF (mCons (mOp fSub (mDraw 0 (mC (.int 12))) (mC (.int 2))) (mCons (mDraw 0 (mOp fPow (mC (.int 10)) (mC (.int 12)))) (mCons (mC (.int 0)) (mCons (mC (.int 7)) mNil)))))) (mCB2 fMax2 (mC (.int 0)) (mOp fSub (mVar 2) (mC (.int 4)))))) mNext)
        (mSeq (mSet 3 (xD (mOf (mLstF (mCons (mC (.str ("" : Str))) (mCons (mC (.str (" " : Str))) (mCons (mC (.str ("a" : Str))) (mCons (mC (.str ("atlas" : Str))) (mCons (mC (.str ("1" : Str))) (mCons (mC (.str ("A" : Str))) (mCons (mC (.str ("a\nb" : Str))) mNil)))))))))))
        (mRet (mOp fIxL (mOf (mLstF (mCons (mC (.bool true)) (mCons (mC (.bool false)) (mCons (mC .none) (mCons (mOp fIxL (mVar 3) (mDraw 0 (mC (.int 7)))) (mCons (mTup (mCons (mC (.int 1)) (mCons (mC (.int 2)) mNil))) mNil))))))) (mOp fSub (mVar 2) (mC (.int 8)))))))
        [.tape, .dat (.int ((deep : Nat) : Int)), .dat (.int ((c : Nat) : Int)), y3, y4] (endW P) := fun y3 y4 => by
      refine ⟨_, rfl, _, _, rfl, rfl, _, rfl, ?_⟩
      by_cases h8 : c < 8
      · rw [show decide (((c : Nat) : Int) < 8) = true from decide_eq_true (by omega)]
        refine iteT ⟨rfl, 12, rfl, by decide, by decide, fun r1 _ => ⟨_, _, rfl, rfl, rfl, _, _, rfl, rfl, ⟨by decide, by decide, by decide⟩, 10 ^ 12, rfl, by decide, by decide, fun r2 _ => ⟨by show 4 ≤ 1000; decide, _, rfl, _, rfl, _, _, rfl, rfl, _, _, rfl, rfl, ?_⟩⟩⟩
        obtain ⟨k, hk, ek⟩ : ∃ k : Nat, k < 4 ∧ (if ((c : Nat) : Int) - 4 > 0 then ((c : Nat) : Int) - 4 else 0) = ((k : Nat) : Int) := by
          refine ⟨c - 4, by omega, ?_⟩
          split <;> omega
        refine ⟨_, _, .int (([((r1 : Nat) : Int) - 2, ((r2 : Nat) : Int), 0, 7] : List Int)[k]'hk), rfl, rfl, ?_, ?_⟩
        · show L2.atI (([((r1 : Nat) : Int) - 2, ((r2 : Nat) : Int), 0, 7] : List Int).map PyData.int) (if ((c : Nat) : Int) - 4 > 0 then ((c : Nat) : Int) - 4 else 0) = _
          rw [ek]
          exact at_map PyData.int hk
        · exact hp _ (gd_int _)
      · rw [show decide (((c : Nat) : Int) < 8) = false from decide_eq_false (by omega)]
        refine iteF ⟨by show 7 ≤ 1000; decide, _, rfl, _, rfl, rfl, 7, rfl, by decide, by decide, fun r hr => ⟨_, _, _, rfl, rfl, at_map PyData.str (xs := anyS) hr, by show 2 ≤ 1000; decide, by show 5 ≤ 1000; decide, _, rfl, _, rfl, _, _, rfl, rfl, ?_⟩⟩
        have hk : c - 8 < 5 := by omega
        refine ⟨_, _, ([.bool true, .bool false, .none, .str (anyS[r]'hr), .tuple [.int 1, .int 2]] : List PyData)[c - 8]'hk, rfl, rfl, ?_, ?_⟩
        · show L2.atI ([.bool true, .bool false, .none, .str (anyS[r]'hr), .tuple [.int 1, .int 2]] : List PyData) (((c : Nat) : Int) - 8) = _
          rw [show ((c : Nat) : Int) - 8 = ((c - 8 : Nat) : Int) by omega]
          exact at_any hk
        · have hs := anyS_ok _ (List.getElem_mem hr)
          have : ∀ x ∈ ([.bool true, .bool false, .none, .str (anyS[r]'hr), .tuple [.int 1, .int 2]] : List PyData), Gd 10 (deep + 1) x := fun x hx => by
            simp only [List.mem_cons, List.not_mem_nil, or_false] at hx
            rcases hx with e | e | e | e | e <;> rw [e]
            · exact gd_bool _
            · exact gd_bool _
            · exact gd_none
            · exact gd_str hs.1 hs.2
            · exact gd_seq (.inr rfl) (by show 2 ≤ 10; decide) fun y hy => by
                simp only [List.mem_cons, List.not_mem_nil, or_false] at hy
                rcases hy with e | e <;> rw [e] <;> exact gd_int _
          exact hp _ (this _ (List.getElem_mem hk))
    refine ⟨_, rfl, _, _, rfl, rfl, _, rfl, ?_⟩
    by_cases h4 : c < 4
    · rw [show decide (((c : Nat) : Int) < 4) = true from decide_eq_true (by omega)]
      refine iteT ⟨_, rfl, _, _, rfl, rfl, _, rfl, ?_⟩
      by_cases h0 : 0 < deep
      · rw [show decide ((0 : Int) < ((deep : Nat) : Int)) = true from decide_eq_true (by omega)]
        refine iteT ⟨rfl, 4, rfl, by decide, by decide, fun q hq => ⟨q, rfl, by omega, lc_inv (fun j acc => acc.length = j ∧ ∀ x ∈ acc, Gd 10 deep x) ⟨rfl, by simp⟩ (fun j x acc hx hI => ?_) fun acc hI => ⟨_, rfl, ?_⟩⟩⟩
        · obtain ⟨hj, _⟩ := rngD_inv hx
          refine ⟨rfl, _, rfl, _, _, rfl, rfl, rfl, any_ok m (deep - 1) _ _ (by omega) (by omega) fun d hd => ⟨by omega, by rw [List.length_append, hI.1]; rfl, fun z hz => ?_⟩⟩
          rcases List.mem_append.mp hz with k | k
          · exact hI.2 z k
          · rw [List.mem_singleton.mp k]
            rw [show deep - 1 + 1 = deep by omega] at hd
            exact hd
        · rw [rngD_len] at hI
          refine ⟨_, rfl, _, rfl, _, .inl rfl, _, rfl, _, .inl rfl, _, rfl, _, .inl rfl, by show 4 ≤ 1000; decide, _, rfl, _, rfl, _, _, _, rfl, rfl, at_any (xs := [.list acc, .tuple acc, .tuple acc, .tuple acc]) h4, ?_⟩
          have : ∀ x ∈ ([.list acc, .tuple acc, .tuple acc, .tuple acc] : List PyData), Gd 10 (deep + 1) x := fun x hx => by
            simp only [List.mem_cons, List.not_mem_nil, or_false] at hx
            exact gd_seq (ds := acc) (by rcases hx with e | e | e | e <;> simp [e]) (by omega) hI.2
          exact hp _ (this _ (List.getElem_mem _))
      · rw [show decide ((0 : Int) < ((deep : Nat) : Int)) = false from decide_eq_false (by omega)]
        exact iteF (later _ _)
    · rw [show decide (((c : Nat) : Int) < 4) = false from decide_eq_false (by omega)]
      exact iteF (iteF (later _ _))
end
end LT

/-! QI: things spoilt. -/
namespace LT
open PySem PySem.Spec PyProof.Rows L2
theorem cutS_in (x : Str) (lo hi : Option Int) : ∀ c ∈ (cutS x lo hi).cps.toList, c ∈ x.cps.toList := fun c hc => by
  unfold cutS at hc
  exact List.mem_of_mem_drop (List.mem_of_mem_take (by simpa using hc))
theorem app_in (a b : Str) : ∀ c ∈ (a ++ b).cps.toList, c ∈ a.cps.toList ∨ c ∈ b.cps.toList := fun c hc => by
  have : (a ++ b).cps.toList = a.cps.toList ++ b.cps.toList := by
    show (a.cps ++ b.cps).toList = _
    simp
  rw [this] at hc
  exact List.mem_append.mp hc
theorem app_len (a b : Str) : (a ++ b).length = a.length + b.length := by
  show (a.cps ++ b.cps).size = a.cps.size + b.cps.size
  simp
section
variable {P : PyData → Prop}
def sp5 : MS := mRet (mCallT 0 1 (F_law_any 5) (mCons (mC (.int 2)) mNil))
def sp4 : MS := mSeq (mIfS (mAnd (mTest (mIsi2 isTup isList (mVar 1))) (mTest (mOp fEq (mDraw 0 (mC (.int 2))) (mC (.int 0)))))
    (mRet (mIfE (mTest (mIsi isTup (mVar 1))) (mOf (mListOf (mVar 1))) (mCB1 fTup (mVar 1)))) mNext) sp5
def sp3 : MS := mSeq (mIfS (mAnd (mTest (mIsi isStr (mVar 1))) (mTest (mOp fGt (mDraw 0 (mC (.int 3))) (mC (.int 0)))))
    (mSeq (mSet 5 (xD (mDraw 0 (mOp fAdd (mCB1 fLenS (mVar 1)) (mC (.int 1))))))
    (mRet (mOp fAddS (mOp fAddS (mSl fSlS (mVar 1) mNoPart (mPart (mVar 5))) (mOp fIxL (mOf (mLstF (mCons (mC (.str (" " : Str))) (mCons (mC (.str ("z" : Str))) (mCons (mC (.str ("A" : Str))) (mCons (mC (.str ("|" : Str))) (mCons (mC (.str ("abcdefgh" : Str))) (mCons (mC (.str ("" : Str))) mNil)))))))) (mDraw 0 (mC (.int 6))))) (mSl fSlS (mVar 1) (mPart (mVar 5)) mNoPart)))) mNext) sp4
def sp2 : MS := mSeq (mIfS (mAnd (mTest (mCall 1 F_law_whole (mCons (mVar 1) mNil))) (mTest (mOp fGt (mDraw 0 (mC (.int 6))) (mC (.int 0)))))
    (mRet (mOp fAdd (mVar 1) (mOp fIxL (mOf (mLstF (mCons (mC (.int 1)) (mCons (mNeg (mC (.int 1))) (mCons (mC (.int 2)) (mCons (mNeg (mC (.int 2))) (mCons (mC (.int 9)) (mCons (mC (.int 1000)) mNil)))))))) (mDraw 0 (mC (.int 6)))))) mNext) sp3
theorem sp5_ok {N n : Nat} {d : PyData} {y2 y3 y4 y5 : Sv} (hN : 10 ≤ N) (hp : ∀ d', Gd (2 * N + 8) (n + 3) d' → P d') : sp5 [.tape, .dat d, y2, y3, y4, y5] (endW P) :=
  ⟨rfl, rfl, any_ok 5 2 _ _ rfl (by decide) fun d' hd' => hp d' (Gd.mono (by omega) (by omega) hd')⟩
theorem sp4_ok {N n : Nat} {d : PyData} {y2 y3 y4 y5 : Sv} (h : Gd N n d) (hN : 10 ≤ N) (hp : ∀ d', Gd (2 * N + 8) (n + 3) d' → P d') : sp4 [.tape, .dat d, y2, y3, y4, y5] (endW P) := by
  refine ⟨_, rfl, h.nd, _, rfl, ?_⟩
  cases hs : (isTup d || isList d) with
  | false => exact iteF (iteF (sp5_ok hN hp))
  | true =>
    obtain ⟨ds, he⟩ : ∃ ds, d = .list ds ∨ d = .tuple ds := by
      cases d with
      | list ds => exact ⟨ds, .inl rfl⟩
      | tuple ds => exact ⟨ds, .inr rfl⟩
      | _ => cases hs
    obtain ⟨hl, m, rfl, hm⟩ := h.seq he
    have hg : ∀ d', (d' = .list ds ∨ d' = .tuple ds) → P d' := fun d' h' => hp d' (Gd.mono (by omega) (by omega) (gd_seq h' hl hm))
    refine iteT ⟨rfl, 2, rfl, by decide, by decide, fun r hr => .inl ⟨_, _, rfl, rfl, _, rfl, ?_⟩⟩
    by_cases h0 : r = 0
    · rw [show decide (((r : Nat) : Int) = 0) = true from decide_eq_true (by omega)]
      refine iteT ⟨_, rfl, h.nd, _, rfl, ?_⟩
      cases ht : isTup d with
      | true => exact iteT ⟨_, rfl, ds, he, _, rfl, hg _ (.inl rfl)⟩
      | false => exact iteF ⟨_, rfl, ds, he, hg _ (.inr rfl)⟩
    · rw [show decide (((r : Nat) : Int) = 0) = false from decide_eq_false (by omega)]
      exact iteF (sp5_ok hN hp)
theorem sp3_ok {N n : Nat} {d : PyData} {y2 y3 y4 y5 : Sv} (h : Gd N n d) (hN : 10 ≤ N) (hN5 : N ≤ 500) (hp : ∀ d', Gd (2 * N + 8) (n + 3) d' → P d') : sp3 [.tape, .dat d, y2, y3, y4, y5] (endW P) := by
  refine ⟨_, rfl, h.nd, _, rfl, ?_⟩
  cases hs : isStr d with
  | false => exact iteF (iteF (sp4_ok h hN hp))
  | true =>
    obtain ⟨x, rfl⟩ : ∃ x, d = .str x := by
      cases d with
      | str x => exact ⟨x, rfl⟩
      | _ => cases hs
    obtain ⟨hl, hc⟩ := h.str
    refine iteT ⟨rfl, 3, rfl, by decide, by decide, fun r hr => ⟨_, _, rfl, rfl, _, rfl, ?_⟩⟩
    by_cases h0 : 0 < r
    · rw [show decide ((0 : Int) < ((r : Nat) : Int)) = true from decide_eq_true (by omega)]
      refine iteT ⟨rfl, _, rfl, x, rfl, by omega, _, _, rfl, rfl, x.length + 1, rfl, by omega, by omega, fun at' hat => ?_⟩
      refine ⟨_, rfl, _, rfl, _, rfl, x, rfl, by omega, by show 6 ≤ 1000; decide, _, rfl, rfl, 6, rfl, by decide, by decide, fun q hq => ⟨_, _, _, rfl, rfl, at_map PyData.str (xs := putS6) hq, _, _, rfl, rfl, ?_, _, rfl, _, rfl, _, rfl, x, rfl, by omega, _, _, rfl, rfl, ?_, hp _ (gd_str ?_ ?_)⟩⟩
      · have h1 := cutS_length x none (some ((at' : Nat) : Int))
        have h2 := (putS6_ok _ (List.getElem_mem hq)).1
        omega
      · have h1 := cutS_length x none (some ((at' : Nat) : Int))
        have h2 := (putS6_ok _ (List.getElem_mem hq)).1
        have h3 := cutS_length x (some ((at' : Nat) : Int)) none
        rw [app_len]
        omega
      · have h1 := cutS_length x none (some ((at' : Nat) : Int))
        have h2 := (putS6_ok _ (List.getElem_mem hq)).1
        have h3 := cutS_length x (some ((at' : Nat) : Int)) none
        rw [app_len, app_len]
        omega
      · intro c hcm
        rcases app_in _ _ c hcm with k | k
        · rcases app_in _ _ c k with k | k
          · exact hc c (cutS_in _ _ _ c k)
          · exact (putS6_ok _ (List.getElem_mem hq)).2 c k
        · exact hc c (cutS_in _ _ _ c k)
    · rw [show decide ((0 : Int) < ((r : Nat) : Int)) = false from decide_eq_false (by omega)]
      exact iteF (sp4_ok h hN hp)
theorem sp2_ok {N n : Nat} {d : PyData} {y2 y3 y4 y5 : Sv} (h : Gd N n d) (hN : 10 ≤ N) (hN5 : N ≤ 500) (hp : ∀ d', Gd (2 * N + 8) (n + 3) d' → P d') : sp2 [.tape, .dat d, y2, y3, y4, y5] (endW P) := by
  refine ⟨_, rfl, rfl, whole_ev h.nd _ ⟨_, rfl, ?_⟩⟩
  cases hw : (isInt d && !isBool d) with
  | false => exact iteF (iteF (sp3_ok h hN hN5 hp))
  | true =>
    obtain ⟨i, rfl⟩ := whole_int hw
    refine iteT ⟨rfl, 6, rfl, by decide, by decide, fun r hr => ⟨_, _, rfl, rfl, _, rfl, ?_⟩⟩
    by_cases h0 : 0 < r
    · rw [show decide ((0 : Int) < ((r : Nat) : Int)) = true from decide_eq_true (by omega)]
      exact iteT ⟨_, rfl, _, rfl, _, rfl, by show 6 ≤ 1000; decide, _, rfl, rfl, 6, rfl, by decide, by decide, fun q hq => ⟨_, _, _, rfl, rfl, at_map PyData.int (xs := [1, -1, 2, -2, 9, 1000]) hq, _, _, rfl, rfl, hp _ (gd_int _)⟩⟩
    · rw [show decide ((0 : Int) < ((r : Nat) : Int)) = false from decide_eq_false (by omega)]
      exact iteF (sp3_ok h hN hN5 hp)
theorem ixN_nat {n k : Nat} (h : k < n) : ixN n ((k : Nat) : Int) = some k := by
  unfold ixN
  rw [if_pos (by omega), if_pos (by omega)]
  simp
theorem spoilt_ok : ∀ (m n N : Nat) (d : PyData) (P : PyData → Prop), n < m → Gd N n d → 10 ≤ N → N ≤ 500 → (∀ d', Gd (2 * N + 8) (n + 3) d' → P d') → F_law_spoilt m [d] P
  | 0, n, N, d, P, h, _, _, _, _ => absurd h (Nat.not_lt_zero _)
  | m + 1, n, N, d, P, hm, h, hN, hN5, hp => by
    show (mSeq _ sp2) _ _
    refine ⟨_, rfl, h.nd, _, rfl, ?_⟩
    cases hs : (isTup d || isList d) with
    | false => exact iteF (iteF (sp2_ok h hN hN5 hp))
    | true =>
      obtain ⟨ds, he⟩ : ∃ ds, d = .list ds ∨ d = .tuple ds := by
        cases d with
        | list ds => exact ⟨ds, .inl rfl⟩
        | tuple ds => exact ⟨ds, .inr rfl⟩
        | _ => cases hs
      obtain ⟨hl, n', rfl, hmm⟩ := h.seq he
      refine iteT ⟨_, rfl, ds, he, _, _, rfl, rfl, _, rfl, ?_⟩
      by_cases hpos : 0 < ds.length
      · rw [show decide ((0 : Int) < ((ds.length : Nat) : Int)) = true from decide_eq_true (by omega)]
        refine iteT ⟨rfl, 7, rfl, by decide, by decide, fun r hr => ⟨_, _, rfl, rfl, _, rfl, ?_⟩⟩
        by_cases h0 : 0 < r
        · rw [show decide ((0 : Int) < ((r : Nat) : Int)) = true from decide_eq_true (by omega)]
          refine iteT ⟨rfl, _, rfl, ds, he, ds.length, rfl, hpos, by omega, fun k hk => ⟨_, rfl, ds, he, rfl, 12, rfl, by decide, by decide, fun c hc => ?_⟩⟩
          have up : ∀ x ∈ ds, Gd (2 * N + 8) (n' + 3) x := fun x hx => Gd.mono (by omega) (by omega) (hmm x hx)
          refine ⟨fun Γ => ∃ es : List PyData, es.length ≤ 2 * N + 8 ∧ (∀ x ∈ es, Gd (2 * N + 8) (n' + 3) x) ∧ Γ = [.tape, .dat d, .dat (nI k), .own (.lst es), .dat (nI c), .no], ?_, ?_⟩
          · refine ⟨_, rfl, _, _, rfl, rfl, _, rfl, ?_⟩
            by_cases c8 : c < 8
            · rw [show decide (((c : Nat) : Int) < 8) = true from decide_eq_true (by omega)]
              refine iteT ⟨_, rfl, rfl, _, rfl, _, rfl, _, _, _, rfl, rfl, at_any hk, rfl, spoilt_ok m n' N _ _ (by omega) (hmm _ (List.getElem_mem hk)) hN hN5 fun d' hd' => ⟨_, rfl, _, k, rfl, ixN_nat hk, ds.set k d', by rw [List.length_set]; omega, fun x hx => ?_, rfl⟩⟩
              rcases List.mem_or_eq_of_mem_set hx with q | q
              · exact up x q
              · rw [q]; exact hd'
            · rw [show decide (((c : Nat) : Int) < 8) = false from decide_eq_false (by omega)]
              refine iteF ⟨_, rfl, .inl ⟨_, _, rfl, rfl, _, rfl, ?_⟩⟩
              by_cases e8 : c = 8
              · rw [show decide (((c : Nat) : Int) = 8) = true from decide_eq_true (by omega)]
                exact iteT ⟨_, rfl, _, rfl, k, rfl, hk, by omega, ds.eraseIdx k, by have := List.length_eraseIdx_le ds k; omega, fun x hx => up x (List.mem_of_mem_eraseIdx hx), rfl⟩
              · rw [show decide (((c : Nat) : Int) = 8) = false from decide_eq_false (by omega)]
                refine iteF ⟨_, rfl, .inl ⟨_, _, rfl, rfl, _, rfl, ?_⟩⟩
                have ins : ∀ x : PyData, Gd (2 * N + 8) (n' + 3) x → (ds.take k ++ [x] ++ ds.drop k).length ≤ 2 * N + 8 ∧ ∀ z ∈ ds.take k ++ [x] ++ ds.drop k, Gd (2 * N + 8) (n' + 3) z := fun x hx => by
                  refine ⟨?_, fun z hz => ?_⟩
                  · simp only [List.length_append, List.length_take, List.length_drop, List.length_singleton]
                    omega
                  · rcases List.mem_append.mp hz with q | q
                    · rcases List.mem_append.mp q with q | q
                      · exact up z (List.mem_of_mem_take q)
                      · rw [List.mem_singleton.mp q]; exact hx
                    · exact up z (List.mem_of_mem_drop q)
                by_cases e9 : c = 9
                · rw [show decide (((c : Nat) : Int) = 9) = true from decide_eq_true (by omega)]
                  refine iteT ⟨_, rfl, by omega, _, rfl, _, rfl, rfl, _, rfl, ds, .inl rfl, ds.length, rfl, hpos, by omega, fun q hq => ⟨_, _, _, rfl, rfl, at_any hq, k, rfl, by omega, _, (ins _ (up _ (List.getElem_mem hq))).1, (ins _ (up _ (List.getElem_mem hq))).2, rfl⟩⟩
                · rw [show decide (((c : Nat) : Int) = 9) = false from decide_eq_false (by omega)]
                  refine iteF ⟨_, rfl, .inl ⟨_, _, rfl, rfl, _, rfl, ?_⟩⟩
                  by_cases e10 : c = 10
                  · rw [show decide (((c : Nat) : Int) = 10) = true from decide_eq_true (by omega)]
                    exact iteT ⟨_, rfl, _, rfl, ds.reverse, by rw [List.length_reverse]; omega, fun x hx => up x (List.mem_reverse.mp hx), rfl⟩
                  · rw [show decide (((c : Nat) : Int) = 10) = false from decide_eq_false (by omega)]
                    refine iteF ⟨_, rfl, by omega, _, rfl, rfl, rfl, any_ok 5 1 _ _ rfl (by decide) fun d' hd' => ⟨k, rfl, by omega, _, (ins d' ?_).1, (ins d' ?_).2, rfl⟩⟩
                    · exact Gd.mono (by omega) (by omega) hd'
                    · exact Gd.mono (by omega) (by omega) hd'
          · rintro Γ ⟨es, hel, hes, rfl⟩
            refine ⟨_, _, rfl, rfl, _, rfl, h.nd, _, rfl, ?_⟩
            cases ht : isTup d with
            | true => exact iteT ⟨_, rfl, es, .inl rfl, hp _ (gd_seq (.inr rfl) hel hes)⟩
            | false => exact iteF ⟨_, rfl, hp _ (gd_seq (.inl rfl) hel hes)⟩
        · rw [show decide ((0 : Int) < ((r : Nat) : Int)) = false from decide_eq_false (by omega)]
          exact iteF (sp2_ok h hN hN5 hp)
      · rw [show decide ((0 : Int) < ((ds.length : Nat) : Int)) = false from decide_eq_false (by omega)]
        exact iteF (iteF (sp2_ok h hN hN5 hp))
end
end LT

/-! L01: piles and wants known. -/
namespace LT
open PySem PySem.Spec PyProof.Rows L2
theorem books_gd : ∀ x ∈ bookNames, x.length ≤ 10 ∧ ∀ c ∈ x.cps.toList, c < 0x110000 := by
  have : bookNames.all (fun x => decide (x.length ≤ 10) && x.cps.toList.all fun c => decide (c < 0x110000)) = true := by decide +kernel
  intro x hx
  have := List.all_eq_true.mp this x hx
  rw [Bool.and_eq_true, List.all_eq_true] at this
  exact ⟨of_decide_eq_true this.1, fun c hc => of_decide_eq_true (this.2 c hc)⟩
theorem gd_names {N n : Nat} {ps : List Str} {d : PyData} (hN : 10 ≤ N) (e : d = .list (ps.map .str) ∨ d = .tuple (ps.map .str)) (hl : ps.length ≤ N) (h : ∀ x ∈ ps, x ∈ bookNames) : Gd N (n + 1) d := gd_seq e (by rw [List.length_map]; exact hl) fun x hx => by
  obtain ⟨y, hy, rfl⟩ := List.mem_map.mp hx
  have := books_gd y (h y hy)
  exact gd_str (Nat.le_trans this.1 hN) this.2
theorem gd_pair {N n : Nat} {x : Str} {d : PyData} (hN : 10 ≤ N) (hx : x.length ≤ 10 ∧ ∀ c ∈ x.cps.toList, c < 0x110000) (hd : Gd N n d) : Gd N (n + 1) (.tuple [.str x, d]) := gd_seq (.inr rfl) (by show 2 ≤ N; omega) fun y hy => by
  simp only [List.mem_cons, List.not_mem_nil, or_false] at hy
  rcases hy with e | e <;> rw [e]
  · exact gd_str (Nat.le_trans hx.1 hN) hx.2
  · exact hd
theorem gd_wants {N n : Nat} {ws : List (Str × Nat)} {d : PyData} (hN : 10 ≤ N) (e : d = .list (ws.map wD) ∨ d = .tuple (ws.map wD)) (hl : ws.length ≤ N) (h : ∀ x ∈ nm ws, x ∈ bookNames) : Gd N (n + 2) d := gd_seq e (by rw [List.length_map]; exact hl) fun x hx => by
  obtain ⟨p, hp, rfl⟩ := List.mem_map.mp hx
  exact gd_pair hN (books_gd _ (h _ (List.mem_map.mpr ⟨p, hp, rfl⟩))) (gd_int _)
/-- a text of the law's own -/
def okT (x : Str) : Bool := decide (x.length ≤ 10) && x.cps.toList.all fun c => decide (c < 0x110000)
theorem okT_of {x : Str} (h : okT x = true) : x.length ≤ 10 ∧ ∀ c ∈ x.cps.toList, c < 0x110000 := by
  unfold okT at h
  rw [Bool.and_eq_true, List.all_eq_true] at h
  exact ⟨of_decide_eq_true h.1, fun c hc => of_decide_eq_true (h.2 c hc)⟩
theorem gd_tup {N n : Nat} {ds : List PyData} (hl : ds.length ≤ N) (h : ∀ x ∈ ds, Gd N n x) : Gd N (n + 1) (.tuple ds) := gd_seq (.inr rfl) hl h
theorem gd_two {N n : Nat} {a b : PyData} (hN : 10 ≤ N) (ha : Gd N n a) (hb : Gd N n b) : Gd N (n + 1) (.tuple [a, b]) := gd_tup (by show 2 ≤ N; omega) fun y hy => by
  simp only [List.mem_cons, List.not_mem_nil, or_false] at hy
  rcases hy with e | e <;> rw [e] <;> assumption
theorem gd_one {N n : Nat} {a : PyData} (hN : 10 ≤ N) (ha : Gd N n a) : Gd N (n + 1) (.tuple [a]) := gd_tup (by show 1 ≤ N; omega) fun y hy => by
  rw [List.mem_singleton.mp hy]; exact ha
theorem gd_txt {N n : Nat} {x : Str} (hN : 10 ≤ N) (h : okT x = true) : Gd N n (.str x) := gd_str (Nat.le_trans (okT_of h).1 hN) (okT_of h).2
def AllG (T : List PyData) : Prop := ∀ d ∈ T, Gd 100 8 d
theorem AllG.app {S T : List PyData} (h : AllG S) (h' : AllG T) : AllG (S ++ T) := fun d hd => (List.mem_append.mp hd).elim (h d) (h' d)
theorem AllG.nil : AllG [] := fun d hd => by cases hd
theorem AllG.cons {d : PyData} {T : List PyData} (h : Gd 100 8 d) (h' : AllG T) : AllG (d :: T) := fun e he => (List.mem_cons.mp he).elim (fun q => by rw [q]; exact h) (h' e)
theorem gd_up {N n : Nat} {d : PyData} (h : Gd N n d) (hN : N ≤ 100) (hn : n ≤ 8) : Gd 100 8 d := Gd.mono hN hn h
theorem law_holds : m_law (.no :: .tape :: List.replicate 7 .no) (endW fun d => d = .bool true) := by
  refine ⟨4, rfl, by decide, fun j Γ => ∃ y2 y3 y4 y5 y6 y7 y8, Γ = [.no, .tape, y2, y3, y4, y5, y6, y7, y8], ⟨_, _, _, _, _, _, _, rfl⟩, ?_, ?_⟩
  · rintro j x Γ hx ⟨y2, y3, y4, y5, y6, y7, y8, rfl⟩
    refine ⟨rfl, rfl, law_pile_ok (m := 7) (by decide) (by decide) fun n ps hn1 hn7 pp => ⟨rfl, rfl, wants_ok (n := 5) (r := 7) (by decide) (by decide) (by decide) (by decide) fun ws hw => ?_⟩⟩
    obtain ⟨ndp, hpl, okp, hpb⟩ := pile_facts pp hn7
    have hpl7 : ps.length ≤ 7 := by omega
    have hwb : ∀ x ∈ nm ws, x ∈ bookNames := fun x hx => List.mem_of_mem_take (hw.sub.subset hx)
    have hl7 := hw.len
    have gP : Gd 10 1 (tS ps) := gd_names (by decide) (.inr rfl) (by omega) hpb
    have gW : Gd 10 2 (tW ws) := gd_wants (by decide) (.inr rfl) (by omega) hwb
    have hc1 : ∀ {α : Type} (xs : List α), (cutD xs none (some (1 : Int))).length ≤ xs.length := fun xs => by
      rw [show cutD xs none (some (1 : Int)) = xs.take 1 from cutD_to 1, List.length_take]; omega
    have hm1 : ∀ (xs : List PyData) (z : PyData), z ∈ cutD xs none (some (1 : Int)) → z ∈ xs := fun xs z hz => by
      rw [show cutD xs none (some (1 : Int)) = xs.take 1 from cutD_to 1] at hz
      exact List.mem_of_mem_take hz
    obtain ⟨_, _, _, hPm⟩ := gP.seq (.inr rfl)
    refine ⟨_, rfl, _, rfl, _, .inr rfl, _, rfl, _, rfl, _, rfl, _, rfl, _, rfl, catT_go ?_ ⟨_, rfl, _, rfl, ?_, by decide, rfl, law_books_ok ⟨_, .inl rfl, rfl, law_books_ok ⟨_, .inl rfl, by show 1 ≤ 1000; decide, catT_go ?_ ⟨by show 7 ≤ 1000; decide, ?_⟩⟩⟩⟩⟩
    · have := hc1 (ps.map PyData.str)
      rw [List.length_map] at this ⊢
      omega
    · rw [List.length_map]; omega
    · show 7 + 1 ≤ 1000000; decide
    have A1 : AllG [tS ps, lS ps, .tuple (ps.map .str ++ cutD (ps.map .str) none (some 1)), .tuple (ps.map PyData.str).reverse, .tuple [], .tuple (bookNames.map .str), .tuple (bookNames.map PyData.str ++ [.str "x"])] := by
      refine .cons (gd_up gP (by decide) (by decide)) (.cons (gd_up (gd_names (N := 10) (n := 0) (by decide) (.inl rfl) (by omega) hpb) (by decide) (by decide)) (.cons ?_ (.cons ?_ (.cons ?_ (.cons ?_ (.cons ?_ .nil))))))
      · refine gd_tup (n := 7) ?_ fun z hz => ?_
        · have := hc1 (ps.map PyData.str)
          rw [List.length_append]
          rw [List.length_map] at this ⊢
          omega
        · have hz' : z ∈ ps.map PyData.str := (List.mem_append.mp hz).elim id fun q => hm1 _ _ q
          obtain ⟨y, hy, rfl⟩ := List.mem_map.mp hz'
          have := books_gd y (hpb y hy)
          exact gd_str (Nat.le_trans this.1 (by decide)) this.2
      · refine gd_tup (n := 7) (by rw [List.length_reverse, List.length_map]; omega) fun z hz => ?_
        obtain ⟨y, hy, rfl⟩ := List.mem_map.mp (List.mem_reverse.mp hz)
        have := books_gd y (hpb y hy)
        exact gd_str (Nat.le_trans this.1 (by decide)) this.2
      · exact gd_tup (n := 7) (by decide) fun z hz => by cases hz
      · exact gd_names (N := 100) (n := 7) (by decide) (.inr rfl) (by decide) fun x hx => hx
      · refine gd_tup (n := 7) (by rw [List.length_append, List.length_map]; decide) fun z hz => ?_
        rcases List.mem_append.mp hz with q | q
        · obtain ⟨y, hy, rfl⟩ := List.mem_map.mp q
          have := books_gd y hy
          exact gd_str (Nat.le_trans this.1 (by decide)) this.2
        · rw [List.mem_singleton.mp q]
          exact gd_txt (by decide) (by decide +kernel)
    -- wants
    refine ⟨_, rfl, _, rfl, _, rfl, _, rfl, ?_, _, rfl, _, .inr rfl, _, rfl, _, rfl, _, rfl, _, rfl, _, rfl, catT_go ?_ ⟨by show 2 ≤ 1000; decide, by show 2 ≤ 1000; decide, by show 2 ≤ 1000; decide, by show 5 ≤ 1000; decide, _, rfl, _, _, rfl, rfl, by show 7 + 5 ≤ 1000000; decide, ?_⟩⟩
    · rw [List.length_map]; omega
    · have := hc1 (ws.map wD)
      rw [List.length_map] at this ⊢
      omega
    have two : ∀ {a b : Str} {i j : Int}, okT a = true → okT b = true → Gd 100 8 (.tuple [.tuple [.str a, .int i], .tuple [.str b, .int j]]) := fun ha hb => gd_two (n := 7) (by decide) (gd_pair (n := 6) (by decide) (okT_of ha) (gd_int _)) (gd_pair (n := 6) (by decide) (okT_of hb) (gd_int _))
    have oa : okT "a" = true := by decide +kernel
    have ob : okT "b" = true := by decide +kernel
    have oA : okT "A" = true := by decide +kernel
    have A2 : AllG [tW ws, .tuple (ws.map wD).reverse, .list (ws.map wD), .tuple (ws.map wD ++ cutD (ws.map wD) none (some 1)), .tuple [.tuple [.str "a", .int 4], .tuple [.str "b", .int 4]]] := by
      have gw : ∀ z ∈ ws.map wD, Gd 100 7 z := fun z hz => by
        obtain ⟨p, hp, rfl⟩ := List.mem_map.mp hz
        exact gd_pair (n := 6) (by decide) (books_gd _ (hwb _ (List.mem_map.mpr ⟨p, hp, rfl⟩))) (gd_int _)
      refine .cons (gd_up gW (by decide) (by decide)) (.cons ?_ (.cons ?_ (.cons ?_ (.cons (two oa ob) .nil))))
      · exact gd_tup (n := 7) (by rw [List.length_reverse, List.length_map]; omega) fun z hz => gw z (List.mem_reverse.mp hz)
      · exact gd_seq (n := 7) (.inl rfl) (by rw [List.length_map]; omega) gw
      · refine gd_tup (n := 7) ?_ fun z hz => gw z ((List.mem_append.mp hz).elim id fun q => hm1 _ _ q)
        have := hc1 (ws.map wD)
        rw [List.length_append]
        rw [List.length_map] at this ⊢
        omega
    refine ⟨_, rfl, by show 12 < 1000000; decide, by show 2 ≤ 1000; decide, by show 2 ≤ 1000; decide, by show 2 ≤ 1000; decide, ?_⟩
    refine ⟨_, rfl, by show 2 ≤ 1000; decide, by show 1 ≤ 1000; decide, by show 2 ≤ 1000; decide, by show 1 ≤ 1000; decide, by show 2 ≤ 1000; decide, by show 1 ≤ 1000; decide, by show 2 ≤ 1000; decide, by show 1 ≤ 1000; decide, by show 2 ≤ 1000; decide, by show 2 ≤ 1000; decide, by show 5 ≤ 1000; decide, _, rfl, _, _, rfl, rfl, by show 13 + 5 ≤ 1000000; decide, ?_⟩
    have A4 : AllG [.tuple [.tuple [.str "a", .int 5]], .tuple [.tuple [.str "a", .int 0]], .tuple [.tuple [.str "a", .bool true]], .tuple [.tuple [.str "a", .int 1], .tuple [.str "b"]], .tuple [.str "a", .str "A"]] := by
      refine .cons ?_ (.cons ?_ (.cons ?_ (.cons ?_ (.cons ?_ .nil))))
      · exact gd_one (n := 7) (by decide) (gd_pair (n := 6) (by decide) (okT_of oa) (gd_int _))
      · exact gd_one (n := 7) (by decide) (gd_pair (n := 6) (by decide) (okT_of oa) (gd_int _))
      · exact gd_one (n := 7) (by decide) (gd_pair (n := 6) (by decide) (okT_of oa) (gd_bool _))
      · exact gd_two (n := 7) (by decide) (gd_pair (n := 6) (by decide) (okT_of oa) (gd_int _)) (gd_one (n := 6) (by decide) (gd_txt (by decide) ob))
      · exact gd_two (n := 7) (by decide) (gd_txt (by decide) oa) (gd_txt (by decide) oA)
    refine ⟨_, rfl, by show 18 < 1000000; decide, rfl, law_books_ok ⟨_, rfl, _, rfl, _, rfl, _, rfl, ?_⟩⟩
    rw [show cutD (bookNames.map PyData.str) none (some (6 : Int)) = (bookNames.map PyData.str).take 6 from cutD_to 6, ← List.map_take]
    refine lc_mapA (bookNames.take 6) .str (fun b => wD (b, 1)) (by decide) (fun k b hk R hR => ⟨_, rfl, by show 2 ≤ 1000; decide, hR⟩) ⟨_, rfl, _, .inl rfl, ?_⟩
    have A5 : AllG [.tuple ((bookNames.take 6).map fun b => wD (b, 1))] := .cons (gd_tup (n := 7) (by decide) fun z hz => by
      obtain ⟨b, hb, rfl⟩ := List.mem_map.mp hz
      exact gd_pair (n := 6) (by decide) (books_gd b (List.mem_of_mem_take hb)) (gd_int _)) .nil
    have A3 : AllG [.tuple [.tuple [.str "a", .int 4], .tuple [.str "b", .int 3]]] := .cons (two oa ob) .nil
    -- spoilt ones
    refine ⟨8, rfl, by decide, fun j Γ => ∃ (T : List PyData) (y2 y6 y7 y8 : Sv), T.length ≤ 100 + 3 * j ∧ AllG T ∧ Γ = [.no, .tape, y2, .dat (tS ps), .dat (tW ws), .own (.lst T), y6, y7, y8], ⟨_, _, _, _, _, ?_, ((((A1.app A2).app A3).app A4).app A5), rfl⟩, ?_, ?_⟩
    · show 19 ≤ 100; decide
    · rintro j x Γ hx ⟨T, y2, y6, y7, y8, hT, hA, rfl⟩
      obtain ⟨hj, rfl⟩ := rngD_inv hx
      refine ⟨_, rfl, by omega, rfl, _, rfl, rfl, spoilt_ok 7 1 10 _ _ (by decide) gP (by decide) (by decide) fun d1 h1 => ?_⟩
      refine ⟨_, rfl, by rw [List.length_append]; show _ + 1 < _; omega, rfl, _, rfl, rfl, spoilt_ok 7 2 10 _ _ (by decide) gW (by decide) (by decide) fun d2 h2 => ?_⟩
      refine ⟨_, rfl, by rw [List.length_append, List.length_append]; show _ + 1 + 1 < _; omega, rfl, _, rfl, _, rfl, _, _, d2, rfl, rfl, atI_end, rfl, spoilt_ok 7 5 28 _ _ (by decide) h2 (by decide) (by decide) fun d3 h3 => ⟨T ++ [d1] ++ [d2] ++ [d3], _, _, _, _, ?_, ?_, rfl⟩⟩
      · rw [List.length_append, List.length_append, List.length_append]; show _ + 1 + 1 + 1 ≤ _; omega
      · exact ((hA.app (.cons (gd_up h1 (by decide) (by decide)) .nil)).app (.cons (gd_up h2 (by decide) (by decide)) .nil)).app (.cons (gd_up h3 (by decide) (by decide)) .nil)
    · rintro Γ ⟨T, y2, y6, y7, y8, hT, hA, rfl⟩
      rw [rngD_len] at hT
      refine ⟨_, rfl, rfl, rfl, any_ok 5 3 _ _ rfl (by decide) fun d4 h4 => ⟨by show 1 ≤ 1000; decide, _, rfl, _, _, rfl, rfl, by show _ + 1 ≤ _; omega, _, rfl, _, rfl, ?_⟩⟩
      have hA' := hA.app (.cons (gd_up h4 (by decide) (by decide)) .nil)
      refine ⟨fun j Γ => ∃ y2 y3 y4 y5 y6 y7 y8, Γ = [.no, .tape, y2, y3, y4, y5, y6, y7, y8], ⟨_, _, _, _, _, _, _, rfl⟩, ?_, ?_⟩
      · rintro i z Γ hz ⟨y2, y3, y4, y5, y6, y7, y8, rfl⟩
        have hg := hA' z (List.mem_of_getElem? hz)
        obtain ⟨b, e1, e2⟩ := agree_pile hg (by decide)
        obtain ⟨b', e1', e2'⟩ := agree_wants hg (by decide)
        refine ⟨_, rfl, rfl, e1 _ ⟨_, rfl, rfl, e2 _ ⟨rfl, like_self 6 _ _ wf_bool ⟨_, rfl, iteF ?_⟩⟩⟩⟩
        exact ⟨_, rfl, rfl, e1' _ ⟨_, rfl, rfl, e2' _ ⟨rfl, like_self 6 _ _ wf_bool ⟨_, rfl, iteF ⟨_, _, _, _, _, _, _, rfl⟩⟩⟩⟩⟩
      · rintro Γ ⟨y2, y3, y4, y5, y6, y7, y8, rfl⟩
        exact ⟨_, _, _, _, _, _, _, rfl⟩
  · rintro Γ ⟨y2, y3, y4, y5, y6, y7, y8, rfl⟩
    rfl
end LT

namespace LT
open PySem PySem.Spec PyProof.Rows L2
def sp_law (K : PySem.W.Frag) : Sp := fun vs H Q _ => ∃ (a : Addr) (ns : List Int), vs = [.ref a] ∧ SqL K H a (ns.map V.int) ∧ ns.length ≤ 63 ∧ ∀ H', Q (.bl true) H'
theorem len_law {K : PySem.W.Frag} {vs : List V} {H : Hp} {Q : VK} {E : XK} (h : sp_law K vs H Q E) : vs.length = 1 := by
  obtain ⟨_, _, rfl, _⟩ := h
  rfl
theorem sem_law {K : PySem.W.Frag} {vs : List V} {H : Hp} {Q : VK} {E : XK} (h : sp_law K vs H Q E) : t_law K { nx := fun _ H' => Q .non H', rt := Q } (start N_law vs) H := law_W (k := 7) (by rfl) rs_law law_holds h
theorem units65 {k : Nat} {A : Around} (r : Room k A) : A.units + 65 < cLine := by
  have := r.un
  omega
def topS (i : Nat) : Stmt := PySem.Challenge.pw_laidontop_k01_piles_and_wants_known.main.body.getD i (.Pass ⟨0, 0, 0, 0⟩)
abbrev s_is_within : Stmt := topS 3
theorem sc_is_within : FnScope N_is_within ["thing", "low", "high"] (defScope s_is_within) := ⟨rfl, rfl, rfl, by decide +kernel, rfl, by decide +kernel, by decide +kernel⟩
abbrev s_is_name : Stmt := topS 4
theorem sc_is_name : FnScope N_is_name ["thing"] (defScope s_is_name) := ⟨rfl, rfl, rfl, by decide +kernel, rfl, by decide +kernel, by decide +kernel⟩
abbrev s_is_pile : Stmt := topS 5
theorem sc_is_pile : FnScope N_is_pile ["thing"] (defScope s_is_pile) := ⟨rfl, rfl, rfl, by decide +kernel, rfl, by decide +kernel, by decide +kernel⟩
abbrev s_is_want : Stmt := topS 10
theorem sc_is_want : FnScope N_is_want ["thing"] (defScope s_is_want) := ⟨rfl, rfl, rfl, by decide +kernel, rfl, by decide +kernel, by decide +kernel⟩
abbrev s_are_wants : Stmt := topS 11
theorem sc_are_wants : FnScope N_are_wants ["thing"] (defScope s_are_wants) := ⟨rfl, rfl, rfl, by decide +kernel, rfl, by decide +kernel, by decide +kernel⟩
abbrev s_law_draw : Stmt := topS 13
theorem sc_law_draw : FnScope N_law_draw ["tape", "many"] (defScope s_law_draw) := ⟨rfl, rfl, rfl, by decide +kernel, rfl, by decide +kernel, by decide +kernel⟩
abbrev s_law_whole : Stmt := topS 14
theorem sc_law_whole : FnScope N_law_whole ["item"] (defScope s_law_whole) := ⟨rfl, rfl, rfl, by decide +kernel, rfl, by decide +kernel, by decide +kernel⟩
abbrev s_law_within : Stmt := topS 15
theorem sc_law_within : FnScope N_law_within ["item", "low", "high"] (defScope s_law_within) := ⟨rfl, rfl, rfl, by decide +kernel, rfl, by decide +kernel, by decide +kernel⟩
abbrev s_law_like : Stmt := topS 16
theorem sc_law_like : FnScope N_law_like ["one", "two"] (defScope s_law_like) := ⟨rfl, rfl, rfl, by decide +kernel, rfl, by decide +kernel, by decide +kernel⟩
abbrev s_law_any_order : Stmt := topS 17
theorem sc_law_any_order : FnScope N_law_any_order ["tape", "many"] (defScope s_law_any_order) := ⟨rfl, rfl, rfl, by decide +kernel, rfl, by decide +kernel, by decide +kernel⟩
abbrev s_law_spoilt : Stmt := topS 18
theorem sc_law_spoilt : FnScope N_law_spoilt ["tape", "item"] (defScope s_law_spoilt) := ⟨rfl, rfl, rfl, by decide +kernel, rfl, by decide +kernel, by decide +kernel⟩
abbrev s_law_rises : Stmt := topS 19
theorem sc_law_rises : FnScope N_law_rises ["some"] (defScope s_law_rises) := ⟨rfl, rfl, rfl, by decide +kernel, rfl, by decide +kernel, by decide +kernel⟩
abbrev s_law_is_name : Stmt := topS 20
theorem sc_law_is_name : FnScope N_law_is_name ["item"] (defScope s_law_is_name) := ⟨rfl, rfl, rfl, by decide +kernel, rfl, by decide +kernel, by decide +kernel⟩
abbrev s_law_any : Stmt := topS 21
theorem sc_law_any : FnScope N_law_any ["tape", "deep"] (defScope s_law_any) := ⟨rfl, rfl, rfl, by decide +kernel, rfl, by decide +kernel, by decide +kernel⟩
abbrev s_law_books : Stmt := topS 22
theorem sc_law_books : FnScope N_law_books [] (defScope s_law_books) := ⟨rfl, rfl, rfl, by decide +kernel, rfl, by decide +kernel, by decide +kernel⟩
abbrev s_law_pile : Stmt := topS 23
theorem sc_law_pile : FnScope N_law_pile ["tape", "size"] (defScope s_law_pile) := ⟨rfl, rfl, rfl, by decide +kernel, rfl, by decide +kernel, by decide +kernel⟩
abbrev s_law_wants : Stmt := topS 24
theorem sc_law_wants : FnScope N_law_wants ["tape", "books", "readers"] (defScope s_law_wants) := ⟨rfl, rfl, rfl, by decide +kernel, rfl, by decide +kernel, by decide +kernel⟩
abbrev s_law_is_pile : Stmt := topS 25
theorem sc_law_is_pile : FnScope N_law_is_pile ["item"] (defScope s_law_is_pile) := ⟨rfl, rfl, rfl, by decide +kernel, rfl, by decide +kernel, by decide +kernel⟩
abbrev s_law_are_wants : Stmt := topS 26
theorem sc_law_are_wants : FnScope N_law_are_wants ["item"] (defScope s_law_are_wants) := ⟨rfl, rfl, rfl, by decide +kernel, rfl, by decide +kernel, by decide +kernel⟩
abbrev s_law : Stmt := topS 27
theorem sc_law : FnScope N_law ["script"] (defScope s_law) := ⟨rfl, rfl, rfl, by decide +kernel, rfl, by decide +kernel, by decide +kernel⟩
theorem ok_is_within {P : Program} {w : World} {K : PySem.W.Frag} {mg : Str → Option Value} {base : Heap} {f : Addr} {fd : FuncData} (F : Fun K "is_within" "is_within" s_is_within f fd) (B : Bn mg)  : FnOk P w K mg base CX0 1 f fd ["thing", "low", "high"] (sp_is_within K) := by
  refine F.ok sc_is_within (fun vs H Q E h => len_spW h) (fun cdv A outer s H vs Q E hr h => ⟨t_is_within K, ?_, sem_is_within h⟩)
  exact (pss_one (ps_ret (pe_and (pe_callB call_isi (by rfl) B.m_isinstance (by decide +kernel) (pa_cons (pv 0) (pa_cons (pe_bltn (v := .ty "int") (by rfl) B.m_int (by decide +kernel) rfl) pa_nil))) (pe_and (pe_not (pe_callB call_isi (by rfl) B.m_isinstance (by decide +kernel) (pa_cons (pv 0) (pa_cons (pe_bltn (v := .ty "bool") (by rfl) B.m_bool (by decide +kernel) rfl) pa_nil)))) (pe_one (pe_chain op_le op_le (pv 1) (pv 0) (pv 2)))))))

theorem ok_is_name {P : Program} {w : World} {K : PySem.W.Frag} {mg : Str → Option Value} {base : Heap} {f : Addr} {fd : FuncData} (F : Fun K "is_name" "is_name" s_is_name f fd) (B : Bn mg) {k_LETTERS : Tok} (g_LETTERS : mg "LETTERS" = some (.str vLetters k_LETTERS))  : FnOk P w K mg base CX0 1 f fd ["thing"] (sp_is_name K) := by
  refine F.ok sc_is_name (fun vs H Q E h => len_spW h) (fun cdv A outer s H vs Q E hr h => ⟨t_is_name K, ?_, sem_is_name h⟩)
  exact (pss_one (ps_ret (pe_and (pe_callB call_isi (by rfl) B.m_isinstance (by decide +kernel) (pa_cons (pv 0) (pa_cons (pe_bltn (v := .ty "str") (by rfl) B.m_str (by decide +kernel) rfl) pa_nil))) (pe_and (pe_chain op_le op_le pe_int (pe_callB call_len_str (by rfl) B.m_len PySem.boot_len (pa_cons (pv 0) pa_nil)) pe_int) (pe_one (pe_callB (cr_all rfl) (by rfl) B.m_all (by decide +kernel) (pa_cons (pe_lc (own := [("sign", 1)]) (g := (gName 1)) (tt := tYes) rfl sc_is_name.nd (pi_str (pv 0)) (blkOk_by (own := [("sign", 1)]) (N := N_is_name) (sc := defScope s_is_name) (by decide +kernel)) (fun _ _ _ _ _ => (pg_name (i := 1) sc_is_name.nd rfl (.inl rfl))) (fun _ _ _ _ _ => pts_nil) (fun _ _ _ _ _ => (pe_cmpR op_in_sign (pv 1) (pe_glob (by rfl) g_LETTERS ⟨_, rfl⟩) (by rfl)))) pa_nil)))))))

theorem ok_is_pile {P : Program} {w : World} {K : PySem.W.Frag} {mg : Str → Option Value} {base : Heap} {f : Addr} {fd : FuncData} (F : Fun K "is_pile" "is_pile" s_is_pile f fd) (B : Bn mg) {k_MOST_BOOKS : Tok} (g_MOST_BOOKS : mg "MOST_BOOKS" = some (.int 7 k_MOST_BOOKS)) (c_is_name : Cal P w K mg base 1 "is_name" ["thing"] (sp_is_name K)) : FnOk P w K mg base CX0 2 f fd ["thing"] (sp_is_pile K) := by
  refine F.ok sc_is_pile (fun vs H Q E h => len_spW h) (fun cdv A outer s H vs Q E hr h => ⟨t_is_pile K, ?_, sem_is_pile h⟩)
  exact (pss_cons (ps_if (PW.pt (pw_or (pt_not (pt_val (pe_callB call_isi (by rfl) B.m_isinstance (by decide +kernel) (pa_cons (pv 0) (pa_cons (pe_bltn (v := .ty "tuple") (by rfl) B.m_tuple (by decide +kernel) rfl) pa_nil))))) (pw_or1 (pt_not (pt_chain op_le op_le pe_int (pe_callB call_len_seq (by rfl) B.m_len PySem.boot_len (pa_cons (pv 0) pa_nil)) (pe_glob (by rfl) g_MOST_BOOKS ⟨_, rfl⟩)))))) (pss_one (ps_ret pe_bl)) pss_nil)
      (pss_one (ps_ret (pe_and (pe_callB (cr_all rfl) (by rfl) B.m_all (by decide +kernel) (pa_cons (pe_lc (own := [("part", 1)]) (g := (gName 1)) (tt := tYes) rfl sc_is_pile.nd (pi_tup (pv 0)) (blkOk_by (own := [("part", 1)]) (N := N_is_pile) (sc := defScope s_is_pile) (by decide +kernel)) (fun _ _ _ _ _ => (pg_name (i := 1) sc_is_pile.nd rfl (.inl rfl))) (fun _ _ _ _ _ => pts_nil) (fun _ _ _ _ _ => (pe_cal c_is_name hr (by decide) (by rfl) (pa_cons (pv 1) pa_nil)))) pa_nil)) (pe_one (pe_cmpR op_eq (pe_callB call_lenD (by rfl) B.m_len PySem.boot_len (pa_cons (pe_dc (own := [("part", 1)]) (g := (gName 1)) (tt := tYes) rfl sc_is_pile.nd (pi_tup (pv 0)) (blkOk_by (own := [("part", 1)]) (N := N_is_pile) (sc := defScope s_is_pile) (by decide +kernel)) (fun _ _ _ _ _ => (pg_name (i := 1) sc_is_pile.nd rfl (.inl rfl))) (fun _ _ _ _ _ => pts_nil) (fun _ _ _ _ _ => (pv 1)) (fun _ _ _ _ _ => pe_bl)) pa_nil)) (pe_callB call_len_seq (by rfl) B.m_len PySem.boot_len (pa_cons (pv 0) pa_nil)) (nomark _)))))))

theorem ok_is_want {P : Program} {w : World} {K : PySem.W.Frag} {mg : Str → Option Value} {base : Heap} {f : Addr} {fd : FuncData} (F : Fun K "is_want" "is_want" s_is_want f fd) (B : Bn mg) {k_MOST_EACH : Tok} (g_MOST_EACH : mg "MOST_EACH" = some (.int 4 k_MOST_EACH)) (c_is_name : Cal P w K mg base 1 "is_name" ["thing"] (sp_is_name K)) (c_is_within : Cal P w K mg base 1 "is_within" ["thing", "low", "high"] (sp_is_within K)) : FnOk P w K mg base CX0 2 f fd ["thing"] (sp_is_want K) := by
  refine F.ok sc_is_want (fun vs H Q E h => len_spW h) (fun cdv A outer s H vs Q E hr h => ⟨t_is_want K, ?_, sem_is_want h⟩)
  exact (pss_one (ps_ret (pe_and (pe_callB call_isi (by rfl) B.m_isinstance (by decide +kernel) (pa_cons (pv 0) (pa_cons (pe_bltn (v := .ty "tuple") (by rfl) B.m_tuple (by decide +kernel) rfl) pa_nil))) (pe_and (pe_cmpR op_eq (pe_callB call_len_seq (by rfl) B.m_len PySem.boot_len (pa_cons (pv 0) pa_nil)) pe_int (nomark _)) (pe_and (pe_cal c_is_name hr (by decide) (by rfl) (pa_cons (pe_ix ix_tup (pv 0) pe_int (fun _ _ => rfl)) pa_nil)) (pe_one (pe_cal c_is_within hr (by decide) (by rfl) (pa_cons (pe_ix ix_tup (pv 0) pe_int (fun _ _ => rfl)) (pa_cons pe_int (pa_cons (pe_glob (by rfl) g_MOST_EACH ⟨_, rfl⟩) pa_nil))))))))))

theorem ok_are_wants {P : Program} {w : World} {K : PySem.W.Frag} {mg : Str → Option Value} {base : Heap} {f : Addr} {fd : FuncData} (F : Fun K "are_wants" "are_wants" s_are_wants f fd) (B : Bn mg) {k_MOST_WANTED : Tok} (g_MOST_WANTED : mg "MOST_WANTED" = some (.int 5 k_MOST_WANTED)) {k_MOST_READERS : Tok} (g_MOST_READERS : mg "MOST_READERS" = some (.int 7 k_MOST_READERS)) (c_is_want : Cal P w K mg base 2 "is_want" ["thing"] (sp_is_want K)) : FnOk P w K mg base CX0 3 f fd ["thing"] (sp_are_wants K) := by
  refine F.ok sc_are_wants (fun vs H Q E h => len_spW h) (fun cdv A outer s H vs Q E hr h => ⟨t_are_wants K, ?_, sem_are_wants h⟩)
  exact (pss_cons (ps_if (PW.pt (pw_or (pt_not (pt_val (pe_callB call_isi (by rfl) B.m_isinstance (by decide +kernel) (pa_cons (pv 0) (pa_cons (pe_bltn (v := .ty "tuple") (by rfl) B.m_tuple (by decide +kernel) rfl) pa_nil))))) (pw_or (pt_not (pt_chain op_le op_le pe_int (pe_callB call_len_seq (by rfl) B.m_len PySem.boot_len (pa_cons (pv 0) pa_nil)) (pe_glob (by rfl) g_MOST_WANTED ⟨_, rfl⟩))) (pw_or1 (pt_not (pt_val (pe_callB (cr_all rfl) (by rfl) B.m_all (by decide +kernel) (pa_cons (pe_lc (own := [("part", 6)]) (g := (gName 6)) (tt := tYes) rfl sc_are_wants.nd (pi_tup (pv 0)) (blkOk_by (own := [("part", 6)]) (N := N_are_wants) (sc := defScope s_are_wants) (by decide +kernel)) (fun _ _ _ _ _ => (pg_name (i := 6) sc_are_wants.nd rfl (.inl rfl))) (fun _ _ _ _ _ => pts_nil) (fun _ _ _ _ _ => (pe_cal c_is_want hr (by decide) (by rfl) (pa_cons (pv 6) pa_nil)))) pa_nil)))))))) (pss_one (ps_ret pe_bl)) pss_nil)
      (pss_cons (ps_setLc (i := 1) (own := [("book", 2), ("many", 3)]) (g := (gTup K 2 (gCons (gName 2) (gCons (gName 3) gNil)))) (tt := tYes) rfl sc_are_wants.nd rfl rfl (sw_true rfl rfl rfl (by decide +kernel)) (pi_tup (pv 0)) (blkOk_by (own := [("book", 2), ("many", 3)]) (N := N_are_wants) (sc := defScope s_are_wants) (by decide +kernel)) (fun _ _ _ _ _ => (pg_tup rfl (pgs_cons (pg_name (i := 2) sc_are_wants.nd rfl (.inl rfl)) (pgs_cons (pg_name (i := 3) sc_are_wants.nd rfl (.inl rfl)) pgs_nil)))) (fun _ _ _ _ _ => pts_nil) (fun _ _ _ _ _ => (pv 2)))
      (pss_cons (ps_if (pt_not (pt_val (pe_callB (cr_all rfl) (by rfl) B.m_all (by decide +kernel) (pa_cons (pe_lc (own := [("one", 4), ("two", 5)]) (g := (gTup K 2 (gCons (gName 4) (gCons (gName 5) gNil)))) (tt := tYes) rfl sc_are_wants.nd (pi_zip (by rfl) B.m_zip (pa_cons (pv 1) (pa_cons (pe_slice sl_list (pv 1) (po_some pe_int) po_none) pa_nil))) (blkOk_by (own := [("one", 4), ("two", 5)]) (N := N_are_wants) (sc := defScope s_are_wants) (by decide +kernel)) (fun _ _ _ _ _ => (pg_tup rfl (pgs_cons (pg_name (i := 4) sc_are_wants.nd rfl (.inl rfl)) (pgs_cons (pg_name (i := 5) sc_are_wants.nd rfl (.inl rfl)) pgs_nil)))) (fun _ _ _ _ _ => pts_nil) (fun _ _ _ _ _ => (pe_cmpR op_lt_str (pv 4) (pv 5) (nomark _)))) pa_nil)))) (pss_one (ps_ret pe_bl)) pss_nil)
      (pss_one (ps_ret (pe_cmpR op_le (pe_callB (cr_sum rfl) (by rfl) B.m_sum (by decide +kernel) (pa_cons (pe_lc (own := [("book", 2), ("many", 3)]) (g := (gTup K 2 (gCons (gName 2) (gCons (gName 3) gNil)))) (tt := tYes) rfl sc_are_wants.nd (pi_tup (pv 0)) (blkOk_by (own := [("book", 2), ("many", 3)]) (N := N_are_wants) (sc := defScope s_are_wants) (by decide +kernel)) (fun _ _ _ _ _ => (pg_tup rfl (pgs_cons (pg_name (i := 2) sc_are_wants.nd rfl (.inl rfl)) (pgs_cons (pg_name (i := 3) sc_are_wants.nd rfl (.inl rfl)) pgs_nil)))) (fun _ _ _ _ _ => pts_nil) (fun _ _ _ _ _ => (pv 3))) pa_nil)) (pe_glob (by rfl) g_MOST_READERS ⟨_, rfl⟩) (nomark _)))))))

theorem ok_law_draw {P : Program} {w : World} {K : PySem.W.Frag} {mg : Str → Option Value} {base : Heap} {f : Addr} {fd : FuncData} (F : Fun K "_law_draw" "_law_draw" s_law_draw f fd) (B : Bn mg)  : FnOk P w K mg base CX0 1 f fd ["tape", "many"] (sp_law_draw K) := by
  refine F.ok sc_law_draw (fun vs H Q E h => len_law_draw h) (fun cdv A outer s H vs Q E hr h => ⟨t_law_draw K, ?_, sem_law_draw h⟩)
  exact (pss_cons (ps_set (i := 2) sc_law_draw.nd rfl (.inl rfl) pe_int)
      (Evl.pss_cut (ps_if (pt_cmpR op_lt (pe_ix ix_list (pv 0) pe_int (fun _ _ => rfl)) (pv 1) (nomark _)) (pss_cons (ps_set (i := 3) sc_law_draw.nd rfl (.inl rfl) pe_int)
      (Evl.pss_cut (ps_if (pt_cmpR op_gt (pe_callB call_len_seq (by rfl) B.m_len PySem.boot_len (pa_cons (pe_ix ix_list (pv 0) pe_int (fun _ _ => rfl)) pa_nil)) pe_int (nomark _)) (pss_one (ps_set (i := 3) sc_law_draw.nd rfl (.inl rfl) (pe_ix ix_list (pe_ix ix_list (pv 0) pe_int (fun _ _ => rfl)) (pe_op op_mod (pe_ix ix_list (pv 0) pe_int (fun _ _ => rfl)) (pe_callB call_len_seq (by rfl) B.m_len PySem.boot_len (pa_cons (pe_ix ix_list (pv 0) pe_int (fun _ _ => rfl)) pa_nil))) (fun _ _ => rfl)))) pss_nil)
      (Evl.pss_cut (ps_if (PW.pt (pw_or (pt_cmpR op_ge (pe_ix ix_list (pv 0) pe_int (fun _ _ => rfl)) (pe_callB call_len_seq (by rfl) B.m_len PySem.boot_len (pa_cons (pe_ix ix_list (pv 0) pe_int (fun _ _ => rfl)) pa_nil)) (nomark _)) (pw_or1 (pt_cmpR op_lt (pv 3) (pe_op op_pow pe_int pe_int) (nomark _))))) (pss_cons (ps_set (i := 3) sc_law_draw.nd rfl (.inl rfl) (pe_op op_mod (pe_op op_add (pv 3) (pe_op op_mul pe_int (pe_ix ix_list (pv 0) pe_int (fun _ _ => rfl)))) (pv 2)))
      (pss_cons (ps_set (i := 3) sc_law_draw.nd rfl (.inl rfl) (pe_op op_mod (pe_op op_add (pe_op op_add (pe_op op_mul (pv 3) (pv 3)) (pe_op op_mul pe_int (pv 3))) pe_int) (pv 2)))
      (pss_one (ps_set (i := 3) sc_law_draw.nd rfl (.inl rfl) (pe_op op_mod (pe_op op_add (pe_op op_mul (pv 3) (pv 3)) pe_int) (pv 2)))))) pss_nil)
      (pss_cons (ps_asg (pe_op op_add (pe_ix ix_list (pv 0) pe_int (fun _ _ => rfl)) pe_int) (pg_sub (pv 0) pe_int set_list))
      (pss_one (ps_asg (pv 3) (pg_sub (pv 0) pe_int set_list))))))) pss_nil)
      (pss_cons (ps_set (i := 4) sc_law_draw.nd rfl (.inl rfl) (pe_op op_mod (pe_ix ix_list (pv 0) pe_int (fun _ _ => rfl)) (pv 1)))
      (pss_cons (ps_asg (pe_op op_fdivW (pe_ix ix_list (pv 0) pe_int (fun _ _ => rfl)) (pv 1)) (pg_sub (pv 0) pe_int set_list))
      (pss_one (ps_ret (pv 4)))))))

theorem ok_law_whole {P : Program} {w : World} {K : PySem.W.Frag} {mg : Str → Option Value} {base : Heap} {f : Addr} {fd : FuncData} (F : Fun K "_law_whole" "_law_whole" s_law_whole f fd) (B : Bn mg)  : FnOk P w K mg base CX0 1 f fd ["item"] (sp_law_whole K) := by
  refine F.ok sc_law_whole (fun vs H Q E h => len_spW h) (fun cdv A outer s H vs Q E hr h => ⟨t_law_whole K, ?_, sem_law_whole h⟩)
  exact (pss_one (ps_ret (pe_and (pe_callB call_isi (by rfl) B.m_isinstance (by decide +kernel) (pa_cons (pv 0) (pa_cons (pe_bltn (v := .ty "int") (by rfl) B.m_int (by decide +kernel) rfl) pa_nil))) (pe_one (pe_not (pe_callB call_isi (by rfl) B.m_isinstance (by decide +kernel) (pa_cons (pv 0) (pa_cons (pe_bltn (v := .ty "bool") (by rfl) B.m_bool (by decide +kernel) rfl) pa_nil))))))))

theorem ok_law_within {P : Program} {w : World} {K : PySem.W.Frag} {mg : Str → Option Value} {base : Heap} {f : Addr} {fd : FuncData} (F : Fun K "_law_within" "_law_within" s_law_within f fd) (B : Bn mg) (c_law_whole : Cal P w K mg base 1 "_law_whole" ["item"] (sp_law_whole K)) : FnOk P w K mg base CX0 2 f fd ["item", "low", "high"] (sp_law_within K) := by
  refine F.ok sc_law_within (fun vs H Q E h => len_spW h) (fun cdv A outer s H vs Q E hr h => ⟨t_law_within K, ?_, sem_law_within h⟩)
  exact (pss_one (ps_ret (pe_and (pe_cal c_law_whole hr (by decide) (by rfl) (pa_cons (pv 0) pa_nil)) (pe_one (pe_chain op_le op_le (pv 1) (pv 0) (pv 2))))))

theorem okr_law_like {P : Program} {w : World} {K : PySem.W.Frag} {mg : Str → Option Value} {base : Heap} {f : Addr} {fd : FuncData} (F : Fun K "_law_like" "_law_like" s_law_like f fd) (B : Bn mg) (hb : Binds K fd ["one", "two"] []) (hm : mg "_law_like" = some (.ref f))  : ∀ n : Nat, FnOk P w K mg base CX0 (1 + n) f fd ["one", "two"] (sp_law_like n K)
  | 0 => ⟨fun vs H Q E h => len_spW h, fun A outer s H args us vs Q E hr he hb hv h => by
      obtain ⟨_, _, _, _, _, _, _, hF, _⟩ := h
      exact hF.elim⟩
  | n + 1 => by
    have c_self : Cal P w K mg base (1 + n) "_law_like" ["one", "two"] (sp_law_like n K) := ⟨_, _, okr_law_like F B hb hm  n, hm, F.kp, hb⟩
    refine F.ok sc_law_like (fun vs H Q E h => len_spW h) (fun cdv A outer s H vs Q E hr h => ⟨t_law_like (F_law_like n) K, ?_, sem_law_like h⟩)
    exact (pss_cons (ps_if (pt_val (pe_callB call_isiT (by rfl) B.m_isinstance (by decide +kernel) (pa_cons (pv 0) (pa_cons (pe_tup (pa_cons (pe_bltn (v := .ty "list") (by rfl) B.m_list (by decide +kernel) rfl) (pa_cons (pe_bltn (v := .ty "tuple") (by rfl) B.m_tuple (by decide +kernel) rfl) pa_nil))) pa_nil)))) (pss_cons (ps_if (PW.pt (pw_or (pt_cmpR op_ne (pe_callB call_isi (by rfl) B.m_isinstance (by decide +kernel) (pa_cons (pv 0) (pa_cons (pe_bltn (v := .ty "list") (by rfl) B.m_list (by decide +kernel) rfl) pa_nil))) (pe_callB call_isi (by rfl) B.m_isinstance (by decide +kernel) (pa_cons (pv 1) (pa_cons (pe_bltn (v := .ty "list") (by rfl) B.m_list (by decide +kernel) rfl) pa_nil))) (nomark _)) (pw_or1 (pt_cmpR op_ne (pe_callB call_isi (by rfl) B.m_isinstance (by decide +kernel) (pa_cons (pv 0) (pa_cons (pe_bltn (v := .ty "tuple") (by rfl) B.m_tuple (by decide +kernel) rfl) pa_nil))) (pe_callB call_isi (by rfl) B.m_isinstance (by decide +kernel) (pa_cons (pv 1) (pa_cons (pe_bltn (v := .ty "tuple") (by rfl) B.m_tuple (by decide +kernel) rfl) pa_nil))) (nomark _))))) (pss_one (ps_ret pe_bl)) pss_nil)
      (pss_cons (ps_if (pt_cmpR op_ne (pe_callB call_len_seq (by rfl) B.m_len PySem.boot_len (pa_cons (pv 0) pa_nil)) (pe_callB call_len_seq (by rfl) B.m_len PySem.boot_len (pa_cons (pv 1) pa_nil)) (nomark _)) (pss_one (ps_ret pe_bl)) pss_nil)
      (pss_one (ps_ret (pe_cmpR (op_eqD hr.units) (pe_lc (own := [("k", 2)]) (g := (gName 2)) (tt := (tNot (tB (tCall (spW false 2 (F_law_like n)) [] E0 (tCons (tOp (rIx K) (tVar 0) (tVar 2)) (tCons (tOp (rIx K) (tVar 1) (tVar 2)) tNil)))))) rfl sc_law_like.nd (pi_range1 (by rfl) B.m_range (pa_cons (pe_callB call_len_seq (by rfl) B.m_len PySem.boot_len (pa_cons (pv 0) pa_nil)) pa_nil)) (blkOk_by (own := [("k", 2)]) (N := N_law_like) (sc := defScope s_law_like) (by decide +kernel)) (fun _ _ _ _ _ => (pg_name (i := 2) sc_law_like.nd rfl (.inl rfl))) (fun _ _ _ _ _ => (pts_one (pt_not (pt_val (pe_cal c_self hr (Nat.le_refl _) (by rfl) (pa_cons (pe_ix ix_seq (pv 0) (pv 2) (fun _ _ => rfl)) (pa_cons (pe_ix ix_seq (pv 1) (pv 2) (fun _ _ => rfl)) pa_nil))))))) (fun _ _ _ _ _ => (pv 2))) (pe_lst pa_nil) (nomark _)))))) pss_nil)
      (pss_cons (ps_if (pt_val (pe_callB call_isiT (by rfl) B.m_isinstance (by decide +kernel) (pa_cons (pv 1) (pa_cons (pe_tup (pa_cons (pe_bltn (v := .ty "list") (by rfl) B.m_list (by decide +kernel) rfl) (pa_cons (pe_bltn (v := .ty "tuple") (by rfl) B.m_tuple (by decide +kernel) rfl) pa_nil))) pa_nil)))) (pss_one (ps_ret pe_bl)) pss_nil)
      (pss_one (ps_ret (pe_and (pe_cmpR op_eq (pe_callB call_isi (by rfl) B.m_isinstance (by decide +kernel) (pa_cons (pv 0) (pa_cons (pe_bltn (v := .ty "bool") (by rfl) B.m_bool (by decide +kernel) rfl) pa_nil))) (pe_callB call_isi (by rfl) B.m_isinstance (by decide +kernel) (pa_cons (pv 1) (pa_cons (pe_bltn (v := .ty "bool") (by rfl) B.m_bool (by decide +kernel) rfl) pa_nil))) (nomark _)) (pe_one (pe_cmpR (op_eqD hr.units) (pv 0) (pv 1) (nomark _))))))))

theorem ok_law_any_order {P : Program} {w : World} {K : PySem.W.Frag} {mg : Str → Option Value} {base : Heap} {f : Addr} {fd : FuncData} (F : Fun K "_law_any_order" "_law_any_order" s_law_any_order f fd) (B : Bn mg) (c_law_draw : Cal P w K mg base 1 "_law_draw" ["tape", "many"] (sp_law_draw K)) : FnOk P w K mg base CX0 2 f fd ["tape", "many"] (sp_law_any_order K) := by
  refine F.ok sc_law_any_order (fun vs H Q E h => len_spT h) (fun cdv A outer s H vs Q E hr h => ⟨t_law_any_order K, ?_, sem_law_any_order h⟩)
  exact (pss_cons (ps_set (i := 2) sc_law_any_order.nd rfl (.inl rfl) (pe_lst pa_nil))
      (pss_cons (ps_for PassesOwn.never rfl (pi_range1 (by rfl) B.m_range (pa_cons (pv 1) pa_nil)) (pg_name (i := 3) sc_law_any_order.nd rfl (.inl rfl))
        (pss_one (ps_expr (pe_bm PySem.F.plainAttrs_list PySem.F.slot_list_insert PySem.F.type_list_insert mt_insert (pv 2) (pa_cons (pe_cal c_law_draw hr (by decide) (by rfl) (pa_cons (pv 0) (pa_cons (pe_op op_add (pv 3) pe_int) pa_nil))) (pa_cons (pv 3) pa_nil))))))
      (pss_one (ps_ret (pe_callTy call_tupS (by rfl) B.m_tuple (by decide +kernel) (pa_cons (pv 2) pa_nil))))))

theorem okr_law_spoilt {P : Program} {w : World} {K : PySem.W.Frag} {mg : Str → Option Value} {base : Heap} {f : Addr} {fd : FuncData} (F : Fun K "_law_spoilt" "_law_spoilt" s_law_spoilt f fd) (B : Bn mg) (hb : Binds K fd ["tape", "item"] []) (hm : mg "_law_spoilt" = some (.ref f)) (c_law_draw : Cal P w K mg base 1 "_law_draw" ["tape", "many"] (sp_law_draw K)) (c_law_any : Cal P w K mg base 7 "_law_any" ["tape", "deep"] (sp_law_any 5 K)) (c_law_whole : Cal P w K mg base 1 "_law_whole" ["item"] (sp_law_whole K)) : ∀ n : Nat, FnOk P w K mg base CX0 (8 + n) f fd ["tape", "item"] (sp_law_spoilt n K)
  | 0 => ⟨fun vs H Q E h => len_spT h, fun A outer s H args us vs Q E hr he hb hv h => by
      obtain ⟨_, _, _, _, _, _, _, _, _, _, hF, _⟩ := h
      exact hF.elim⟩
  | n + 1 => by
    have c_self : Cal P w K mg base (8 + n) "_law_spoilt" ["tape", "item"] (sp_law_spoilt n K) := ⟨_, _, okr_law_spoilt F B hb hm c_law_draw c_law_any c_law_whole n, hm, F.kp, hb⟩
    refine F.ok sc_law_spoilt (fun vs H Q E h => len_spT h) (fun cdv A outer s H vs Q E hr h => ⟨t_law_spoilt (F_law_spoilt n) K, ?_, sem_law_spoilt h⟩)
    exact (pss_cons (ps_if (PW.pt (pw_and (pt_val (pe_callB call_isiT (by rfl) B.m_isinstance (by decide +kernel) (pa_cons (pv 1) (pa_cons (pe_tup (pa_cons (pe_bltn (v := .ty "tuple") (by rfl) B.m_tuple (by decide +kernel) rfl) (pa_cons (pe_bltn (v := .ty "list") (by rfl) B.m_list (by decide +kernel) rfl) pa_nil))) pa_nil)))) (pw_and (pt_cmpR op_gt (pe_callB call_len_seq (by rfl) B.m_len PySem.boot_len (pa_cons (pv 1) pa_nil)) pe_int (nomark _)) (pw_and1 (pt_cmpR op_gt (pe_cal c_law_draw hr (Nat.le_trans (show 1 ≤ 8 by decide) (Nat.le_add_right 8 n)) (by rfl) (pa_cons (pv 0) (pa_cons pe_int pa_nil))) pe_int (nomark _)))))) (pss_cons (ps_set (i := 2) sc_law_spoilt.nd rfl (.inl rfl) (pe_cal c_law_draw hr (Nat.le_trans (show 1 ≤ 8 by decide) (Nat.le_add_right 8 n)) (by rfl) (pa_cons (pv 0) (pa_cons (pe_callB call_len_seq (by rfl) B.m_len PySem.boot_len (pa_cons (pv 1) pa_nil)) pa_nil))))
      (pss_cons (ps_set (i := 3) sc_law_spoilt.nd rfl (.inl rfl) (pe_callTy call_list_of (by rfl) B.m_list (by decide +kernel) (pa_cons (pv 1) pa_nil)))
      (pss_cons (ps_set (i := 4) sc_law_spoilt.nd rfl (.inl rfl) (pe_cal c_law_draw hr (Nat.le_trans (show 1 ≤ 8 by decide) (Nat.le_add_right 8 n)) (by rfl) (pa_cons (pv 0) (pa_cons pe_int pa_nil))))
      (Evl.pss_cut (ps_if (pt_cmpR op_lt (pv 4) pe_int (nomark _)) (pss_one (ps_asg (pe_cal c_self hr (Nat.le_refl _) (by rfl) (pa_cons (pv 0) (pa_cons (pe_ix ix_list (pv 3) (pv 2) (fun _ _ => rfl)) pa_nil))) (pg_sub (pv 3) (pv 2) set_list))) (pss_one (ps_if (pt_cmpR op_eq (pv 4) pe_int (nomark _)) (pss_one (ps_expr (pe_bm PySem.F.plainAttrs_list PySem.F.slot_list_pop PySem.F.type_list_pop mt_popAt (pv 3) (pa_cons (pv 2) pa_nil)))) (pss_one (ps_if (pt_cmpR op_eq (pv 4) pe_int (nomark _)) (pss_one (ps_expr (pe_bm PySem.F.plainAttrs_list PySem.F.slot_list_insert PySem.F.type_list_insert mt_insert (pv 3) (pa_cons (pv 2) (pa_cons (pe_ix ix_list (pv 3) (pe_cal c_law_draw hr (Nat.le_trans (show 1 ≤ 8 by decide) (Nat.le_add_right 8 n)) (by rfl) (pa_cons (pv 0) (pa_cons (pe_callB call_len_seq (by rfl) B.m_len PySem.boot_len (pa_cons (pv 3) pa_nil)) pa_nil))) (fun _ _ => rfl)) pa_nil))))) (pss_one (ps_if (pt_cmpR op_eq (pv 4) pe_int (nomark _)) (pss_one (ps_set (i := 3) sc_law_spoilt.nd rfl (.inl rfl) (pe_revL (pv 3)))) (pss_one (ps_expr (pe_bm PySem.F.plainAttrs_list PySem.F.slot_list_insert PySem.F.type_list_insert mt_insert (pv 3) (pa_cons (pv 2) (pa_cons (pe_cal c_law_any hr (Nat.le_trans (show 7 ≤ 8 by decide) (Nat.le_add_right 8 n)) (by rfl) (pa_cons (pv 0) (pa_cons pe_int pa_nil))) pa_nil))))))))))))
      (pss_one (ps_ret (pe_ifExp (pt_val (pe_callB call_isi (by rfl) B.m_isinstance (by decide +kernel) (pa_cons (pv 1) (pa_cons (pe_bltn (v := .ty "tuple") (by rfl) B.m_tuple (by decide +kernel) rfl) pa_nil)))) (pe_callTy call_tupS (by rfl) B.m_tuple (by decide +kernel) (pa_cons (pv 3) pa_nil)) (pv 3)))))))) pss_nil)
      (pss_cons (ps_if (PW.pt (pw_and (pt_val (pe_cal c_law_whole hr (Nat.le_trans (show 1 ≤ 8 by decide) (Nat.le_add_right 8 n)) (by rfl) (pa_cons (pv 1) pa_nil))) (pw_and1 (pt_cmpR op_gt (pe_cal c_law_draw hr (Nat.le_trans (show 1 ≤ 8 by decide) (Nat.le_add_right 8 n)) (by rfl) (pa_cons (pv 0) (pa_cons pe_int pa_nil))) pe_int (nomark _))))) (pss_one (ps_ret (pe_op op_add (pv 1) (pe_ix ix_list (pe_lst (pa_cons pe_int (pa_cons (pe_un un_neg pe_int) (pa_cons pe_int (pa_cons (pe_un un_neg pe_int) (pa_cons pe_int (pa_cons pe_int pa_nil))))))) (pe_cal c_law_draw hr (Nat.le_trans (show 1 ≤ 8 by decide) (Nat.le_add_right 8 n)) (by rfl) (pa_cons (pv 0) (pa_cons pe_int pa_nil))) (fun _ _ => rfl))))) pss_nil)
      (pss_cons (ps_if (PW.pt (pw_and (pt_val (pe_callB call_isi (by rfl) B.m_isinstance (by decide +kernel) (pa_cons (pv 1) (pa_cons (pe_bltn (v := .ty "str") (by rfl) B.m_str (by decide +kernel) rfl) pa_nil)))) (pw_and1 (pt_cmpR op_gt (pe_cal c_law_draw hr (Nat.le_trans (show 1 ≤ 8 by decide) (Nat.le_add_right 8 n)) (by rfl) (pa_cons (pv 0) (pa_cons pe_int pa_nil))) pe_int (nomark _))))) (pss_cons (ps_set (i := 5) sc_law_spoilt.nd rfl (.inl rfl) (pe_cal c_law_draw hr (Nat.le_trans (show 1 ≤ 8 by decide) (Nat.le_add_right 8 n)) (by rfl) (pa_cons (pv 0) (pa_cons (pe_op op_add (pe_callB call_len_str (by rfl) B.m_len PySem.boot_len (pa_cons (pv 1) pa_nil)) pe_int) pa_nil))))
      (pss_one (ps_ret (pe_op op_add_str (pe_op op_add_str (pe_slice sl_str (pv 1) po_none (po_some (pv 5))) (pe_ix ix_list (pe_lst (pa_cons pe_str (pa_cons pe_str (pa_cons pe_str (pa_cons pe_str (pa_cons pe_str (pa_cons pe_str pa_nil))))))) (pe_cal c_law_draw hr (Nat.le_trans (show 1 ≤ 8 by decide) (Nat.le_add_right 8 n)) (by rfl) (pa_cons (pv 0) (pa_cons pe_int pa_nil))) (fun _ _ => rfl))) (pe_slice sl_str (pv 1) (po_some (pv 5)) po_none))))) pss_nil)
      (pss_cons (ps_if (PW.pt (pw_and (pt_val (pe_callB call_isiT (by rfl) B.m_isinstance (by decide +kernel) (pa_cons (pv 1) (pa_cons (pe_tup (pa_cons (pe_bltn (v := .ty "tuple") (by rfl) B.m_tuple (by decide +kernel) rfl) (pa_cons (pe_bltn (v := .ty "list") (by rfl) B.m_list (by decide +kernel) rfl) pa_nil))) pa_nil)))) (pw_and1 (pt_cmpR op_eq (pe_cal c_law_draw hr (Nat.le_trans (show 1 ≤ 8 by decide) (Nat.le_add_right 8 n)) (by rfl) (pa_cons (pv 0) (pa_cons pe_int pa_nil))) pe_int (nomark _))))) (pss_one (ps_ret (pe_ifExp (pt_val (pe_callB call_isi (by rfl) B.m_isinstance (by decide +kernel) (pa_cons (pv 1) (pa_cons (pe_bltn (v := .ty "tuple") (by rfl) B.m_tuple (by decide +kernel) rfl) pa_nil)))) (pe_callTy call_list_of (by rfl) B.m_list (by decide +kernel) (pa_cons (pv 1) pa_nil)) (pe_callTy call_tupS (by rfl) B.m_tuple (by decide +kernel) (pa_cons (pv 1) pa_nil))))) pss_nil)
      (pss_one (ps_ret (pe_cal c_law_any hr (Nat.le_trans (show 7 ≤ 8 by decide) (Nat.le_add_right 8 n)) (by rfl) (pa_cons (pv 0) (pa_cons pe_int pa_nil)))))))))

theorem ok_law_rises {P : Program} {w : World} {K : PySem.W.Frag} {mg : Str → Option Value} {base : Heap} {f : Addr} {fd : FuncData} (F : Fun K "_law_rises" "_law_rises" s_law_rises f fd) (B : Bn mg)  : FnOk P w K mg base CX0 1 f fd ["some"] (sp_law_rises K) := by
  refine F.ok sc_law_rises (fun vs H Q E h => len_spW h) (fun cdv A outer s H vs Q E hr h => ⟨t_law_rises K, ?_, sem_law_rises h⟩)
  exact (pss_one (ps_ret (pe_cmpR (op_eqD hr.units) (pe_lc (own := [("k", 1)]) (g := (gName 1)) (tt := (tNot (tTest (tOp rLtS (tOp (rIxL K) (tVar 0) (tOp rSubI (tVar 1) (tC (.int 1)))) (tOp (rIxL K) (tVar 0) (tVar 1)))))) rfl sc_law_rises.nd (pi_range2 (by rfl) B.m_range (pa_cons pe_int (pa_cons (pe_callB call_len_seq (by rfl) B.m_len PySem.boot_len (pa_cons (pv 0) pa_nil)) pa_nil))) (blkOk_by (own := [("k", 1)]) (N := N_law_rises) (sc := defScope s_law_rises) (by decide +kernel)) (fun _ _ _ _ _ => (pg_name (i := 1) sc_law_rises.nd rfl (.inl rfl))) (fun _ _ _ _ _ => (pts_one (pt_not (pt_cmpR op_lt_str (pe_ix ix_list (pv 0) (pe_op op_sub (pv 1) pe_int) (fun _ _ => rfl)) (pe_ix ix_list (pv 0) (pv 1) (fun _ _ => rfl)) (nomark _))))) (fun _ _ _ _ _ => (pv 1))) (pe_lst pa_nil) (nomark _))))

theorem ok_law_is_name {P : Program} {w : World} {K : PySem.W.Frag} {mg : Str → Option Value} {base : Heap} {f : Addr} {fd : FuncData} (F : Fun K "_law_is_name" "_law_is_name" s_law_is_name f fd) (B : Bn mg)  : FnOk P w K mg base CX0 1 f fd ["item"] (sp_law_is_name K) := by
  refine F.ok sc_law_is_name (fun vs H Q E h => len_spW h) (fun cdv A outer s H vs Q E hr h => ⟨t_law_is_name K, ?_, sem_law_is_name h⟩)
  exact (pss_cons (ps_if (PW.pt (pw_or (pt_not (pt_val (pe_callB call_isi (by rfl) B.m_isinstance (by decide +kernel) (pa_cons (pv 0) (pa_cons (pe_bltn (v := .ty "str") (by rfl) B.m_str (by decide +kernel) rfl) pa_nil))))) (pw_or1 (pt_not (pt_chain op_lt op_lt pe_int (pe_callB call_len_str (by rfl) B.m_len PySem.boot_len (pa_cons (pv 0) pa_nil)) pe_int))))) (pss_one (ps_ret pe_bl)) pss_nil)
      (pss_one (ps_ret (pe_cmpR (op_eqD hr.units) (pe_lc (own := [("mark", 1)]) (g := (gName 1)) (tt := (tTest (tOp rNotInSg (tVar 1) (tC (.str ("abcdefghijklmnopqrstuvwxyz" : Str)))))) rfl sc_law_is_name.nd (pi_str (pv 0)) (blkOk_by (own := [("mark", 1)]) (N := N_law_is_name) (sc := defScope s_law_is_name) (by decide +kernel)) (fun _ _ _ _ _ => (pg_name (i := 1) sc_law_is_name.nd rfl (.inl rfl))) (fun _ _ _ _ _ => (pts_one (pt_cmpR op_notIn_sign (pv 1) pe_str (by rfl)))) (fun _ _ _ _ _ => (pv 1))) (pe_lst pa_nil) (nomark _)))))

theorem okr_law_any {P : Program} {w : World} {K : PySem.W.Frag} {mg : Str → Option Value} {base : Heap} {f : Addr} {fd : FuncData} (F : Fun K "_law_any" "_law_any" s_law_any f fd) (B : Bn mg) (hb : Binds K fd ["tape", "deep"] []) (hm : mg "_law_any" = some (.ref f)) (c_law_draw : Cal P w K mg base 1 "_law_draw" ["tape", "many"] (sp_law_draw K)) : ∀ n : Nat, FnOk P w K mg base CX0 (2 + n) f fd ["tape", "deep"] (sp_law_any n K)
  | 0 => ⟨fun vs H Q E h => len_spT h, fun A outer s H args us vs Q E hr he hb hv h => by
      obtain ⟨_, _, _, _, _, _, _, _, _, _, hF, _⟩ := h
      exact hF.elim⟩
  | n + 1 => by
    have c_self : Cal P w K mg base (2 + n) "_law_any" ["tape", "deep"] (sp_law_any n K) := ⟨_, _, okr_law_any F B hb hm c_law_draw n, hm, F.kp, hb⟩
    refine F.ok sc_law_any (fun vs H Q E h => len_spT h) (fun cdv A outer s H vs Q E hr h => ⟨t_law_any (F_law_any n) K, ?_, sem_law_any h⟩)
    exact (pss_cons (ps_set (i := 2) sc_law_any.nd rfl (.inl rfl) (pe_cal c_law_draw hr (Nat.le_trans (show 1 ≤ 2 by decide) (Nat.le_add_right 2 n)) (by rfl) (pa_cons (pv 0) (pa_cons pe_int pa_nil))))
      (pss_cons (ps_if (PW.pt (pw_and (pt_cmpR op_lt (pv 2) pe_int (nomark _)) (pw_and1 (pt_cmpR op_gt (pv 1) pe_int (nomark _))))) (pss_cons (ps_setLc (i := 3) (own := [("k", 4)]) (g := (gName 4)) (tt := tYes) rfl sc_law_any.nd rfl rfl (sw_true rfl rfl rfl (by decide +kernel)) (pi_range1 (by rfl) B.m_range (pa_cons (pe_cal c_law_draw hr (Nat.le_trans (show 1 ≤ 2 by decide) (Nat.le_add_right 2 n)) (by rfl) (pa_cons (pv 0) (pa_cons pe_int pa_nil))) pa_nil)) (blkOk_by (own := [("k", 4)]) (N := N_law_any) (sc := defScope s_law_any) (by decide +kernel)) (fun _ _ _ _ _ => (pg_name (i := 4) sc_law_any.nd rfl (.inl rfl))) (fun _ _ _ _ _ => pts_nil) (fun _ _ _ _ _ => (pe_cal c_self hr (Nat.le_refl _) (by rfl) (pa_cons (pv 0) (pa_cons (pe_op op_sub (pv 1) pe_int) pa_nil)))))
      (pss_one (ps_ret (pe_ix ix_list (pe_lst (pa_cons (pv 3) (pa_cons (pe_callTy call_tupS (by rfl) B.m_tuple (by decide +kernel) (pa_cons (pv 3) pa_nil)) (pa_cons (pe_callTy call_tupS (by rfl) B.m_tuple (by decide +kernel) (pa_cons (pv 3) pa_nil)) (pa_cons (pe_callTy call_tupS (by rfl) B.m_tuple (by decide +kernel) (pa_cons (pv 3) pa_nil)) pa_nil))))) (pv 2) (fun _ _ => rfl))))) pss_nil)
      (pss_cons (ps_if (pt_cmpR op_lt (pv 2) pe_int (nomark _)) (pss_one (ps_ret (pe_ix ix_list (pe_lst (pa_cons (pe_op op_sub (pe_cal c_law_draw hr (Nat.le_trans (show 1 ≤ 2 by decide) (Nat.le_add_right 2 n)) (by rfl) (pa_cons (pv 0) (pa_cons pe_int pa_nil))) pe_int) (pa_cons (pe_cal c_law_draw hr (Nat.le_trans (show 1 ≤ 2 by decide) (Nat.le_add_right 2 n)) (by rfl) (pa_cons (pv 0) (pa_cons (pe_op op_pow pe_int pe_int) pa_nil))) (pa_cons pe_int (pa_cons pe_int pa_nil))))) (pe_callB (call_max2 rfl) (by rfl) B.m_max (by decide +kernel) (pa_cons pe_int (pa_cons (pe_op op_sub (pv 2) pe_int) pa_nil))) (fun _ _ => rfl)))) pss_nil)
      (pss_cons (ps_set (i := 3) sc_law_any.nd rfl (.inl rfl) (pe_lst (pa_cons pe_str (pa_cons pe_str (pa_cons pe_str (pa_cons pe_str (pa_cons pe_str (pa_cons pe_str (pa_cons pe_str pa_nil)))))))))
      (pss_one (ps_ret (pe_ix ix_list (pe_lst (pa_cons pe_bl (pa_cons pe_bl (pa_cons pe_non (pa_cons (pe_ix ix_list (pv 3) (pe_cal c_law_draw hr (Nat.le_trans (show 1 ≤ 2 by decide) (Nat.le_add_right 2 n)) (by rfl) (pa_cons (pv 0) (pa_cons pe_int pa_nil))) (fun _ _ => rfl)) (pa_cons (pe_tupS (pa_cons pe_int (pa_cons pe_int pa_nil))) pa_nil)))))) (pe_op op_sub (pv 2) pe_int) (fun _ _ => rfl))))))))

theorem ok_law_books {P : Program} {w : World} {K : PySem.W.Frag} {mg : Str → Option Value} {base : Heap} {f : Addr} {fd : FuncData} (F : Fun K "_law_books" "_law_books" s_law_books f fd) (B : Bn mg)  : FnOk P w K mg base CX0 1 f fd [] (sp_law_books K) := by
  refine F.ok sc_law_books (fun vs H Q E h => len_spW h) (fun cdv A outer s H vs Q E hr h => ⟨t_law_books K, ?_, sem_law_books h⟩)
  exact (pss_one (ps_ret (pe_lst (pa_cons pe_str (pa_cons pe_str (pa_cons pe_str (pa_cons pe_str (pa_cons pe_str (pa_cons pe_str (pa_cons pe_str pa_nil))))))))))

theorem ok_law_pile {P : Program} {w : World} {K : PySem.W.Frag} {mg : Str → Option Value} {base : Heap} {f : Addr} {fd : FuncData} (F : Fun K "_law_pile" "_law_pile" s_law_pile f fd) (B : Bn mg) (c_law_books : Cal P w K mg base 1 "_law_books" [] (sp_law_books K)) (c_law_draw : Cal P w K mg base 1 "_law_draw" ["tape", "many"] (sp_law_draw K)) (c_law_any_order : Cal P w K mg base 2 "_law_any_order" ["tape", "many"] (sp_law_any_order K)) : FnOk P w K mg base CX0 3 f fd ["tape", "size"] (sp_law_pile K) := by
  refine F.ok sc_law_pile (fun vs H Q E h => len_spT h) (fun cdv A outer s H vs Q E hr h => ⟨t_law_pile K, ?_, sem_law_pile h⟩)
  exact (pss_cons (ps_set (i := 2) sc_law_pile.nd rfl (.inr rfl) (pe_slice sl_list (pe_cal0 c_law_books hr (by decide) (by rfl)) po_none (po_some (pe_op op_add pe_int (pe_cal c_law_draw hr (by decide) (by rfl) (pa_cons (pv 0) (pa_cons (pv 1) pa_nil)))))))
      (pss_one (ps_ret (pe_callTy call_tupS (by rfl) B.m_tuple (by decide +kernel) (pa_cons (pe_lc (own := [("at", 3)]) (g := (gName 3)) (tt := tYes) rfl sc_law_pile.nd (pi_tup (pe_cal c_law_any_order hr (by decide) (by rfl) (pa_cons (pv 0) (pa_cons (pe_callB call_len_seq (by rfl) B.m_len PySem.boot_len (pa_cons (pv 2) pa_nil)) pa_nil)))) (blkOk_by (own := [("at", 3)]) (N := N_law_pile) (sc := defScope s_law_pile) (by decide +kernel)) (fun _ _ _ _ _ => (pg_name (i := 3) sc_law_pile.nd rfl (.inl rfl))) (fun _ _ _ _ _ => pts_nil) (fun _ _ _ _ _ => (pe_ix ix_list (pv 2) (pv 3) (fun _ _ => rfl)))) pa_nil)))))

theorem ok_law_wants {P : Program} {w : World} {K : PySem.W.Frag} {mg : Str → Option Value} {base : Heap} {f : Addr} {fd : FuncData} (F : Fun K "_law_wants" "_law_wants" s_law_wants f fd) (B : Bn mg) (c_law_books : Cal P w K mg base 1 "_law_books" [] (sp_law_books K)) (c_law_draw : Cal P w K mg base 1 "_law_draw" ["tape", "many"] (sp_law_draw K)) : FnOk P w K mg base CX0 2 f fd ["tape", "books", "readers"] (sp_law_wants K) := by
  refine F.ok sc_law_wants (fun vs H Q E h => len_spT h) (fun cdv A outer s H vs Q E hr h => ⟨t_law_wants K, ?_, sem_law_wants h⟩)
  exact (pss_cons (ps_par (i := 3) (j := 4) (by rfl) sc_law_wants.nd rfl rfl (by decide) rfl rfl (pa_cons (pe_lst pa_nil) (pa_cons (pv 2) pa_nil)) (by rfl))
      (pss_cons (ps_for PassesOwn.never rfl (pi_enum (by rfl) B.m_enumerate (pa_cons (pe_slice sl_list (pe_cal0 c_law_books hr (by decide) (by rfl)) po_none (po_some (pv 1))) pa_nil)) (pg_tup rfl (pgs_cons (pg_name (i := 5) sc_law_wants.nd rfl (.inl rfl)) (pgs_cons (pg_name (i := 6) sc_law_wants.nd rfl (.inl rfl)) pgs_nil)))
        (pss_cons (ps_set (i := 7) sc_law_wants.nd rfl (.inl rfl) (pe_op op_add pe_int (pe_cal c_law_draw hr (by decide) (by rfl) (pa_cons (pv 0) (pa_cons pe_int pa_nil)))))
      (pss_one (ps_if (PW.pt (pw_and (pt_cmpR op_gt (pv 4) pe_int (nomark _)) (pw_and1 (PW.pt (pw_or (pt_cmpR op_gt (pe_cal c_law_draw hr (by decide) (by rfl) (pa_cons (pv 0) (pa_cons pe_int pa_nil))) pe_int (nomark _)) (pw_or1 (pt_cmpR op_eq (pv 5) pe_int (nomark _)))))))) (pss_cons (ps_expr (pe_bm PySem.F.plainAttrs_list PySem.F.slot_list_append PySem.F.type_list_append mt_append (pv 3) (pa_cons (pe_tupS (pa_cons (pv 6) (pa_cons (pe_callB (call_min2 rfl) (by rfl) B.m_min (by decide +kernel) (pa_cons (pv 7) (pa_cons (pv 4) pa_nil))) pa_nil))) pa_nil)))
      (pss_one (ps_set (i := 4) sc_law_wants.nd rfl (.inl rfl) (pe_op op_sub (pv 4) (pe_ix ix_tup (pe_ix ix_list (pv 3) (pe_un un_neg pe_int) (fun _ _ => rfl)) pe_int (fun _ _ => rfl)))))) pss_nil))))
      (pss_one (ps_ret (pe_callTy call_tupS (by rfl) B.m_tuple (by decide +kernel) (pa_cons (pv 3) pa_nil))))))

theorem ok_law_is_pile {P : Program} {w : World} {K : PySem.W.Frag} {mg : Str → Option Value} {base : Heap} {f : Addr} {fd : FuncData} (F : Fun K "_law_is_pile" "_law_is_pile" s_law_is_pile f fd) (B : Bn mg) (c_law_is_name : Cal P w K mg base 1 "_law_is_name" ["item"] (sp_law_is_name K)) : FnOk P w K mg base CX0 2 f fd ["item"] (sp_law_is_pile K) := by
  refine F.ok sc_law_is_pile (fun vs H Q E h => len_spW h) (fun cdv A outer s H vs Q E hr h => ⟨t_law_is_pile K, ?_, sem_law_is_pile h⟩)
  exact (pss_cons (ps_if (PW.pt (pw_or (pt_not (pt_val (pe_callB call_isi (by rfl) B.m_isinstance (by decide +kernel) (pa_cons (pv 0) (pa_cons (pe_bltn (v := .ty "tuple") (by rfl) B.m_tuple (by decide +kernel) rfl) pa_nil))))) (pw_or1 (pt_not (pt_chain op_le op_le pe_int (pe_callB call_len_seq (by rfl) B.m_len PySem.boot_len (pa_cons (pv 0) pa_nil)) pe_int))))) (pss_one (ps_ret pe_bl)) pss_nil)
      (pss_one (ps_ret (pe_and (pe_cmpR (op_eqD hr.units) (pe_lc (own := [("book", 1)]) (g := (gName 1)) (tt := (tNot (tB (tCall (sp_law_is_name K) [] E0 (tCons (tVar 1) tNil))))) rfl sc_law_is_pile.nd (pi_tup (pv 0)) (blkOk_by (own := [("book", 1)]) (N := N_law_is_pile) (sc := defScope s_law_is_pile) (by decide +kernel)) (fun _ _ _ _ _ => (pg_name (i := 1) sc_law_is_pile.nd rfl (.inl rfl))) (fun _ _ _ _ _ => (pts_one (pt_not (pt_val (pe_cal c_law_is_name hr (by decide) (by rfl) (pa_cons (pv 1) pa_nil)))))) (fun _ _ _ _ _ => pe_int)) (pe_lst pa_nil) (nomark _)) (pe_one (pe_cmpR op_eq (pe_lenSetS rfl (by rfl) B.m_len (by rfl) B.m_set (pv 0)) (pe_callB call_len_seq (by rfl) B.m_len PySem.boot_len (pa_cons (pv 0) pa_nil)) (nomark _)))))))

theorem ok_law_are_wants {P : Program} {w : World} {K : PySem.W.Frag} {mg : Str → Option Value} {base : Heap} {f : Addr} {fd : FuncData} (F : Fun K "_law_are_wants" "_law_are_wants" s_law_are_wants f fd) (B : Bn mg) (c_law_is_name : Cal P w K mg base 1 "_law_is_name" ["item"] (sp_law_is_name K)) (c_law_within : Cal P w K mg base 2 "_law_within" ["item", "low", "high"] (sp_law_within K)) (c_law_rises : Cal P w K mg base 1 "_law_rises" ["some"] (sp_law_rises K)) : FnOk P w K mg base CX0 3 f fd ["item"] (sp_law_are_wants K) := by
  refine F.ok sc_law_are_wants (fun vs H Q E h => len_spW h) (fun cdv A outer s H vs Q E hr h => ⟨t_law_are_wants K, ?_, sem_law_are_wants h⟩)
  exact (pss_cons (ps_if (PW.pt (pw_or (pt_not (pt_val (pe_callB call_isi (by rfl) B.m_isinstance (by decide +kernel) (pa_cons (pv 0) (pa_cons (pe_bltn (v := .ty "tuple") (by rfl) B.m_tuple (by decide +kernel) rfl) pa_nil))))) (pw_or1 (pt_not (pt_chain op_le op_le pe_int (pe_callB call_len_seq (by rfl) B.m_len PySem.boot_len (pa_cons (pv 0) pa_nil)) pe_int))))) (pss_one (ps_ret pe_bl)) pss_nil)
      (pss_cons (ps_for PassesOwn.never rfl (pi_tup (pv 0)) (pg_name (i := 1) sc_law_are_wants.nd rfl (.inl rfl))
        (pss_one (ps_if (PW.pt (pw_or (pt_not (pt_val (pe_callB call_isi (by rfl) B.m_isinstance (by decide +kernel) (pa_cons (pv 1) (pa_cons (pe_bltn (v := .ty "tuple") (by rfl) B.m_tuple (by decide +kernel) rfl) pa_nil))))) (pw_or (pt_cmpR op_ne (pe_callB call_len_seq (by rfl) B.m_len PySem.boot_len (pa_cons (pv 1) pa_nil)) pe_int (nomark _)) (pw_or (pt_not (pt_val (pe_cal c_law_is_name hr (by decide) (by rfl) (pa_cons (pe_ix ix_seq (pv 1) pe_int (fun _ _ => rfl)) pa_nil)))) (pw_or1 (pt_not (pt_val (pe_cal c_law_within hr (by decide) (by rfl) (pa_cons (pe_ix ix_seq (pv 1) pe_int (fun _ _ => rfl)) (pa_cons pe_int (pa_cons pe_int pa_nil))))))))))) (pss_one (ps_ret pe_bl)) pss_nil)))
      (pss_one (ps_ret (pe_and (pe_cal c_law_rises hr (by decide) (by rfl) (pa_cons (pe_lc (own := [("one", 1)]) (g := (gName 1)) (tt := tYes) rfl sc_law_are_wants.nd (pi_tup (pv 0)) (blkOk_by (own := [("one", 1)]) (N := N_law_are_wants) (sc := defScope s_law_are_wants) (by decide +kernel)) (fun _ _ _ _ _ => (pg_name (i := 1) sc_law_are_wants.nd rfl (.inl rfl))) (fun _ _ _ _ _ => pts_nil) (fun _ _ _ _ _ => (pe_ix ix_seq (pv 1) pe_int (fun _ _ => rfl)))) pa_nil)) (pe_one (pe_cmpR op_le (pe_callB (cr_sum rfl) (by rfl) B.m_sum (by decide +kernel) (pa_cons (pe_lc (own := [("one", 1)]) (g := (gName 1)) (tt := tYes) rfl sc_law_are_wants.nd (pi_tup (pv 0)) (blkOk_by (own := [("one", 1)]) (N := N_law_are_wants) (sc := defScope s_law_are_wants) (by decide +kernel)) (fun _ _ _ _ _ => (pg_name (i := 1) sc_law_are_wants.nd rfl (.inl rfl))) (fun _ _ _ _ _ => pts_nil) (fun _ _ _ _ _ => (pe_ix ix_seq (pv 1) pe_int (fun _ _ => rfl)))) pa_nil)) pe_int (nomark _))))))))

theorem ok_law {P : Program} {w : World} {K : PySem.W.Frag} {mg : Str → Option Value} {base : Heap} {f : Addr} {fd : FuncData} (F : Fun K "law" "law" s_law f fd) (B : Bn mg) (c_law_pile : Cal P w K mg base 3 "_law_pile" ["tape", "size"] (sp_law_pile K)) (c_law_wants : Cal P w K mg base 2 "_law_wants" ["tape", "books", "readers"] (sp_law_wants K)) (c_law_books : Cal P w K mg base 1 "_law_books" [] (sp_law_books K)) (c_law_spoilt : Cal P w K mg base 15 "_law_spoilt" ["tape", "item"] (sp_law_spoilt 7 K)) (c_law_any : Cal P w K mg base 7 "_law_any" ["tape", "deep"] (sp_law_any 5 K)) (c_law_like : Cal P w K mg base 7 "_law_like" ["one", "two"] (sp_law_like 6 K)) (c_law_is_pile : Cal P w K mg base 2 "_law_is_pile" ["item"] (sp_law_is_pile K)) (c_is_pile : Cal P w K mg base 2 "is_pile" ["thing"] (sp_is_pile K)) (c_law_are_wants : Cal P w K mg base 3 "_law_are_wants" ["item"] (sp_law_are_wants K)) (c_are_wants : Cal P w K mg base 3 "are_wants" ["thing"] (sp_are_wants K)) : FnOk P w K mg base CX0 16 f fd ["script"] (sp_law K) := by
  refine F.ok sc_law (fun vs H Q E h => len_law h) (fun cdv A outer s H vs Q E hr h => ⟨t_law K, ?_, sem_law h⟩)
  exact (pss_cons (ps_set (i := 1) sc_law.nd rfl (.inl rfl) (pe_lst (pa_cons (pe_callTy call_list_of (by rfl) B.m_list (by decide +kernel) (pa_cons (pv 0) pa_nil)) (pa_cons pe_int (pa_cons pe_int pa_nil)))))
      (pss_cons (ps_for PassesOwn.never rfl (pi_range1 (by rfl) B.m_range (pa_cons pe_int pa_nil)) (pg_name (i := 2) sc_law.nd rfl (.inl rfl))
        (pss_cons (ps_par (i := 3) (j := 4) (by rfl) sc_law.nd rfl rfl (by decide) rfl rfl (pa_cons (pe_cal c_law_pile hr (by decide) (by rfl) (pa_cons (pv 1) (pa_cons pe_int pa_nil))) (pa_cons (pe_cal c_law_wants hr (by decide) (by rfl) (pa_cons (pv 1) (pa_cons pe_int (pa_cons pe_int pa_nil)))) pa_nil)) (by rfl))
      (pss_cons (ps_set (i := 5) sc_law.nd rfl (.inl rfl) (pe_lst (pa_cons (pv 3) (pa_cons (pe_callTy call_list_of (by rfl) B.m_list (by decide +kernel) (pa_cons (pv 3) pa_nil)) (pa_cons (pe_op op_catS (pv 3) (pe_slice sl_tupS (pv 3) po_none (po_some pe_int))) (pa_cons (pe_revT (pv 3)) (pa_cons (pe_tupS pa_nil) (pa_cons (pe_callTy call_tupS (by rfl) B.m_tuple (by decide +kernel) (pa_cons (pe_cal0 c_law_books hr (by decide) (by rfl)) pa_nil)) (pa_cons (pe_op op_catS (pe_callTy call_tupS (by rfl) B.m_tuple (by decide +kernel) (pa_cons (pe_cal0 c_law_books hr (by decide) (by rfl)) pa_nil)) (pe_tupS (pa_cons pe_str pa_nil))) pa_nil)))))))))
      (pss_cons (ps_set (i := 5) sc_law.nd rfl (.inl rfl) (pe_op op_cat (pv 5) (pe_lst (pa_cons (pv 4) (pa_cons (pe_revT (pv 4)) (pa_cons (pe_callTy call_list_of (by rfl) B.m_list (by decide +kernel) (pa_cons (pv 4) pa_nil)) (pa_cons (pe_op op_catS (pv 4) (pe_slice sl_tupS (pv 4) po_none (po_some pe_int))) (pa_cons (pe_tupS (pa_cons (pe_tupS (pa_cons pe_str (pa_cons pe_int pa_nil))) (pa_cons (pe_tupS (pa_cons pe_str (pa_cons pe_int pa_nil))) pa_nil))) pa_nil))))))))
      (pss_cons (ps_expr (pe_bm PySem.F.plainAttrs_list PySem.F.slot_list_append PySem.F.type_list_append mt_append (pv 5) (pa_cons (pe_tupS (pa_cons (pe_tupS (pa_cons pe_str (pa_cons pe_int pa_nil))) (pa_cons (pe_tupS (pa_cons pe_str (pa_cons pe_int pa_nil))) pa_nil))) pa_nil)))
      (pss_cons (ps_set (i := 5) sc_law.nd rfl (.inl rfl) (pe_op op_cat (pv 5) (pe_lst (pa_cons (pe_tupS (pa_cons (pe_tupS (pa_cons pe_str (pa_cons pe_int pa_nil))) pa_nil)) (pa_cons (pe_tupS (pa_cons (pe_tupS (pa_cons pe_str (pa_cons pe_int pa_nil))) pa_nil)) (pa_cons (pe_tupS (pa_cons (pe_tupS (pa_cons pe_str (pa_cons pe_bl pa_nil))) pa_nil)) (pa_cons (pe_tupS (pa_cons (pe_tupS (pa_cons pe_str (pa_cons pe_int pa_nil))) (pa_cons (pe_tupS (pa_cons pe_str pa_nil)) pa_nil))) (pa_cons (pe_tupS (pa_cons pe_str (pa_cons pe_str pa_nil))) pa_nil))))))))
      (pss_cons (ps_expr (pe_bm PySem.F.plainAttrs_list PySem.F.slot_list_append PySem.F.type_list_append mt_append (pv 5) (pa_cons (pe_callTy call_tupS (by rfl) B.m_tuple (by decide +kernel) (pa_cons (pe_lc (own := [("book", 8)]) (g := (gName 8)) (tt := tYes) rfl sc_law.nd (pi_list (pe_slice sl_list (pe_cal0 c_law_books hr (by decide) (by rfl)) po_none (po_some pe_int))) (blkOk_by (own := [("book", 8)]) (N := N_law) (sc := defScope s_law) (by decide +kernel)) (fun _ _ _ _ _ => (pg_name (i := 8) sc_law.nd rfl (.inl rfl))) (fun _ _ _ _ _ => pts_nil) (fun _ _ _ _ _ => (pe_tupS (pa_cons (pv 8) (pa_cons pe_int pa_nil))))) pa_nil)) pa_nil)))
      (pss_cons (ps_for PassesOwn.never rfl (pi_range1 (by rfl) B.m_range (pa_cons pe_int pa_nil)) (pg_name (i := 6) sc_law.nd rfl (.inl rfl))
        (pss_cons (ps_expr (pe_bm PySem.F.plainAttrs_list PySem.F.slot_list_append PySem.F.type_list_append mt_append (pv 5) (pa_cons (pe_cal c_law_spoilt hr (by decide) (by rfl) (pa_cons (pv 1) (pa_cons (pv 3) pa_nil))) pa_nil)))
      (pss_cons (ps_expr (pe_bm PySem.F.plainAttrs_list PySem.F.slot_list_append PySem.F.type_list_append mt_append (pv 5) (pa_cons (pe_cal c_law_spoilt hr (by decide) (by rfl) (pa_cons (pv 1) (pa_cons (pv 4) pa_nil))) pa_nil)))
      (pss_one (ps_expr (pe_bm PySem.F.plainAttrs_list PySem.F.slot_list_append PySem.F.type_list_append mt_append (pv 5) (pa_cons (pe_cal c_law_spoilt hr (by decide) (by rfl) (pa_cons (pv 1) (pa_cons (pe_ix ix_list (pv 5) (pe_un un_neg pe_int) (fun _ _ => rfl)) pa_nil))) pa_nil)))))))
      (pss_one (ps_for PassesOwn.never rfl (pi_list (pe_op op_cat (pv 5) (pe_lst (pa_cons (pe_cal c_law_any hr (by decide) (by rfl) (pa_cons (pv 1) (pa_cons pe_int pa_nil))) pa_nil)))) (pg_name (i := 7) sc_law.nd rfl (.inl rfl))
        (pss_cons (ps_if (pt_not (pt_val (pe_cal c_law_like hr (by decide) (by rfl) (pa_cons (pe_cal c_is_pile hr (by decide) (by rfl) (pa_cons (pv 7) pa_nil)) (pa_cons (pe_cal c_law_is_pile hr (by decide) (by rfl) (pa_cons (pv 7) pa_nil)) pa_nil))))) (pss_one (ps_ret pe_bl)) pss_nil)
      (pss_one (ps_if (pt_not (pt_val (pe_cal c_law_like hr (by decide) (by rfl) (pa_cons (pe_cal c_are_wants hr (by decide) (by rfl) (pa_cons (pv 7) pa_nil)) (pa_cons (pe_cal c_law_are_wants hr (by decide) (by rfl) (pa_cons (pv 7) pa_nil)) pa_nil))))) (pss_one (ps_ret pe_bl)) pss_nil)))))))))))))
      (pss_one (ps_ret pe_bl))))
theorem all_mk {l : PySem.W.OpenLaw} {w : World} {K : PySem.W.Frag} {h : Heap} {mg : Str → Option Value} {fa : Addr} (X : K.In h) (G : h.Ns mainGlobals mg) (hfa : mg "law" = some (.ref fa))
    {f0 : Addr} {od0 an0 : Option Addr} {sl0 : Array (Option Value)} {oc0 kV0 dc0 pm0 cd0 ct0 : Value}
    (a0 : PySem.W.nsIn K mainGlobals "is_within" = some (some (.ref f0))) (l0 : K.lookup f0 = some ⟨oc0, od0, .func (PySem.W.fnOf "is_within" "is_within" (defArgs s_is_within) (defBody s_is_within) (defScope s_is_within) .none kV0 dc0 pm0 an0 cd0 ct0), sl0⟩) (h0 : PySem.W.codeIn K cd0 "is_within" = true) (k0 : PySem.W.keepIn K (.ref f0) = true)
    {f1 : Addr} {od1 an1 : Option Addr} {sl1 : Array (Option Value)} {oc1 kV1 dc1 pm1 cd1 ct1 : Value}
    (a1 : PySem.W.nsIn K mainGlobals "is_name" = some (some (.ref f1))) (l1 : K.lookup f1 = some ⟨oc1, od1, .func (PySem.W.fnOf "is_name" "is_name" (defArgs s_is_name) (defBody s_is_name) (defScope s_is_name) .none kV1 dc1 pm1 an1 cd1 ct1), sl1⟩) (h1 : PySem.W.codeIn K cd1 "is_name" = true) (k1 : PySem.W.keepIn K (.ref f1) = true)
    {f2 : Addr} {od2 an2 : Option Addr} {sl2 : Array (Option Value)} {oc2 kV2 dc2 pm2 cd2 ct2 : Value}
    (a2 : PySem.W.nsIn K mainGlobals "is_pile" = some (some (.ref f2))) (l2 : K.lookup f2 = some ⟨oc2, od2, .func (PySem.W.fnOf "is_pile" "is_pile" (defArgs s_is_pile) (defBody s_is_pile) (defScope s_is_pile) .none kV2 dc2 pm2 an2 cd2 ct2), sl2⟩) (h2 : PySem.W.codeIn K cd2 "is_pile" = true) (k2 : PySem.W.keepIn K (.ref f2) = true)
    {f3 : Addr} {od3 an3 : Option Addr} {sl3 : Array (Option Value)} {oc3 kV3 dc3 pm3 cd3 ct3 : Value}
    (a3 : PySem.W.nsIn K mainGlobals "is_want" = some (some (.ref f3))) (l3 : K.lookup f3 = some ⟨oc3, od3, .func (PySem.W.fnOf "is_want" "is_want" (defArgs s_is_want) (defBody s_is_want) (defScope s_is_want) .none kV3 dc3 pm3 an3 cd3 ct3), sl3⟩) (h3 : PySem.W.codeIn K cd3 "is_want" = true) (k3 : PySem.W.keepIn K (.ref f3) = true)
    {f4 : Addr} {od4 an4 : Option Addr} {sl4 : Array (Option Value)} {oc4 kV4 dc4 pm4 cd4 ct4 : Value}
    (a4 : PySem.W.nsIn K mainGlobals "are_wants" = some (some (.ref f4))) (l4 : K.lookup f4 = some ⟨oc4, od4, .func (PySem.W.fnOf "are_wants" "are_wants" (defArgs s_are_wants) (defBody s_are_wants) (defScope s_are_wants) .none kV4 dc4 pm4 an4 cd4 ct4), sl4⟩) (h4 : PySem.W.codeIn K cd4 "are_wants" = true) (k4 : PySem.W.keepIn K (.ref f4) = true)
    {f5 : Addr} {od5 an5 : Option Addr} {sl5 : Array (Option Value)} {oc5 kV5 dc5 pm5 cd5 ct5 : Value}
    (a5 : PySem.W.nsIn K mainGlobals "_law_draw" = some (some (.ref f5))) (l5 : K.lookup f5 = some ⟨oc5, od5, .func (PySem.W.fnOf "_law_draw" "_law_draw" (defArgs s_law_draw) (defBody s_law_draw) (defScope s_law_draw) .none kV5 dc5 pm5 an5 cd5 ct5), sl5⟩) (h5 : PySem.W.codeIn K cd5 "_law_draw" = true) (k5 : PySem.W.keepIn K (.ref f5) = true)
    {f6 : Addr} {od6 an6 : Option Addr} {sl6 : Array (Option Value)} {oc6 kV6 dc6 pm6 cd6 ct6 : Value}
    (a6 : PySem.W.nsIn K mainGlobals "_law_whole" = some (some (.ref f6))) (l6 : K.lookup f6 = some ⟨oc6, od6, .func (PySem.W.fnOf "_law_whole" "_law_whole" (defArgs s_law_whole) (defBody s_law_whole) (defScope s_law_whole) .none kV6 dc6 pm6 an6 cd6 ct6), sl6⟩) (h6 : PySem.W.codeIn K cd6 "_law_whole" = true) (k6 : PySem.W.keepIn K (.ref f6) = true)
    {f7 : Addr} {od7 an7 : Option Addr} {sl7 : Array (Option Value)} {oc7 kV7 dc7 pm7 cd7 ct7 : Value}
    (a7 : PySem.W.nsIn K mainGlobals "_law_within" = some (some (.ref f7))) (l7 : K.lookup f7 = some ⟨oc7, od7, .func (PySem.W.fnOf "_law_within" "_law_within" (defArgs s_law_within) (defBody s_law_within) (defScope s_law_within) .none kV7 dc7 pm7 an7 cd7 ct7), sl7⟩) (h7 : PySem.W.codeIn K cd7 "_law_within" = true) (k7 : PySem.W.keepIn K (.ref f7) = true)
    {f8 : Addr} {od8 an8 : Option Addr} {sl8 : Array (Option Value)} {oc8 kV8 dc8 pm8 cd8 ct8 : Value}
    (a8 : PySem.W.nsIn K mainGlobals "_law_like" = some (some (.ref f8))) (l8 : K.lookup f8 = some ⟨oc8, od8, .func (PySem.W.fnOf "_law_like" "_law_like" (defArgs s_law_like) (defBody s_law_like) (defScope s_law_like) .none kV8 dc8 pm8 an8 cd8 ct8), sl8⟩) (h8 : PySem.W.codeIn K cd8 "_law_like" = true) (k8 : PySem.W.keepIn K (.ref f8) = true)
    {f9 : Addr} {od9 an9 : Option Addr} {sl9 : Array (Option Value)} {oc9 kV9 dc9 pm9 cd9 ct9 : Value}
    (a9 : PySem.W.nsIn K mainGlobals "_law_any_order" = some (some (.ref f9))) (l9 : K.lookup f9 = some ⟨oc9, od9, .func (PySem.W.fnOf "_law_any_order" "_law_any_order" (defArgs s_law_any_order) (defBody s_law_any_order) (defScope s_law_any_order) .none kV9 dc9 pm9 an9 cd9 ct9), sl9⟩) (h9 : PySem.W.codeIn K cd9 "_law_any_order" = true) (k9 : PySem.W.keepIn K (.ref f9) = true)
    {f10 : Addr} {od10 an10 : Option Addr} {sl10 : Array (Option Value)} {oc10 kV10 dc10 pm10 cd10 ct10 : Value}
    (a10 : PySem.W.nsIn K mainGlobals "_law_spoilt" = some (some (.ref f10))) (l10 : K.lookup f10 = some ⟨oc10, od10, .func (PySem.W.fnOf "_law_spoilt" "_law_spoilt" (defArgs s_law_spoilt) (defBody s_law_spoilt) (defScope s_law_spoilt) .none kV10 dc10 pm10 an10 cd10 ct10), sl10⟩) (h10 : PySem.W.codeIn K cd10 "_law_spoilt" = true) (k10 : PySem.W.keepIn K (.ref f10) = true)
    {f11 : Addr} {od11 an11 : Option Addr} {sl11 : Array (Option Value)} {oc11 kV11 dc11 pm11 cd11 ct11 : Value}
    (a11 : PySem.W.nsIn K mainGlobals "_law_rises" = some (some (.ref f11))) (l11 : K.lookup f11 = some ⟨oc11, od11, .func (PySem.W.fnOf "_law_rises" "_law_rises" (defArgs s_law_rises) (defBody s_law_rises) (defScope s_law_rises) .none kV11 dc11 pm11 an11 cd11 ct11), sl11⟩) (h11 : PySem.W.codeIn K cd11 "_law_rises" = true) (k11 : PySem.W.keepIn K (.ref f11) = true)
    {f12 : Addr} {od12 an12 : Option Addr} {sl12 : Array (Option Value)} {oc12 kV12 dc12 pm12 cd12 ct12 : Value}
    (a12 : PySem.W.nsIn K mainGlobals "_law_is_name" = some (some (.ref f12))) (l12 : K.lookup f12 = some ⟨oc12, od12, .func (PySem.W.fnOf "_law_is_name" "_law_is_name" (defArgs s_law_is_name) (defBody s_law_is_name) (defScope s_law_is_name) .none kV12 dc12 pm12 an12 cd12 ct12), sl12⟩) (h12 : PySem.W.codeIn K cd12 "_law_is_name" = true) (k12 : PySem.W.keepIn K (.ref f12) = true)
    {f13 : Addr} {od13 an13 : Option Addr} {sl13 : Array (Option Value)} {oc13 kV13 dc13 pm13 cd13 ct13 : Value}
    (a13 : PySem.W.nsIn K mainGlobals "_law_any" = some (some (.ref f13))) (l13 : K.lookup f13 = some ⟨oc13, od13, .func (PySem.W.fnOf "_law_any" "_law_any" (defArgs s_law_any) (defBody s_law_any) (defScope s_law_any) .none kV13 dc13 pm13 an13 cd13 ct13), sl13⟩) (h13 : PySem.W.codeIn K cd13 "_law_any" = true) (k13 : PySem.W.keepIn K (.ref f13) = true)
    {f14 : Addr} {od14 an14 : Option Addr} {sl14 : Array (Option Value)} {oc14 kV14 dc14 pm14 cd14 ct14 : Value}
    (a14 : PySem.W.nsIn K mainGlobals "_law_books" = some (some (.ref f14))) (l14 : K.lookup f14 = some ⟨oc14, od14, .func (PySem.W.fnOf "_law_books" "_law_books" (defArgs s_law_books) (defBody s_law_books) (defScope s_law_books) .none kV14 dc14 pm14 an14 cd14 ct14), sl14⟩) (h14 : PySem.W.codeIn K cd14 "_law_books" = true) (k14 : PySem.W.keepIn K (.ref f14) = true)
    {f15 : Addr} {od15 an15 : Option Addr} {sl15 : Array (Option Value)} {oc15 kV15 dc15 pm15 cd15 ct15 : Value}
    (a15 : PySem.W.nsIn K mainGlobals "_law_pile" = some (some (.ref f15))) (l15 : K.lookup f15 = some ⟨oc15, od15, .func (PySem.W.fnOf "_law_pile" "_law_pile" (defArgs s_law_pile) (defBody s_law_pile) (defScope s_law_pile) .none kV15 dc15 pm15 an15 cd15 ct15), sl15⟩) (h15 : PySem.W.codeIn K cd15 "_law_pile" = true) (k15 : PySem.W.keepIn K (.ref f15) = true)
    {f16 : Addr} {od16 an16 : Option Addr} {sl16 : Array (Option Value)} {oc16 kV16 dc16 pm16 cd16 ct16 : Value}
    (a16 : PySem.W.nsIn K mainGlobals "_law_wants" = some (some (.ref f16))) (l16 : K.lookup f16 = some ⟨oc16, od16, .func (PySem.W.fnOf "_law_wants" "_law_wants" (defArgs s_law_wants) (defBody s_law_wants) (defScope s_law_wants) .none kV16 dc16 pm16 an16 cd16 ct16), sl16⟩) (h16 : PySem.W.codeIn K cd16 "_law_wants" = true) (k16 : PySem.W.keepIn K (.ref f16) = true)
    {f17 : Addr} {od17 an17 : Option Addr} {sl17 : Array (Option Value)} {oc17 kV17 dc17 pm17 cd17 ct17 : Value}
    (a17 : PySem.W.nsIn K mainGlobals "_law_is_pile" = some (some (.ref f17))) (l17 : K.lookup f17 = some ⟨oc17, od17, .func (PySem.W.fnOf "_law_is_pile" "_law_is_pile" (defArgs s_law_is_pile) (defBody s_law_is_pile) (defScope s_law_is_pile) .none kV17 dc17 pm17 an17 cd17 ct17), sl17⟩) (h17 : PySem.W.codeIn K cd17 "_law_is_pile" = true) (k17 : PySem.W.keepIn K (.ref f17) = true)
    {f18 : Addr} {od18 an18 : Option Addr} {sl18 : Array (Option Value)} {oc18 kV18 dc18 pm18 cd18 ct18 : Value}
    (a18 : PySem.W.nsIn K mainGlobals "_law_are_wants" = some (some (.ref f18))) (l18 : K.lookup f18 = some ⟨oc18, od18, .func (PySem.W.fnOf "_law_are_wants" "_law_are_wants" (defArgs s_law_are_wants) (defBody s_law_are_wants) (defScope s_law_are_wants) .none kV18 dc18 pm18 an18 cd18 ct18), sl18⟩) (h18 : PySem.W.codeIn K cd18 "_law_are_wants" = true) (k18 : PySem.W.keepIn K (.ref f18) = true)
    {f19 : Addr} {od19 an19 : Option Addr} {sl19 : Array (Option Value)} {oc19 kV19 dc19 pm19 cd19 ct19 : Value}
    (a19 : PySem.W.nsIn K mainGlobals "law" = some (some (.ref f19))) (l19 : K.lookup f19 = some ⟨oc19, od19, .func (PySem.W.fnOf "law" "law" (defArgs s_law) (defBody s_law) (defScope s_law) .none kV19 dc19 pm19 an19 cd19 ct19), sl19⟩) (h19 : PySem.W.codeIn K cd19 "law" = true) (k19 : PySem.W.keepIn K (.ref f19) = true)
    (z_len : PySem.W.nsIn K mainGlobals "len" = some none)
    (z_range : PySem.W.nsIn K mainGlobals "range" = some none)
    (z_sorted : PySem.W.nsIn K mainGlobals "sorted" = some none)
    (z_enumerate : PySem.W.nsIn K mainGlobals "enumerate" = some none)
    (z_tuple : PySem.W.nsIn K mainGlobals "tuple" = some none)
    (z_list : PySem.W.nsIn K mainGlobals "list" = some none)
    (z_dict : PySem.W.nsIn K mainGlobals "dict" = some none)
    (z_set : PySem.W.nsIn K mainGlobals "set" = some none)
    (z_min : PySem.W.nsIn K mainGlobals "min" = some none)
    (z_max : PySem.W.nsIn K mainGlobals "max" = some none)
    (z_sum : PySem.W.nsIn K mainGlobals "sum" = some none)
    (z_isinstance : PySem.W.nsIn K mainGlobals "isinstance" = some none)
    (z_int : PySem.W.nsIn K mainGlobals "int" = some none)
    (z_bool : PySem.W.nsIn K mainGlobals "bool" = some none)
    (z_str : PySem.W.nsIn K mainGlobals "str" = some none)
    (z_all : PySem.W.nsIn K mainGlobals "all" = some none)
    (z_zip : PySem.W.nsIn K mainGlobals "zip" = some none)
    {k_LETTERS : Tok} (y_LETTERS : PySem.W.nsIn K mainGlobals "LETTERS" = some (some (.str vLetters k_LETTERS)))
    {k_MOST_BOOKS : Tok} (y_MOST_BOOKS : PySem.W.nsIn K mainGlobals "MOST_BOOKS" = some (some (.int 7 k_MOST_BOOKS)))
    {k_MOST_WANTED : Tok} (y_MOST_WANTED : PySem.W.nsIn K mainGlobals "MOST_WANTED" = some (some (.int 5 k_MOST_WANTED)))
    {k_MOST_READERS : Tok} (y_MOST_READERS : PySem.W.nsIn K mainGlobals "MOST_READERS" = some (some (.int 7 k_MOST_READERS)))
    {k_MOST_EACH : Tok} (y_MOST_EACH : PySem.W.nsIn K mainGlobals "MOST_EACH" = some (some (.int 4 k_MOST_EACH)))
    : ∃ fd : FuncData, (∀ (s : Shared) (v : Value), BindsTo s fd ⟨[v], []⟩ [("script", v)]) ∧ ∀ base : Heap, K.In base → base.Ns mainGlobals mg → FnOk l.prog w K mg base CX0 16 fa fd ["script"] (sp_law K) := by
  have e := hfa.symm.trans (PySem.W.mg_of X G a19)
  cases e
  have B : Bn mg := ⟨PySem.W.mg_none_of X G z_len, PySem.W.mg_none_of X G z_range, PySem.W.mg_none_of X G z_sorted, PySem.W.mg_none_of X G z_enumerate, PySem.W.mg_none_of X G z_tuple, PySem.W.mg_none_of X G z_list, PySem.W.mg_none_of X G z_dict, PySem.W.mg_none_of X G z_set, PySem.W.mg_none_of X G z_min, PySem.W.mg_none_of X G z_max, PySem.W.mg_none_of X G z_sum, PySem.W.mg_none_of X G z_isinstance, PySem.W.mg_none_of X G z_int, PySem.W.mg_none_of X G z_bool, PySem.W.mg_none_of X G z_str, PySem.W.mg_none_of X G z_all, PySem.W.mg_none_of X G z_zip⟩
  have g_LETTERS := PySem.W.mg_of X G y_LETTERS
  have g_MOST_BOOKS := PySem.W.mg_of X G y_MOST_BOOKS
  have g_MOST_WANTED := PySem.W.mg_of X G y_MOST_WANTED
  have g_MOST_READERS := PySem.W.mg_of X G y_MOST_READERS
  have g_MOST_EACH := PySem.W.mg_of X G y_MOST_EACH
  refine ⟨PySem.W.fnOf "law" "law" (defArgs s_law) (defBody s_law) (defScope s_law) .none kV19 dc19 pm19 an19 cd19 ct19, fun s v => .of_eq rfl, fun base _ _ => ?_⟩
  have F_is_within := fun_mk (st := s_is_within) l0 h0 k0
  have c_is_within : Cal l.prog w K mg base 1 "is_within" ["thing", "low", "high"] (sp_is_within K) := ⟨_, _, ok_is_within F_is_within B , PySem.W.mg_of X G a0, k0, F_is_within.binds fun _ _ _ _ _ _ us hl => match us, hl with | [_, _, _], _ => rfl⟩
  have F_is_name := fun_mk (st := s_is_name) l1 h1 k1
  have c_is_name : Cal l.prog w K mg base 1 "is_name" ["thing"] (sp_is_name K) := ⟨_, _, ok_is_name F_is_name B g_LETTERS, PySem.W.mg_of X G a1, k1, F_is_name.binds fun _ _ _ _ _ _ us hl => match us, hl with | [_], _ => rfl⟩
  have F_law_draw := fun_mk (st := s_law_draw) l5 h5 k5
  have c_law_draw : Cal l.prog w K mg base 1 "_law_draw" ["tape", "many"] (sp_law_draw K) := ⟨_, _, ok_law_draw F_law_draw B , PySem.W.mg_of X G a5, k5, F_law_draw.binds fun _ _ _ _ _ _ us hl => match us, hl with | [_, _], _ => rfl⟩
  have F_law_whole := fun_mk (st := s_law_whole) l6 h6 k6
  have c_law_whole : Cal l.prog w K mg base 1 "_law_whole" ["item"] (sp_law_whole K) := ⟨_, _, ok_law_whole F_law_whole B , PySem.W.mg_of X G a6, k6, F_law_whole.binds fun _ _ _ _ _ _ us hl => match us, hl with | [_], _ => rfl⟩
  have F_law_rises := fun_mk (st := s_law_rises) l11 h11 k11
  have c_law_rises : Cal l.prog w K mg base 1 "_law_rises" ["some"] (sp_law_rises K) := ⟨_, _, ok_law_rises F_law_rises B , PySem.W.mg_of X G a11, k11, F_law_rises.binds fun _ _ _ _ _ _ us hl => match us, hl with | [_], _ => rfl⟩
  have F_law_is_name := fun_mk (st := s_law_is_name) l12 h12 k12
  have c_law_is_name : Cal l.prog w K mg base 1 "_law_is_name" ["item"] (sp_law_is_name K) := ⟨_, _, ok_law_is_name F_law_is_name B , PySem.W.mg_of X G a12, k12, F_law_is_name.binds fun _ _ _ _ _ _ us hl => match us, hl with | [_], _ => rfl⟩
  have F_law_books := fun_mk (st := s_law_books) l14 h14 k14
  have c_law_books : Cal l.prog w K mg base 1 "_law_books" [] (sp_law_books K) := ⟨_, _, ok_law_books F_law_books B , PySem.W.mg_of X G a14, k14, F_law_books.binds fun _ _ _ _ _ _ us hl => match us, hl with | [], _ => rfl⟩
  have F_is_pile := fun_mk (st := s_is_pile) l2 h2 k2
  have c_is_pile : Cal l.prog w K mg base 2 "is_pile" ["thing"] (sp_is_pile K) := ⟨_, _, ok_is_pile F_is_pile B g_MOST_BOOKS c_is_name, PySem.W.mg_of X G a2, k2, F_is_pile.binds fun _ _ _ _ _ _ us hl => match us, hl with | [_], _ => rfl⟩
  have F_is_want := fun_mk (st := s_is_want) l3 h3 k3
  have c_is_want : Cal l.prog w K mg base 2 "is_want" ["thing"] (sp_is_want K) := ⟨_, _, ok_is_want F_is_want B g_MOST_EACH c_is_name c_is_within, PySem.W.mg_of X G a3, k3, F_is_want.binds fun _ _ _ _ _ _ us hl => match us, hl with | [_], _ => rfl⟩
  have F_law_within := fun_mk (st := s_law_within) l7 h7 k7
  have c_law_within : Cal l.prog w K mg base 2 "_law_within" ["item", "low", "high"] (sp_law_within K) := ⟨_, _, ok_law_within F_law_within B c_law_whole, PySem.W.mg_of X G a7, k7, F_law_within.binds fun _ _ _ _ _ _ us hl => match us, hl with | [_, _, _], _ => rfl⟩
  have F_law_any_order := fun_mk (st := s_law_any_order) l9 h9 k9
  have c_law_any_order : Cal l.prog w K mg base 2 "_law_any_order" ["tape", "many"] (sp_law_any_order K) := ⟨_, _, ok_law_any_order F_law_any_order B c_law_draw, PySem.W.mg_of X G a9, k9, F_law_any_order.binds fun _ _ _ _ _ _ us hl => match us, hl with | [_, _], _ => rfl⟩
  have F_law_wants := fun_mk (st := s_law_wants) l16 h16 k16
  have c_law_wants : Cal l.prog w K mg base 2 "_law_wants" ["tape", "books", "readers"] (sp_law_wants K) := ⟨_, _, ok_law_wants F_law_wants B c_law_books c_law_draw, PySem.W.mg_of X G a16, k16, F_law_wants.binds fun _ _ _ _ _ _ us hl => match us, hl with | [_, _, _], _ => rfl⟩
  have F_law_is_pile := fun_mk (st := s_law_is_pile) l17 h17 k17
  have c_law_is_pile : Cal l.prog w K mg base 2 "_law_is_pile" ["item"] (sp_law_is_pile K) := ⟨_, _, ok_law_is_pile F_law_is_pile B c_law_is_name, PySem.W.mg_of X G a17, k17, F_law_is_pile.binds fun _ _ _ _ _ _ us hl => match us, hl with | [_], _ => rfl⟩
  have F_are_wants := fun_mk (st := s_are_wants) l4 h4 k4
  have c_are_wants : Cal l.prog w K mg base 3 "are_wants" ["thing"] (sp_are_wants K) := ⟨_, _, ok_are_wants F_are_wants B g_MOST_WANTED g_MOST_READERS c_is_want, PySem.W.mg_of X G a4, k4, F_are_wants.binds fun _ _ _ _ _ _ us hl => match us, hl with | [_], _ => rfl⟩
  have F_law_pile := fun_mk (st := s_law_pile) l15 h15 k15
  have c_law_pile : Cal l.prog w K mg base 3 "_law_pile" ["tape", "size"] (sp_law_pile K) := ⟨_, _, ok_law_pile F_law_pile B c_law_books c_law_draw c_law_any_order, PySem.W.mg_of X G a15, k15, F_law_pile.binds fun _ _ _ _ _ _ us hl => match us, hl with | [_, _], _ => rfl⟩
  have F_law_are_wants := fun_mk (st := s_law_are_wants) l18 h18 k18
  have c_law_are_wants : Cal l.prog w K mg base 3 "_law_are_wants" ["item"] (sp_law_are_wants K) := ⟨_, _, ok_law_are_wants F_law_are_wants B c_law_is_name c_law_within c_law_rises, PySem.W.mg_of X G a18, k18, F_law_are_wants.binds fun _ _ _ _ _ _ us hl => match us, hl with | [_], _ => rfl⟩
  have F_law_like := fun_mk (st := s_law_like) l8 h8 k8
  have b_law_like : Binds K _ ["one", "two"] [] := F_law_like.binds fun _ _ _ _ _ _ us hl => match us, hl with | [_, _], _ => rfl
  have c_law_like : Cal l.prog w K mg base 7 "_law_like" ["one", "two"] (sp_law_like 6 K) := ⟨_, _, okr_law_like F_law_like B b_law_like (PySem.W.mg_of X G a8)  6, PySem.W.mg_of X G a8, k8, b_law_like⟩
  have F_law_any := fun_mk (st := s_law_any) l13 h13 k13
  have b_law_any : Binds K _ ["tape", "deep"] [] := F_law_any.binds fun _ _ _ _ _ _ us hl => match us, hl with | [_, _], _ => rfl
  have c_law_any : Cal l.prog w K mg base 7 "_law_any" ["tape", "deep"] (sp_law_any 5 K) := ⟨_, _, okr_law_any F_law_any B b_law_any (PySem.W.mg_of X G a13) c_law_draw 5, PySem.W.mg_of X G a13, k13, b_law_any⟩
  have F_law_spoilt := fun_mk (st := s_law_spoilt) l10 h10 k10
  have b_law_spoilt : Binds K _ ["tape", "item"] [] := F_law_spoilt.binds fun _ _ _ _ _ _ us hl => match us, hl with | [_, _], _ => rfl
  have c_law_spoilt : Cal l.prog w K mg base 15 "_law_spoilt" ["tape", "item"] (sp_law_spoilt 7 K) := ⟨_, _, okr_law_spoilt F_law_spoilt B b_law_spoilt (PySem.W.mg_of X G a10) c_law_draw c_law_any c_law_whole 7, PySem.W.mg_of X G a10, k10, b_law_spoilt⟩
  exact ok_law (fun_mk (st := s_law) l19 h19 k19) B c_law_pile c_law_wants c_law_books c_law_spoilt c_law_any c_law_like c_law_is_pile c_is_pile c_law_are_wants c_are_wants
end LT
open PySem PySem.W PyProof.Rows
set_option maxHeartbeats 0 in
theorem PySem.Challenge.cw_laidontop_k01_piles_and_wants_known_holds : PySem.Challenge.rw_laidontop_k01_piles_and_wants_known.Holds := by
  w_on; o_law; k_head; (case hw => w_witness2)
  k_fill
  refine L2.walk_of (l := PySem.Challenge.rw_laidontop_k01_piles_and_wants_known) (n := 63) (k := 16) (x := "script") (CX := fun _ => L2.CX0) (sp := fun w => LT.sp_law _) rfl (by decide) rfl ⟨rfl, by decide, by decide⟩ (fun w h Y => PySem.W.kIn_of Y) ?F (fun _ _ a ns hl _ hS => ⟨a, ns, rfl, hS, hl, fun _ => rfl⟩) (fun _ _ _ _ _ h => h)
  case F =>
    intro w mg fa h KX G hmg
    refine' LT.all_mk KX G hmg ?a0 ?l0 ?h0 ?k0 ?a1 ?l1 ?h1 ?k1 ?a2 ?l2 ?h2 ?k2 ?a3 ?l3 ?h3 ?k3 ?a4 ?l4 ?h4 ?k4 ?a5 ?l5 ?h5 ?k5 ?a6 ?l6 ?h6 ?k6 ?a7 ?l7 ?h7 ?k7 ?a8 ?l8 ?h8 ?k8 ?a9 ?l9 ?h9 ?k9 ?a10 ?l10 ?h10 ?k10 ?a11 ?l11 ?h11 ?k11 ?a12 ?l12 ?h12 ?k12 ?a13 ?l13 ?h13 ?k13 ?a14 ?l14 ?h14 ?k14 ?a15 ?l15 ?h15 ?k15 ?a16 ?l16 ?h16 ?k16 ?a17 ?l17 ?h17 ?k17 ?a18 ?l18 ?h18 ?k18 ?a19 ?l19 ?h19 ?k19 ?z_len ?z_range ?z_sorted ?z_enumerate ?z_tuple ?z_list ?z_dict ?z_set ?z_min ?z_max ?z_sum ?z_isinstance ?z_int ?z_bool ?z_str ?z_all ?z_zip ?y_LETTERS ?y_MOST_BOOKS ?y_MOST_WANTED ?y_MOST_READERS ?y_MOST_EACH
    (case a0 => k_is); (case l0 => k_is); (case h0 => k_is); (case k0 => k_is); (case a1 => k_is); (case l1 => k_is); (case h1 => k_is); (case k1 => k_is); (case a2 => k_is); (case l2 => k_is); (case h2 => k_is); (case k2 => k_is); (case a3 => k_is); (case l3 => k_is); (case h3 => k_is); (case k3 => k_is); (case a4 => k_is); (case l4 => k_is); (case h4 => k_is); (case k4 => k_is); (case a5 => k_is); (case l5 => k_is); (case h5 => k_is); (case k5 => k_is); (case a6 => k_is); (case l6 => k_is); (case h6 => k_is); (case k6 => k_is); (case a7 => k_is); (case l7 => k_is); (case h7 => k_is); (case k7 => k_is); (case a8 => k_is); (case l8 => k_is); (case h8 => k_is); (case k8 => k_is); (case a9 => k_is); (case l9 => k_is); (case h9 => k_is); (case k9 => k_is); (case a10 => k_is); (case l10 => k_is); (case h10 => k_is); (case k10 => k_is); (case a11 => k_is); (case l11 => k_is); (case h11 => k_is); (case k11 => k_is); (case a12 => k_is); (case l12 => k_is); (case h12 => k_is); (case k12 => k_is); (case a13 => k_is); (case l13 => k_is); (case h13 => k_is); (case k13 => k_is); (case a14 => k_is); (case l14 => k_is); (case h14 => k_is); (case k14 => k_is); (case a15 => k_is); (case l15 => k_is); (case h15 => k_is); (case k15 => k_is); (case a16 => k_is); (case l16 => k_is); (case h16 => k_is); (case k16 => k_is); (case a17 => k_is); (case l17 => k_is); (case h17 => k_is); (case k17 => k_is); (case a18 => k_is); (case l18 => k_is); (case h18 => k_is); (case k18 => k_is); (case a19 => k_is); (case l19 => k_is); (case h19 => k_is); (case k19 => k_is); (case z_len => k_is); (case z_range => k_is); (case z_sorted => k_is); (case z_enumerate => k_is); (case z_tuple => k_is); (case z_list => k_is); (case z_dict => k_is); (case z_set => k_is); (case z_min => k_is); (case z_max => k_is); (case z_sum => k_is); (case z_isinstance => k_is); (case z_int => k_is); (case z_bool => k_is); (case z_str => k_is); (case z_all => k_is); (case z_zip => k_is); (case y_LETTERS => k_is); (case y_MOST_BOOKS => k_is); (case y_MOST_WANTED => k_is); (case y_MOST_READERS => k_is); (case y_MOST_EACH => k_is)
