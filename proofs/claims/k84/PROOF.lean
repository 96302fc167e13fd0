import PyProof.Rows.All
import Wide.All
import OpenK.AllK
import Wide.FinOn
import KE.KStateDown
import HandS.ForMost
import HandS.ForExc
import HandS.TupAny
import HandS.TupMul
import HandS.Wide
import HandS.Deep
import HandS.Zip
import HandS.IsInst
import HandS.Conv
import HandS.Flow
import HandS.Style
import HandS.Defaults
import HandS.Strs
import HandS.Head0
import HandS.Head1
import HandS.Head2
import HandS.HeadEnd
import HandS.HeadHook1
import HandS.HeadHook2
import HandS.TupLen
import HandS.Small
import HandS.TryMany
import HandS.ExcInit
import HandS.ExcIs
import HandS.ExcField
import HandS.EndBits
import HandS.HeadHook3
import HandS.HeadHook4
import HandS.Head3
import HandS.Head4
import KE.GoesMore
import KE.KExcSuper
import HandS.WordsExc
import PySem.Challenge.RW_agedlaws_k84_codes_that_come_round
section
set_option Elab.async false
set_option linter.all false
set_option maxRecDepth 100000
set_option maxHeartbeats 4000000
/-! the keys (number, (numbers)) of a dict -/
namespace DKx
open PySem PySem.Spec PyProof.Rows
section
variable {prog : Program} {w : World}
abbrev PK := Int × List Int
def IsPK (prog : Program) (w : World) (h : Heap) (k : PK) (a : Addr) : Prop := ∃ (o : Obj) (items : Array Value) (n : Nat) (u : Value) (b : Addr), h.get? a = some o ∧ o.cls = .type "tuple" ∧ o.data = .seq items n ∧ items.toList = [u, .ref b] ∧ Value.isInt k.1 u = true ∧ IsTupleKey (intKind prog w) h k.2 b
theorem IsPK.typeIs {s : Shared} {k : PK} {a : Addr} (x : IsPK prog w s.heap k a) : s.TypeIs (.ref a) "tuple" := let ⟨o, _, _, _, _, ho, hc, _⟩ := x; ⟨o, ho, hc⟩
theorem IsPK.inj {h : Heap} {a : Addr} {x y : PK} (hx : IsPK prog w h x a) (hy : IsPK prog w h y a) : x = y := by
  obtain ⟨o, items, n, u, b, ho, _, hd, hi, hu, hb⟩ := hx
  obtain ⟨o', items', n', u', b', ho', _, hd', hi', hu', hb'⟩ := hy
  obtain rfl : o = o' := Option.some.inj (ho.symm.trans ho')
  rw [hd] at hd'
  injection hd' with h1 _
  subst h1
  rw [hi] at hi'
  simp only [List.cons.injEq, Value.ref.injEq, and_true] at hi'
  obtain ⟨rfl, rfl⟩ := hi'
  exact Prod.ext (Value.isInt_inj _ _ _ hu hu') (hb.inj hb')
theorem IsPK.keeps {h h' : Heap} {k : PK} {a d : Addr} {o : Obj} {es ep} (x : IsPK prog w h k a) (ho : h.get? d = some o) (hd : o.data = .dict es ep) (hs : Heap.SameBut d h h') : IsPK prog w h' k a := by
  obtain ⟨o', items, n, u, b, ho', hc, hd', hi, hu, hb⟩ := x
  have hne : a ≠ d := by
    rintro rfl
    obtain rfl : o' = o := Option.some.inj (ho'.symm.trans ho)
    rw [hd] at hd'; exact nomatch hd'
  exact ⟨o', items, n, u, b, (hs.2 a hne).trans ho', hc, hd', hi, hu, hb.keeps ho hd hs⟩
/-- the hash of numbers in a row, told without the program -/
def rowHash (ks : List Int) : Int := reduceHash (Builtin.Tuple.tupleHashOf (ks.map hashInt))
def pkHash (k : PK) : Int := reduceHash (Builtin.Tuple.tupleHashOf [hashInt k.1, rowHash k.2])
variable {A : Around} {E : Value → Shared → Prop} {s : Shared}
theorem hash_pk {k : PK} {a : Addr} {Q : Int → Shared → Prop} (hu : A.units + 8 < cLine) (hk : IsPK prog w s.heap k a) (h : Q (pkHash k) { s with toks := s.toks + (k.2.length + 3) }) : wpAny (model prog w) A (pyHash (.ref a)) Q E s := by
  have hT := hk.typeIs
  obtain ⟨o, items, n, u, b, ho, _, hd, hi, hki, hkb⟩ := hk
  have hu0 : A.units < cLine := by omega
  have hu1 : A.in1.units < cLine := by
    show A.units + _ < cLine
    omega
  unfold pyHash
  first | unfold pyHashByItsType | skip
  first | refine wpAny_bind (wpAny_cRoomFor_or (.inr hu0) ?_) | skip
  refine wpAny_bind (wpAny_specialOf hT F.slot_tuple_hash.lookup ?_)
  show wpAny _ _ (if (some (Value.builtin "tuple.__hash__") == some Value.none) = true then _ else _) Q E s
  rw [if_neg (by rw [beq_builtin_none]; exact Bool.false_ne_true)]
  refine wpAny_bind (wpAny_specialOf hT F.slot_tuple_hash.lookup ?_)
  show wpAny _ _ (callSpecialIfBoundUnlessNone? (.ref a) "__hash__" _ >>= _) Q E s
  refine wpAny_bind (wpAny_callSpecialIfBoundUnlessNone?_slot hT F.slot_tuple_hash (wpAny_call_entry F.slot_tuple_hash hT F.entry_tuple_hash ?_ (F.args_tuple_hash_1 _)))
  show wpAny _ _ (Builtin.Tuple.tupleItemsOf (.ref a) >>= _) _ _ s
  refine wpAny_bind (wpAny_tupleItemsOf ho hd ?_)
  refine wpAny_bind ?_
  rw [← Array.forIn_toList, hi]
  rw [List.forIn_cons]
  refine wpAny_bind (wpAny_bind ((intKind prog w).pyHash hki ?_))
  refine wpAny_pure ?_
  show wpAny _ _ (forIn [Value.ref b] _ _) _ _ _
  rw [List.forIn_cons]
  refine wpAny_bind (wpAny_bind (wpAny_pyHash_tuple (knd := intKind prog w) hu1 hkb ?_))
  refine wpAny_pure ?_
  show wpAny _ _ (forIn ([] : List Value) _ _) _ _ _
  rw [List.forIn_nil]
  refine wpAny_pure ?_
  show wpAny _ _ (retInt (Builtin.Tuple.tupleHashOf _)) _ _ _
  refine wpAny_ret_mkInt ?_
  have e : ((#[].push ((intKind prog w).hash k.1)).push (tupleKeyHash (intKind prog w) k.2)).toList = [hashInt k.1, rowHash k.2] := rfl
  rw [e]
  show wpAny _ _ (if (decide (-(2 : Int) ^ 63 ≤ Builtin.Tuple.tupleHashOf [hashInt k.1, rowHash k.2]) && decide (Builtin.Tuple.tupleHashOf [hashInt k.1, rowHash k.2] < 2 ^ 63)) = true then _ else _) Q E _
  unfold pkHash reduceHash at h
  have ht : s.toks + 1 + (k.2.length + 1) + 1 = s.toks + (k.2.length + 3) := by omega
  by_cases hr : (decide (-(2 : Int) ^ 63 ≤ Builtin.Tuple.tupleHashOf [hashInt k.1, rowHash k.2]) && decide (Builtin.Tuple.tupleHashOf [hashInt k.1, rowHash k.2] < 2 ^ 63)) = true
  · rw [if_pos hr]
    rw [if_pos hr] at h
    rw [← ht] at h
    exact wpAny_pure h
  · rw [if_neg hr]
    rw [if_neg hr] at h
    rw [← ht] at h
    exact wpAny_bind (wpAny_rule (wpAny_pure h))
theorem pk_eq_tree {x y : PK} {a b : Addr} {P : Fin → Shared → Prop} (hu : A.units + 4 < cLine) (hx : IsPK prog w s.heap x a) (hy : IsPK prog w s.heap y b) (h : P (.done (.ret (.bool (decide (x = y))))) s) :
    wpAny (model prog w) A (Builtin.«tuple.__eq__» ⟨[.ref a, .ref b], []⟩) P E s := by
  have hTb := hy.typeIs
  obtain ⟨oa, xs, na, u1, b1, hoa, _, hda, hia, hi1, hb1⟩ := hx
  obtain ⟨ob, ys, nb, u2, b2, hob, _, hdb, hib, hi2, hb2⟩ := hy
  have hsx : xs.size = 2 := by rw [← Array.length_toList, hia]; rfl
  have hsy : ys.size = 2 := by rw [← Array.length_toList, hib]; rfl
  show wpAny _ _ (isInstance (.ref b) (.type "tuple") >>= _) _ _ s
  refine wpAny_bind (wpAny_isInstance hTb isSubtype_tuple_tuple ?_)
  simp only [Bool.not_true, Bool.false_eq_true, if_false]
  refine wpAny_bind (wpAny_tupleItemsOf hoa hda ?_)
  refine wpAny_bind (wpAny_tupleItemsOf hob hdb ?_)
  refine wpAny_bind ?_
  rw [hia, hib]
  show wpAny _ _ (forIn [(u1, u2), (Value.ref b1, Value.ref b2)] _ _) _ _ _
  have split : decide (x = y) = (decide (x.1 = y.1) && decide (x.2 = y.2)) := by
    rw [← Bool.decide_and]
    exact decide_eq_decide.mpr Prod.ext_iff
  rw [List.forIn_cons]
  refine wpAny_bind (wpAny_bind ((intKind prog w).eqBool hi1 hi2 ?_))
  by_cases h1 : x.1 = y.1
  · rw [decide_eq_true h1]
    simp only [Bool.not_true, Bool.false_eq_true, if_false]
    refine wpAny_pure ?_
    show wpAny _ _ (forIn [(Value.ref b1, Value.ref b2)] _ _) _ _ _
    rw [List.forIn_cons]
    refine wpAny_bind (wpAny_bind (wpAny_eqBool_tuple (knd := intKind prog w) (by omega) hb1 hb2 ?_))
    by_cases h2 : x.2 = y.2
    · rw [decide_eq_true h2]
      simp only [Bool.not_true, Bool.false_eq_true, if_false]
      refine wpAny_pure ?_
      show wpAny _ _ (forIn ([] : List (Value × Value)) _ _) _ _ _
      rw [List.forIn_nil]
      refine wpAny_pure ?_
      rw [split, decide_eq_true h1, decide_eq_true h2] at h
      refine wpAny_pure ?_
      show P (.done (.ret (.bool (xs.size == ys.size)))) s
      rw [hsx, hsy]
      exact h
    · rw [decide_eq_false h2]
      simp only [Bool.not_false, if_true]
      rw [split, decide_eq_false h2, Bool.and_false] at h
      exact wpAny_bind (wpAny_pure (wpAny_pure (wpAny_pure (wpAny_pure h))))
  · rw [decide_eq_false h1]
    simp only [Bool.not_false, if_true]
    rw [split, decide_eq_false h1, Bool.false_and] at h
    exact wpAny_bind (wpAny_pure (wpAny_pure (wpAny_pure (wpAny_pure h))))
theorem eqBool_pk {x y : PK} {a b : Addr} {Q : Bool → Shared → Prop} (hu : A.units + 8 < cLine) (hx : IsPK prog w s.heap x a) (hy : IsPK prog w s.heap y b) (h : Q (decide (x = y)) s) : wpAny (model prog w) A (eqBool (.ref a) (.ref b)) Q E s := by
  unfold eqBool
  try with_reducible refine wpAny_holding ?_
  show wpAny _ _ (if (Value.ref a == Value.ref b) = true then _ else _) Q E s
  by_cases hab : (Value.ref a == Value.ref b) = true
  · rw [if_pos hab]
    have e : a = b := by have := eq_of_beq hab; injection this
    subst e
    obtain rfl := hx.inj hy
    exact wpAny_bind (wpAny_rule (wpAny_pure (by simpa using h)))
  · rw [if_neg hab]
    exact wpAny_bind (wpAny_richCompare_same_room (op := .Eq) hx.typeIs hy.typeIs F.slot_tuple_eq
      (wpAny_call_entry F.slot_tuple_eq hx.typeIs F.entry_tuple_eq (pk_eq_tree (by show A.units + _ + 4 < cLine; omega) hx hy ⟨_, rfl, (fun e => nomatch e), wpAny_truthy_bool h⟩) (F.args_tuple_eq_2 _ _)) (by omega))
/-- as wpAny_eqIsQuiet_tuple, for any depth -/
theorem quiet_row {n : Nat} {ks : List Int} {a : Addr} {Q : Bool → Shared → Prop} (hk : IsTupleKey (intKind prog w) s.heap ks a) (h : Q true s) : wpAny (model prog w) A (eqIsQuiet (n + 1) (.ref a)) Q E s := by
  have hT := hk.typeIs
  obtain ⟨o, items, m, ho, _, hd, hi⟩ := hk
  unfold eqIsQuiet
  refine wpAny_bind (wpAny_specialOf hT F.slot_tuple_eq.lookup ?_)
  show wpAny _ _ (isInstance (.ref a) (.type "tuple") >>= _) _ _ s
  refine wpAny_bind (wpAny_isInstance hT isSubtype_tuple_tuple ?_)
  simp only [Bool.not_true, Bool.false_eq_true, if_false]
  refine wpAny_bind (wpAny_seqItems ho hd ?_)
  refine wpAny_bind ?_
  show wpAny _ _ (forIn items _ _) _ _ s
  rw [← Array.forIn_toList]
  refine wpAny_forIn_list _ (fun rest r s' => r.1 = none ∧ s' = s ∧ ∀ v ∈ rest, carriedByValue v = true) _ ?_ ?_ _ _ ⟨rfl, rfl, hi.byValue⟩
  · rintro v rest r s' ⟨hr, rfl, hall⟩
    rw [eqIsQuiet_byValue _ (hall v List.mem_cons_self)]
    refine wpAny_bind (wpAny_pure ?_)
    simp only [Bool.not_true, Bool.false_eq_true, if_false]
    exact wpAny_pure ⟨rfl, rfl, fun u hu' => hall u (List.mem_cons_of_mem _ hu')⟩
  · rintro ⟨r1, r2⟩ s' ⟨hr, rfl, _⟩
    simp only at hr
    subst hr
    exact wpAny_pure h
theorem quiet_pk {k : PK} {a : Addr} {Q : Bool → Shared → Prop} (hk : IsPK prog w s.heap k a) (h : Q true s) : wpAny (model prog w) A (eqIsQuiet 8 (.ref a)) Q E s := by
  have hT := hk.typeIs
  obtain ⟨o, items, m, u, b, ho, _, hd, hi, hki, hkb⟩ := hk
  unfold eqIsQuiet
  refine wpAny_bind (wpAny_specialOf hT F.slot_tuple_eq.lookup ?_)
  show wpAny _ _ (isInstance (.ref a) (.type "tuple") >>= _) _ _ s
  refine wpAny_bind (wpAny_isInstance hT isSubtype_tuple_tuple ?_)
  simp only [Bool.not_true, Bool.false_eq_true, if_false]
  refine wpAny_bind (wpAny_seqItems ho hd ?_)
  refine wpAny_bind ?_
  show wpAny _ _ (forIn items _ _) _ _ s
  rw [← Array.forIn_toList, hi, List.forIn_cons]
  refine wpAny_bind ?_
  rw [eqIsQuiet_byValue _ ((intKind prog w).byValue _ _ hki)]
  refine wpAny_bind (wpAny_pure ?_)
  simp only [Bool.not_true, Bool.false_eq_true, if_false]
  refine wpAny_pure ?_
  show wpAny _ _ (forIn [Value.ref b] _ _) _ _ _
  rw [List.forIn_cons]
  refine wpAny_bind (wpAny_bind (quiet_row (n := 6) hkb ?_))
  simp only [Bool.not_true, Bool.false_eq_true, if_false]
  refine wpAny_pure ?_
  show wpAny _ _ (forIn ([] : List Value) _ _) _ _ _
  rw [List.forIn_nil]
  refine wpAny_pure ?_
  exact wpAny_pure h
end
def pkKind (prog : Program) (w : World) : HeapKind prog w PK where
  is := IsPK prog w
  hash := pkHash
  draws := fun k => k.2.length + 3
  room := fun A => A.units + 8 < cLine
  inj := fun hx hy => hx.inj hy
  keeps := fun x ho hd hs => x.keeps ho hd hs
  pyHash := fun hu hk h => hash_pk hu hk h
  eqBool := fun hu hx hy h => eqBool_pk hu hx hy h
  quiet := fun hk h => quiet_pk hk h
end DKx
end
section
set_option Elab.async false
set_option linter.all false
set_option maxRecDepth 100000
set_option maxHeartbeats 4000000
/-! the data layer 1: values as trees, the store, how they stand in the heap -/
namespace DL
open PySem PySem.Spec PyProof.Rows L2

inductive D where
  | non | bl (b : Bool) | int (i : Int) | str (x : Str) | tup (xs : List D) | lst (xs : List D) | ref (n : Nat) | exn (c : Str) (d : D)
  deriving Inhabited
inductive M where
  | lst (xs : List D)
  | dct (kvs : List ((Int × List Int) × D))
abbrev Store := List M
abbrev DEnv := List (Option D)
inductive R (α : Type) where
  | ok (a : α) (S : Store) | exc (c : Str) (d : D) (S : Store) | bad
def R.bind {α β : Type} (r : R α) (f : α → Store → R β) : R β := match r with
  | .ok a S => f a S
  | .exc c d S => .exc c d S
  | .bad => .bad
@[simp] theorem bind_ok {α β : Type} (a : α) (S : Store) (f : α → Store → R β) : (R.ok a S).bind f = f a S := rfl
@[simp] theorem bind_exc {α β : Type} (c : Str) (d : D) (S : Store) (f : α → Store → R β) : (R.exc c d S : R α).bind f = .exc c d S := rfl
@[simp] theorem bind_bad {α β : Type} (f : α → Store → R β) : (R.bad : R α).bind f = .bad := rfl

/-! ### the mutable addresses: those that the store shows (v), those that change unseen (h) -/
structure Ix where
  v : List Addr
  h : Addr → Prop
  /-- the exception that is held: its object, its class's name, its dict -/
  x : Option (Addr × Str × Addr) := none
instance : Membership Addr Ix := ⟨fun ι a => a ∈ ι.v ∨ ι.h a⟩
instance : GetElem? Ix Nat Addr (fun ι n => n < ι.v.length) where
  getElem ι n p := ι.v[n]
  getElem? ι n := ι.v[n]?
instance : HAppend Ix (List Addr) Ix := ⟨fun ι t => ⟨ι.v ++ t, ι.h, ι.x⟩⟩
def Ix.length (ι : Ix) : Nat := ι.v.length
theorem Ix.mem_def {ι : Ix} {a : Addr} : a ∈ ι ↔ a ∈ ι.v ∨ ι.h a := Iff.rfl
theorem Ix.get_def {ι : Ix} {n : Nat} : ι[n]? = ι.v[n]? := rfl
theorem Ix.mem_get {ι : Ix} {n : Nat} {a : Addr} (h : ι[n]? = some a) : a ∈ ι := .inl (List.mem_of_getElem? h)
theorem Ix.mem_app {ι : Ix} {t : List Addr} {a : Addr} : a ∈ ι ++ t ↔ a ∈ ι ∨ a ∈ t := by
  show (a ∈ ι.v ++ t ∨ ι.h a) ↔ (a ∈ ι.v ∨ ι.h a) ∨ a ∈ t
  rw [List.mem_append]
  exact ⟨fun h => h.elim (fun h => h.elim (fun h => .inl (.inl h)) .inr) (fun h => .inl (.inr h)), fun h => h.elim (fun h => h.elim (fun h => .inl (.inl h)) .inr) (fun h => .inl (.inr h))⟩
theorem Ix.app_v {ι : Ix} {t : List Addr} : (ι ++ t).v = ι.v ++ t := rfl
theorem Ix.app_h {ι : Ix} {t : List Addr} : (ι ++ t).h = ι.h := rfl
theorem Ix.get_new {ι : Ix} {p : Addr} {n : Nat} (h : ι.length = n) : (ι ++ [p])[n]? = some p := by
  subst h
  show (ι.v ++ [p])[ι.v.length]? = some p
  simp
abbrev Ix.none : Ix := ⟨[], fun _ => False, Option.none⟩
/-! ### sequences that do not change, seen beside the mutable addresses -/
def KL (K : PySem.W.Frag) (a : Addr) (xs : List V) : Prop := ∃ (o : Obj) (its : Array Value) (n : Nat), K.lookup a = some o ∧ o.cls = .type "list" ∧ o.dict = none ∧ o.data = .seq its n ∧ its.size ≤ sizeLine ∧ Vals xs its.toList
def KT (K : PySem.W.Frag) (a : Addr) (xs : List V) : Prop := ∃ (o : Obj) (its : Array Value) (n : Nat), K.lookup a = some o ∧ o.dict = none ∧ o.cls = .type "tuple" ∧ o.data = .seq its n ∧ its.size ≤ sizeLine ∧ Vals xs its.toList
def SqLi (K : PySem.W.Frag) (ι : Ix) (H : Hp) (a : Addr) (xs : List V) : Prop := (a ∉ ι ∧ Rd H a (.lst xs)) ∨ KL K a xs
def SqTi (K : PySem.W.Frag) (ι : Ix) (H : Hp) (a : Addr) (xs : List V) : Prop := (a ∉ ι ∧ ∃ o : Obj, H a = some (.frz o (.tup xs)) ∧ o.dict = none) ∨ KT K a xs
section
variable {K : PySem.W.Frag} {ι ι' ι1 ι2 : Ix} {H H' H1 H2 : Hp} {a : Addr} {xs : List V}
theorem SqLi.sq (h : SqLi K ι H a xs) : SqL K H a xs := by
  rcases h with ⟨_, h⟩ | h
  · exact .inl h
  · exact .inr h
theorem SqTi.sq (h : SqTi K ι H a xs) : SqT K H a xs := by
  rcases h with ⟨_, o, h, _⟩ | ⟨o, its, n, h1, _, h2⟩
  · exact .inl (.inr ⟨o, h⟩)
  · exact .inr ⟨o, its, n, h1, h2⟩

/-- what a piece of code keeps: the mutable addresses stay (new ones are free ones), all else that is tracked stays as it is -/
structure Keep (ι : Ix) (H : Hp) (ι' : Ix) (H' : Hp) : Prop where
  pre : ∃ t, ι'.v = ι.v ++ t
  hid : ∀ b, ι.h b → ι'.h b
  new : ∀ b, b ∈ ι' → b ∈ ι ∨ H b = none
  old : ∀ b o, H b = some o → b ∉ ι → H' b = some o
  hst : ∀ b o, ι.h b → H b = some o → H' b = some o
  cur : ∀ e, ι.x = some e → ι'.x = some e
/-- the same without the hidden ones -/
structure Kp (ι : Ix) (H : Hp) (ι' : Ix) (H' : Hp) : Prop where
  pre : ∃ t, ι'.v = ι.v ++ t
  new : ∀ b, b ∈ ι' → b ∈ ι ∨ H b = none
  old : ∀ b o, H b = some o → b ∉ ι → H' b = some o
  cur : ∀ e, ι.x = some e → ι'.x = some e
theorem Keep.kp (k : Keep ι H ι' H') : Kp ι H ι' H' := ⟨k.pre, k.new, k.old, k.cur⟩
theorem Keep.refl (ι : Ix) (H : Hp) : Keep ι H ι H := ⟨⟨[], by simp⟩, fun _ h => h, fun _ h => .inl h, fun _ _ h _ => h, fun _ _ _ h => h, fun _ h => h⟩
theorem Keep.none : Keep Ix.none (fun _ => none) ι H := ⟨⟨ι.v, rfl⟩, fun _ h => h.elim, fun _ _ => .inr rfl, fun _ _ h _ => (nomatch h), fun _ _ h _ => False.elim h, fun _ h => nomatch h⟩
theorem Kp.notin (k : Kp ι H ι' H') {b : Addr} {o : HO} (h : H b = some o) (n : b ∉ ι) : b ∉ ι' := fun hb => by
  rcases k.new b hb with q | q
  · exact n q
  · rw [h] at q; cases q
theorem Keep.notin (k : Keep ι H ι' H') {b : Addr} {o : HO} (h : H b = some o) (n : b ∉ ι) : b ∉ ι' := k.kp.notin h n
theorem Keep.trans (k : Keep ι H ι1 H1) (k' : Keep ι1 H1 ι2 H2) : Keep ι H ι2 H2 where
  pre := by
    obtain ⟨t, e⟩ := k.pre
    obtain ⟨t', e'⟩ := k'.pre
    exact ⟨t ++ t', by rw [e', e, List.append_assoc]⟩
  hid := fun b h => k'.hid b (k.hid b h)
  new := fun b hb => by
    rcases k'.new b hb with q | q
    · exact k.new b q
    · by_cases hi : b ∈ ι
      · exact .inl hi
      · refine .inr ?_
        cases e : H b with
        | none => rfl
        | some o =>
          rw [k.old b o e hi] at q
          cases q
  old := fun b o h n => k'.old b o (k.old b o h n) (k.notin h n)
  hst := fun b o hb h => k'.hst b o (k.hid b hb) (k.hst b o hb h)
  cur := fun e h => k'.cur e (k.cur e h)
theorem Kp.trans (k : Kp ι H ι1 H1) (k' : Kp ι1 H1 ι2 H2) : Kp ι H ι2 H2 where
  pre := by
    obtain ⟨t, e⟩ := k.pre
    obtain ⟨t', e'⟩ := k'.pre
    exact ⟨t ++ t', by rw [e', e, List.append_assoc]⟩
  new := fun b hb => by
    rcases k'.new b hb with q | q
    · exact k.new b q
    · by_cases hi : b ∈ ι
      · exact .inl hi
      · refine .inr ?_
        cases e : H b with
        | none => rfl
        | some o =>
          rw [k.old b o e hi] at q
          cases q
  old := fun b o h n => k'.old b o (k.old b o h n) (k.notin h n)
  cur := fun e h => k'.cur e (k.cur e h)
theorem Kp.get (k : Kp ι H ι' H') {n : Nat} (h : ι[n]? = some a) : ι'[n]? = some a := by
  obtain ⟨t, e⟩ := k.pre
  rw [Ix.get_def] at h ⊢
  have hl : n < ι.v.length := (List.getElem?_eq_some_iff.mp h).1
  rw [e, List.getElem?_append_left hl]
  exact h
theorem Keep.get (k : Keep ι H ι' H') {n : Nat} (h : ι[n]? = some a) : ι'[n]? = some a := k.kp.get h
theorem Keep.len (k : Keep ι H ι' H') : ι.length ≤ ι'.length := by
  obtain ⟨t, e⟩ := k.pre
  unfold Ix.length
  rw [e, List.length_append]
  omega
theorem SqLi.mono0 (k : Kp ι H ι' H') (h : SqLi K ι H a xs) : SqLi K ι' H' a xs := by
  rcases h with ⟨n, h | ⟨o, h⟩⟩ | h
  · exact .inl ⟨k.notin h n, .inl (k.old _ _ h n)⟩
  · exact .inl ⟨k.notin h n, .inr ⟨o, k.old _ _ h n⟩⟩
  · exact .inr h
theorem SqTi.mono0 (k : Kp ι H ι' H') (h : SqTi K ι H a xs) : SqTi K ι' H' a xs := by
  rcases h with ⟨n, o, h, hd⟩ | h
  · exact .inl ⟨k.notin h n, o, k.old _ _ h n, hd⟩
  · exact .inr h
theorem SqLi.mono (k : Keep ι H ι' H') (h : SqLi K ι H a xs) : SqLi K ι' H' a xs := h.mono0 k.kp
theorem SqTi.mono (k : Keep ι H ι' H') (h : SqTi K ι H a xs) : SqTi K ι' H' a xs := h.mono0 k.kp
/-- a new object that is not of the mutable ones -/
theorem Keep.laid {p : Addr} {o : HO} (hp : H p = Option.none) : Keep ι H ι (upd H p o) := ⟨⟨[], by simp⟩, fun _ h => h, fun _ h => .inl h, fun b u h _ => by rw [upd_ne (ne_of_none h hp)]; exact h, fun b u _ h => by rw [upd_ne (ne_of_none h hp)]; exact h, fun _ h => h⟩
/-- a new mutable object -/
theorem Keep.made {p : Addr} {o : HO} (hp : H p = Option.none) : Keep ι H (ι ++ [p]) (upd H p o) := ⟨⟨[p], rfl⟩, fun _ h => h, fun b hb => by
  rcases Ix.mem_app.mp hb with q | q
  · exact .inl q
  · have e : b = p := by simpa using q
    rw [e]
    exact .inr hp, fun b u h _ => by rw [upd_ne (ne_of_none h hp)]; exact h, fun b u _ h => by rw [upd_ne (ne_of_none h hp)]; exact h, fun _ h => h⟩
/-- a mutable object changed -/
theorem Kp.write {p : Addr} {o : HO} (hp : p ∈ ι) : Kp ι H ι (upd H p o) := ⟨⟨[], by simp⟩, fun _ h => .inl h, fun b u h n => by
  rw [upd_ne (fun e => n (by rw [e]; exact hp))]
  exact h, fun _ h => h⟩
end

/-! ### how a tree stands in the heap -/
mutual
inductive Rep (K : PySem.W.Frag) (ι : Ix) (H : Hp) : D → V → Prop
  | non : Rep K ι H .non .non
  | bl (b : Bool) : Rep K ι H (.bl b) (.bl b)
  | int (i : Int) : Rep K ι H (.int i) (.int i)
  | str (x : Str) : Rep K ι H (.str x) (.str x)
  | tup {a : Addr} {xs : List V} {ds : List D} : SqTi K ι H a xs → Reps K ι H ds xs → Rep K ι H (.tup ds) (.ref a)
  | lst {a : Addr} {xs : List V} {ds : List D} : SqLi K ι H a xs → Reps K ι H ds xs → Rep K ι H (.lst ds) (.ref a)
  | ref {n : Nat} {a : Addr} : ι[n]? = some a → Rep K ι H (.ref n) (.ref a)
  | exn {c : Str} {d : D} {a dd : Addr} {v : V} : ι.x = some (a, c, dd) → dd ∉ ι → H dd = some (.xd [("what", v)]) → Rep K ι H d v → Rep K ι H (.exn c d) (.ref a)
inductive Reps (K : PySem.W.Frag) (ι : Ix) (H : Hp) : List D → List V → Prop
  | nil : Reps K ι H [] []
  | cons {d : D} {v : V} {ds : List D} {vs : List V} : Rep K ι H d v → Reps K ι H ds vs → Reps K ι H (d :: ds) (v :: vs)
end
section
variable {K : PySem.W.Frag} {ι ι' ι1 ι2 : Ix} {H H' H1 H2 : Hp} {a : Addr} {xs : List V}
mutual
theorem Rep.mono0 (k : Kp ι H ι' H') : ∀ (d : D) (v : V), Rep K ι H d v → Rep K ι' H' d v
  | .non, _, h => by cases h; exact .non
  | .bl b, _, h => by cases h; exact .bl b
  | .int i, _, h => by cases h; exact .int i
  | .str x, _, h => by cases h; exact .str x
  | .tup ds, _, h => by
    cases h with
    | tup hs hr => exact .tup (hs.mono0 k) (Reps.mono0 k ds _ hr)
  | .lst ds, _, h => by
    cases h with
    | lst hs hr => exact .lst (hs.mono0 k) (Reps.mono0 k ds _ hr)
  | .ref n, _, h => by
    cases h with
    | ref hn => exact .ref (k.get hn)
  | .exn c d, _, h => by
    cases h with
    | exn h1 h2 h3 h4 => exact .exn (k.cur _ h1) (k.notin h3 h2) (k.old _ _ h3 h2) (Rep.mono0 k d _ h4)
theorem Reps.mono0 (k : Kp ι H ι' H') : ∀ (ds : List D) (vs : List V), Reps K ι H ds vs → Reps K ι' H' ds vs
  | [], _, h => by cases h; exact .nil
  | d :: ds, _, h => by
    cases h with
    | cons h1 h2 => exact .cons (Rep.mono0 k d _ h1) (Reps.mono0 k ds _ h2)
end
theorem Rep.mono (k : Keep ι H ι' H') (d : D) (v : V) (h : Rep K ι H d v) : Rep K ι' H' d v := Rep.mono0 k.kp d v h
theorem Reps.mono (k : Keep ι H ι' H') (ds : List D) (vs : List V) (h : Reps K ι H ds vs) : Reps K ι' H' ds vs := Reps.mono0 k.kp ds vs h
theorem Reps.length : ∀ {ds : List D} {vs : List V}, Reps K ι H ds vs → ds.length = vs.length
  | [], _, h => by cases h; rfl
  | d :: ds, _, h => by
    cases h with
    | cons h1 h2 => simp [Reps.length h2]
theorem Reps.get : ∀ {ds : List D} {vs : List V} {i : Nat} {d : D}, Reps K ι H ds vs → ds[i]? = some d → ∃ v, vs[i]? = some v ∧ Rep K ι H d v
  | [], _, _, _, _, e => by simp at e
  | d :: ds, _, i, d', h, e => by
    cases h with
    | cons h1 h2 =>
      cases i with
      | zero =>
        have e' : d = d' := by simpa using e
        subst e'
        exact ⟨_, rfl, h1⟩
      | succ i =>
        obtain ⟨v, q1, q2⟩ := Reps.get h2 (i := i) (by simpa using e)
        exact ⟨v, by simpa using q1, q2⟩
theorem Reps.get' {ds : List D} {vs : List V} {i : Nat} {v : V} (h : Reps K ι H ds vs) (e : vs[i]? = some v) : ∃ d, ds[i]? = some d ∧ Rep K ι H d v := by
  have hl : i < vs.length := (List.getElem?_eq_some_iff.mp e).1
  have hl2 : i < ds.length := by rw [h.length]; exact hl
  have hd : ds[i]? = some ds[i] := List.getElem?_eq_getElem hl2
  obtain ⟨w, q1, q2⟩ := h.get hd
  rw [e] at q1
  cases q1
  exact ⟨_, hd, q2⟩
theorem Reps.append : ∀ {ds es : List D} {vs us : List V}, Reps K ι H ds vs → Reps K ι H es us → Reps K ι H (ds ++ es) (vs ++ us)
  | [], _, _, _, h, g => by cases h; exact g
  | d :: ds, _, _, _, h, g => by
    cases h with
    | cons h1 h2 => exact .cons h1 (Reps.append h2 g)
theorem Reps.take : ∀ {ds : List D} {vs : List V} (n : Nat), Reps K ι H ds vs → Reps K ι H (ds.take n) (vs.take n)
  | [], _, n, h => by cases h; simp; exact .nil
  | d :: ds, _, 0, h => by simp; exact .nil
  | d :: ds, _, n + 1, h => by
    cases h with
    | cons h1 h2 => exact .cons h1 (Reps.take n h2)
theorem Reps.drop : ∀ {ds : List D} {vs : List V} (n : Nat), Reps K ι H ds vs → Reps K ι H (ds.drop n) (vs.drop n)
  | [], _, n, h => by cases h; simp; exact .nil
  | d :: ds, _, 0, h => h
  | d :: ds, _, n + 1, h => by
    cases h with
    | cons h1 h2 => exact Reps.drop n h2
theorem Reps.set {d : D} {v : V} (r : Rep K ι H d v) : ∀ {ds : List D} {vs : List V} (n : Nat), Reps K ι H ds vs → Reps K ι H (ds.set n d) (vs.set n v)
  | [], _, n, h => by cases h; exact .nil
  | e :: ds, _, 0, h => by
    cases h with
    | cons h1 h2 => exact .cons r h2
  | e :: ds, _, n + 1, h => by
    cases h with
    | cons h1 h2 => exact .cons h1 (Reps.set r n h2)
theorem Reps.ints : ∀ {ns : List Int} {vs : List V}, Reps K ι H (ns.map D.int) vs → vs = ns.map V.int
  | [], _, h => by cases h; rfl
  | n :: ns, _, h => by
    cases h with
    | cons h1 h2 => cases h1; rw [Reps.ints h2]; rfl
theorem Reps.bls : ∀ {ns : List Bool} {vs : List V}, Reps K ι H (ns.map D.bl) vs → vs = ns.map V.bl
  | [], _, h => by cases h; rfl
  | n :: ns, _, h => by
    cases h with
    | cons h1 h2 => cases h1; rw [Reps.bls h2]; rfl
theorem Reps.cat (ds : List (List D)) : ∀ (vs : List (List V)), ds.length = vs.length → (∀ (i : Nat) (d : List D) (v : List V), ds[i]? = some d → vs[i]? = some v → Reps K ι H d v) → Reps K ι H ds.flatten vs.flatten := by
  induction ds with
  | nil => intro vs hl _; cases vs with
    | nil => exact .nil
    | cons v vs => simp at hl
  | cons d ds ih => intro vs hl h; cases vs with
    | nil => simp at hl
    | cons v vs =>
      refine Reps.append (h 0 d v rfl rfl) (ih vs (by simpa using hl) fun i d' v' h1 h2 => h (i + 1) d' v' (by simpa using h1) (by simpa using h2))
theorem Reps.replicate {ds : List D} {vs : List V} (h : Reps K ι H ds vs) (n : Nat) : Reps K ι H (List.replicate n ds).flatten (List.replicate n vs).flatten := by
  refine Reps.cat _ _ (by simp) fun i d v h1 h2 => ?_
  rw [List.getElem?_replicate] at h1 h2
  by_cases hi : i < n
  · rw [if_pos hi] at h1 h2
    cases h1
    cases h2
    exact h
  · rw [if_neg hi] at h1
    cases h1
/-! trees stand for themselves in PyData -/
mutual
def toPy : D → PyData
  | .non => .none
  | .bl b => .bool b
  | .int i => .int i
  | .str x => .str x
  | .tup xs => .tuple (toPys xs)
  | .lst xs => .list (toPys xs)
  | .ref _ => .none
  | .exn _ _ => .none
def toPys : List D → List PyData
  | [] => []
  | d :: ds => toPy d :: toPys ds
end
mutual
def pureD : D → Bool
  | .non => true
  | .bl _ => true
  | .int _ => true
  | .str _ => true
  | .tup xs => pureDs xs
  | .lst xs => pureDs xs
  | .ref _ => false
  | .exn _ _ => false
def pureDs : List D → Bool
  | [] => true
  | d :: ds => pureD d && pureDs ds
end
mutual
theorem Rep.dp : ∀ (d : D) (v : V), pureD d = true → Rep K ι H d v → Dp K H v (toPy d)
  | .non, _, _, h => by cases h; exact .non
  | .bl b, _, _, h => by cases h; exact .bl b
  | .int i, _, _, h => by cases h; exact .int i
  | .str x, _, _, h => by cases h; exact .str x
  | .tup ds, _, p, h => by
    cases h with
    | tup hs hr => exact .tup hs.sq (Reps.dp ds _ p hr)
  | .lst ds, _, p, h => by
    cases h with
    | lst hs hr => exact .lst hs.sq (Reps.dp ds _ p hr)
  | .ref n, _, p, _ => by simp [pureD] at p
  | .exn c d, _, p, _ => by simp [pureD] at p
theorem Reps.dp : ∀ (ds : List D) (vs : List V), pureDs ds = true → Reps K ι H ds vs → DpAll K H vs (toPys ds)
  | [], _, _, h => by cases h; exact .nil
  | d :: ds, _, p, h => by
    have p' : (pureD d && pureDs ds) = true := p
    rw [Bool.and_eq_true] at p'
    cases h with
    | cons h1 h2 => exact .cons (Rep.dp d _ p'.1 h1) (Reps.dp ds _ p'.2 h2)
end
end

/-! ### dicts -/
def entPK (x : DKx.PK × Addr × Value) : DictEntry := ⟨DKx.pkHash x.1, .ref x.2.1, x.2.2⟩
/-- at p: a dict of these entries -/
def dxt (p : Addr) (xs : List (DKx.PK × Addr × Value)) : HO := .ext fun h => ∃ (o : Obj) (es : Array DictEntry) (ep : Nat), h.get? p = some o ∧ o.ExactDict ∧ o.data = .dict es ep ∧ es.toList = xs.map entPK
def keyD (k : DKx.PK) : D := .tup [.int k.1, .tup (k.2.map D.int)]
def Ent (K : PySem.W.Frag) (ι : Ix) (H : Hp) (p : DKx.PK × D) (x : DKx.PK × Addr × Value) : Prop := p.1 = x.1 ∧ Rep K ι H (keyD p.1) (.ref x.2.1) ∧ ∃ v, Rep K ι H p.2 v ∧ RelV v x.2.2
/-! ### the store -/
def RepM (K : PySem.W.Frag) (ι : Ix) (H : Hp) (a : Addr) : M → Prop
  | .lst ds => ∃ xs, H a = some (.lst xs) ∧ Reps K ι H ds xs
  | .dct kvs => (a == sysModules) = false ∧ kvs.length ≤ sizeLine ∧ (kvs.map (·.1)).Nodup ∧ ∃ xs, H a = some (dxt a xs) ∧ Paired (Ent K ι H) kvs xs
structure Good (K : PySem.W.Frag) (ι : Ix) (H : Hp) (S : Store) : Prop where
  len : ι.length = S.length
  nd : ι.v.Nodup
  dj : ∀ b, b ∈ ι.v → ¬ ι.h b
  tr : ∀ b, ι.h b → ∃ o, H b = some o
  obj : ∀ (n : Nat) (m : M) (a : Addr), S[n]? = some m → ι[n]? = some a → RepM K ι H a m
section
variable {K : PySem.W.Frag} {ι ι' ι1 ι2 : Ix} {H H' H1 H2 : Hp} {a : Addr} {xs : List V} {S S' : Store}
theorem Good.there (g : Good K ι H S) {n : Nat} {a : Addr} (h : ι[n]? = some a) : ∃ m, S[n]? = some m ∧ RepM K ι H a m := by
  have hl : n < S.length := by
    rw [← g.len]
    exact (List.getElem?_eq_some_iff.mp h).1
  exact ⟨S[n], List.getElem?_eq_getElem hl, g.obj n _ a (List.getElem?_eq_getElem hl) h⟩
theorem Good.tracked (g : Good K ι H S) {a : Addr} (h : a ∈ ι) : ∃ o, H a = some o := by
  rcases h with h | h
  rotate_left
  · exact g.tr a h
  obtain ⟨n, hn, e⟩ := List.mem_iff_getElem.mp h
  obtain ⟨m, _, r⟩ := g.there (n := n) (a := a) (by rw [Ix.get_def, List.getElem?_eq_getElem hn, e])
  cases m with
  | lst ds => obtain ⟨xs, q, _⟩ := r; exact ⟨_, q⟩
  | dct _ => obtain ⟨_, _, _, xs, q, _⟩ := r; exact ⟨_, q⟩
theorem Good.fresh (g : Good K ι H S) {p : Addr} (h : H p = none) : p ∉ ι := fun hp => by
  obtain ⟨o, e⟩ := g.tracked hp
  rw [h] at e
  cases e
theorem RepM.mono0 {m : M} (k : Kp ι H ι' H') (h : H' a = H a) (r : RepM K ι H a m) : RepM K ι' H' a m := by
  cases m with
  | lst ds =>
    obtain ⟨xs, q, s⟩ := r
    exact ⟨xs, by rw [h]; exact q, Reps.mono0 k _ _ s⟩
  | dct _ =>
    obtain ⟨r1, r2, r3, xs, q, s⟩ := r
    exact ⟨r1, r2, r3, xs, by rw [h]; exact q, Paired.mapP s fun p x z => by
      obtain ⟨z1, z2, v, z3, z4⟩ := z
      exact ⟨z1, Rep.mono0 k _ _ z2, v, Rep.mono0 k _ _ z3, z4⟩⟩
theorem RepM.mono {m : M} (k : Keep ι H ι' H') (h : H' a = H a) (r : RepM K ι H a m) : RepM K ι' H' a m := r.mono0 k.kp h
/-- an object laid beside the mutable ones -/
theorem Good.laid (g : Good K ι H S) {p : Addr} {o : HO} (hp : H p = none) : Good K ι (upd H p o) S := ⟨g.len, g.nd, g.dj, fun b hb => by
  obtain ⟨u, hu⟩ := g.tr b hb
  exact ⟨u, by rw [upd_ne (ne_of_none hu hp)]; exact hu⟩, fun n m a h1 h2 => by
  have r := g.obj n m a h1 h2
  have hne : a ≠ p := fun e => g.fresh hp (by rw [← e]; exact Ix.mem_get h2)
  exact r.mono (Keep.laid hp) (upd_ne hne)⟩
/-- a new mutable object -/
theorem Good.made (g : Good K ι H S) {p : Addr} {o : HO} {m : M} (hp : H p = none) (r : RepM K (ι ++ [p]) (upd H p o) p m) : Good K (ι ++ [p]) (upd H p o) (S ++ [m]) := by
  have np := g.fresh hp
  have gl : ι.v.length = S.length := g.len
  refine ⟨by simp [Ix.length, Ix.app_v, gl], ?_, fun b hb hh => ?_, fun b hb => ?_, fun n m' a h1 h2 => ?_⟩
  · refine List.nodup_append.mpr ⟨g.nd, by simp, fun x hx y hy e => np ?_⟩
    have : y = p := by simpa using hy
    rw [← this, ← e]
    exact .inl hx
  · rcases List.mem_append.mp hb with q | q
    · exact g.dj b q hh
    · have e : b = p := by simpa using q
      exact np (by rw [← e]; exact .inr hh)
  · obtain ⟨u, hu⟩ := g.tr b hb
    exact ⟨u, by rw [upd_ne (ne_of_none hu hp)]; exact hu⟩
  · rw [Ix.get_def, Ix.app_v] at h2
    by_cases hn : n < S.length
    · rw [List.getElem?_append_left hn] at h1
      rw [List.getElem?_append_left (by rw [gl]; exact hn)] at h2
      have hne : a ≠ p := fun e => np (by rw [← e]; exact .inl (List.mem_of_getElem? h2))
      exact (g.obj n m' a h1 h2).mono (Keep.made hp) (upd_ne hne)
    · rw [List.getElem?_append_right (by omega)] at h1
      rw [List.getElem?_append_right (by rw [gl]; omega)] at h2
      rw [gl] at h2
      have e0 : n - S.length = 0 := by
        have := (List.getElem?_eq_some_iff.mp h1).1
        simp at this
        omega
      rw [e0] at h1 h2
      have h1' : m = m' := by simpa using h1
      have h2' : p = a := by simpa using h2
      rw [← h1', ← h2']
      exact r
theorem nodup_ix' {N : List Addr} (hN : N.Nodup) {i j : Nat} {x : Addr} (a : N[i]? = some x) (b : N[j]? = some x) : i = j := by
  obtain ⟨h1, e1⟩ := List.getElem?_eq_some_iff.mp a
  obtain ⟨h2, e2⟩ := List.getElem?_eq_some_iff.mp b
  exact (List.getElem_inj hN).mp (e1.trans e2.symm)
/-- a mutable object changed -/
theorem Good.write (g : Good K ι H S) {n : Nat} {p : Addr} {o : HO} {m : M} (hp : ι[n]? = some p) (r : RepM K ι (upd H p o) p m) : Good K ι (upd H p o) (S.set n m) := by
  refine ⟨by simp [g.len], g.nd, g.dj, fun b hb => ?_, fun j m' a h1 h2 => ?_⟩
  · obtain ⟨u, hu⟩ := g.tr b hb
    exact ⟨u, by rw [upd_ne (fun e => g.dj p (List.mem_of_getElem? hp) (by rw [← e]; exact hb))]; exact hu⟩
  have hn : n < S.length := by rw [← g.len]; exact (List.getElem?_eq_some_iff.mp hp).1
  by_cases hj : j = n
  · subst hj
    rw [List.getElem?_set_self hn] at h1
    cases h1
    rw [hp] at h2
    cases h2
    exact r
  · rw [List.getElem?_set_ne (Ne.symm hj)] at h1
    have hne : a ≠ p := fun e => hj (nodup_ix' g.nd h2 (by rw [e]; exact hp))
    exact (g.obj j m' a h1 h2).mono0 (Kp.write (Ix.mem_get hp)) (upd_ne hne)
theorem Keep.write (g : Good K ι H S) {n : Nat} {p : Addr} {o : HO} (hp : ι[n]? = some p) : Keep ι H ι (upd H p o) := ⟨⟨[], by simp⟩, fun _ h => h, fun _ h => .inl h, (Kp.write (Ix.mem_get hp)).old, fun b u hb h => by
  rw [upd_ne (fun e => g.dj p (List.mem_of_getElem? hp) (by rw [← e]; exact hb))]
  exact h, fun _ h => h⟩
theorem Good.lst_at (g : Good K ι H S) {n : Nat} {a : Addr} {ds : List D} (h : ι[n]? = some a) (e : S[n]? = some (.lst ds)) : ∃ xs, H a = some (.lst xs) ∧ Reps K ι H ds xs := g.obj n _ a e h
end

/-! ### the slots -/
def SRep (K : PySem.W.Frag) (ι : Ix) (H : Hp) (σ : L2.St) (δ : DEnv) : Prop := σ.length = δ.length ∧ ∀ (i : Nat) (d : D), δ[i]? = some (some d) → ∃ v, σ[i]? = some (some v) ∧ Rep K ι H d v
section
variable {K : PySem.W.Frag} {ι ι' : Ix} {H H' : Hp} {σ : L2.St} {δ : DEnv}
theorem SRep.mono0 (k : Kp ι H ι' H') (h : SRep K ι H σ δ) : SRep K ι' H' σ δ := ⟨h.1, fun i d e => by
  obtain ⟨v, q1, q2⟩ := h.2 i d e
  exact ⟨v, q1, Rep.mono0 k _ _ q2⟩⟩
theorem SRep.mono (k : Keep ι H ι' H') (h : SRep K ι H σ δ) : SRep K ι' H' σ δ := ⟨h.1, fun i d e => by
  obtain ⟨v, q1, q2⟩ := h.2 i d e
  exact ⟨v, q1, Rep.mono k _ _ q2⟩⟩
theorem SRep.set {d : D} {v : V} (h : SRep K ι H σ δ) (r : Rep K ι H d v) (i : Nat) : SRep K ι H (σ.set i (some v)) (δ.set i (some d)) := by
  refine ⟨by simp [h.1], fun j d' e => ?_⟩
  by_cases hj : i = j
  · subst hj
    by_cases hl : i < δ.length
    · rw [List.getElem?_set_self hl] at e
      cases e
      exact ⟨v, by rw [List.getElem?_set_self (by rw [h.1]; exact hl)], r⟩
    · rw [List.getElem?_eq_none (by simpa using hl)] at e
      cases e
  · rw [List.getElem?_set_ne hj] at e ⊢
    exact h.2 j d' e
def wipeD (δ : DEnv) : List Nat → DEnv
  | [] => δ
  | v :: vs => (wipeD δ vs).set v none
theorem SRep.wipe (h : SRep K ι H σ δ) : ∀ vs : List Nat, SRep K ι H (L2.wipe σ vs) (wipeD δ vs)
  | [] => h
  | v :: vs => by
    have q := SRep.wipe h vs
    refine ⟨by simp [L2.wipe, wipeD, q.1], fun j d e => ?_⟩
    unfold wipeD at e
    unfold L2.wipe
    by_cases hj : v = j
    · subst hj
      by_cases hl : v < (wipeD δ vs).length
      · rw [List.getElem?_set_self hl] at e
        cases e
      · rw [List.getElem?_eq_none (by simpa using hl)] at e
        cases e
    · rw [List.getElem?_set_ne hj] at e ⊢
      exact q.2 j d e
/-- slots forgotten -/
theorem SRep.weak {δ' : DEnv} (h : SRep K ι H σ δ) (hl : δ'.length = δ.length) (w : ∀ (i : Nat) (d : D), δ'[i]? = some (some d) → δ[i]? = some (some d)) : SRep K ι H σ δ' := ⟨h.1.trans hl.symm, fun i d e => h.2 i d (w i d e)⟩
end

/-! ### results -/
def Post {α : Type} (K : PySem.W.Frag) (EX : Str → D → Ix → Hp → Store → Prop) (ι : Ix) (H : Hp) (P : α → Ix → Hp → Store → Prop) : R α → Prop
  | .ok a S => ∀ ι' H', Keep ι H ι' H' → Good K ι' H' S → P a ι' H' S
  | .exc c d S => ∀ ι' H', Keep ι H ι' H' → Good K ι' H' S → EX c d ι' H' S
  | .bad => False
section
variable {α β : Type} {K : PySem.W.Frag} {EX : Str → D → Ix → Hp → Store → Prop} {ι ι' : Ix} {H H' : Hp}
theorem Post.mono {P : α → Ix → Hp → Store → Prop} {r : R α} (k : Keep ι H ι' H') (h : Post K EX ι H P r) : Post K EX ι' H' P r := by
  cases r with
  | ok a S => exact fun ι2 H2 k2 g => h ι2 H2 (k.trans k2) g
  | exc c d S => exact fun ι2 H2 k2 g => h ι2 H2 (k.trans k2) g
  | bad => exact h
theorem Post.imp {P P' : α → Ix → Hp → Store → Prop} {r : R α} (h : Post K EX ι H P r) (f : ∀ a ι' H' S, Keep ι H ι' H' → Good K ι' H' S → P a ι' H' S → P' a ι' H' S) : Post K EX ι H P' r := by
  cases r with
  | ok a S => exact fun ι2 H2 k2 g => f a ι2 H2 S k2 g (h ι2 H2 k2 g)
  | exc c d S => exact h
  | bad => exact h
/-- one piece behind another -/
theorem Post.seq {P : β → Ix → Hp → Store → Prop} {P1 : α → Ix → Hp → Store → Prop} {r : R α} {g : α → Store → R β} (h : Post K EX ι H P (r.bind g))
    (f : ∀ a ι1 H1 S1, Keep ι H ι1 H1 → Good K ι1 H1 S1 → Post K EX ι1 H1 P (g a S1) → P1 a ι1 H1 S1) : Post K EX ι H P1 r := by
  cases r with
  | ok a S => exact fun ι2 H2 k2 g2 => f a ι2 H2 S k2 g2 (Post.mono k2 h)
  | exc c d S => exact h
  | bad => exact h
end
end DL
end
section
set_option Elab.async false
set_option linter.all false
set_option maxRecDepth 100000
set_option maxHeartbeats 4000000
/-! the data layer 2: expressions -/
namespace DL
open PySem PySem.Spec PyProof.Rows L2

/-- the ground of a piece of code: where it began, which exceptions may leave -/
structure Yc where
  ι0 : Ix
  H0 : Hp
  EX : Str → D → Ix → Hp → Store → Prop
abbrev Y0 : Yc := ⟨Ix.none, fun _ => none, fun _ _ _ _ _ => False⟩
def Lift {α : Type} (K : PySem.W.Frag) (Y : Yc) (f : DEnv → Store → R α) (σ : L2.St) (H : Hp) (P : α → Ix → Hp → Store → Prop) : Prop :=
  ∃ ι δ S, Keep Y.ι0 Y.H0 ι H ∧ SRep K ι H σ δ ∧ Good K ι H S ∧ Post K Y.EX ι H P (f δ S)
def pE (K : PySem.W.Frag) (Q : VK) : D → Ix → Hp → Store → Prop := fun d ι H _ => ∀ v, Rep K ι H d v → Q v H
def pT (Q : Bool → Hp → Prop) : Bool → Ix → Hp → Store → Prop := fun b _ H _ => Q b H
def pA (K : PySem.W.Frag) (Q : List V → Hp → Prop) : List D → Ix → Hp → Store → Prop := fun ds ι H _ => ∀ vs, Reps K ι H ds vs → Q vs H
def tl (K : PySem.W.Frag) (Y : Yc) (f : DEnv → Store → R D) : TE := fun σ H Q => Lift K Y f σ H (pE K Q)
def tlT (K : PySem.W.Frag) (Y : Yc) (f : DEnv → Store → R Bool) : TT := fun σ H Q => Lift K Y f σ H (pT Q)
def tlA (K : PySem.W.Frag) (Y : Yc) (f : DEnv → Store → R (List D)) : TA := fun σ H Q => Lift K Y f σ H (pA K Q)
def SE (X : Cx) (Y : Yc) (e : Expr) (f : DEnv → Store → R D) : Prop := PE X e (tl X.K Y f)
def ST (X : Cx) (Y : Yc) (e : Expr) (f : DEnv → Store → R Bool) : Prop := PT X e (tlT X.K Y f)
def SA (X : Cx) (Y : Yc) (es : List Expr) (f : DEnv → Store → R (List D)) : Prop := PA X es (tlA X.K Y f)
theorem PE.imp {X : Cx} {e : Expr} {t t' : TE} (h : PE X e t) (i : ∀ σ H Q, t' σ H Q → t σ H Q) : PE X e t' := ⟨fun pins s σ H Q I q => h.run pins s σ H Q I (i σ H Q q)⟩
theorem PT.imp {X : Cx} {e : Expr} {t t' : TT} (h : PT X e t) (i : ∀ σ H Q, t' σ H Q → t σ H Q) : PT X e t' := ⟨fun pins s σ H Q I q => h.run pins s σ H Q I (i σ H Q q)⟩
theorem PW.imp {X : Cx} {e : Expr} {t t' : TT} (h : PW X e t) (i : ∀ σ H Q, t' σ H Q → t σ H Q) : PW X e t' := ⟨fun w pins s σ H Q I q => h.run w pins s σ H Q I (i σ H Q q)⟩
theorem PA.imp {X : Cx} {e : List Expr} {t t' : TA} (h : PA X e t) (i : ∀ σ H Q, t' σ H Q → t σ H Q) : PA X e t' := ⟨fun p pins s σ H Q I q => h.run p pins s σ H Q I (i σ H Q q)⟩
def ofO {α : Type} : Option (α × Store) → R α
  | some (a, S) => .ok a S
  | none => .bad
@[simp] theorem ofO_some {α : Type} (a : α) (S : Store) : ofO (some (a, S)) = .ok a S := rfl
@[simp] theorem ofO_none {α : Type} : ofO (none : Option (α × Store)) = .bad := rfl

/-! ### what the pieces do -/
def evVar (i : Nat) : DEnv → Store → R D := fun δ S => match δ[i]? with
  | some (some d) => .ok d S
  | _ => .bad
def evC (d : D) : DEnv → Store → R D := fun _ S => .ok d S
def evBin (op : D → D → Store → Option (D × Store)) (fa fb : DEnv → Store → R D) : DEnv → Store → R D := fun δ S => (fa δ S).bind fun d1 S1 => (fb δ S1).bind fun d2 S2 => ofO (op d1 d2 S2)
def evUn (op : D → Option D) (fa : DEnv → Store → R D) : DEnv → Store → R D := fun δ S => (fa δ S).bind fun d1 S1 => ofO ((op d1).map (·, S1))
def p2 (f : D → D → Option D) : D → D → Store → Option (D × Store) := fun a b S => (f a b).map (·, S)
def evNil : DEnv → Store → R (List D) := fun _ S => .ok [] S
def evCons (fa : DEnv → Store → R D) (fr : DEnv → Store → R (List D)) : DEnv → Store → R (List D) := fun δ S => (fa δ S).bind fun d S1 => (fr δ S1).bind fun ds S2 => .ok (d :: ds) S2
def evTup (fr : DEnv → Store → R (List D)) : DEnv → Store → R D := fun δ S => (fr δ S).bind fun ds S1 => if ds.length ≤ sizeLine then .ok (.tup ds) S1 else .bad
def evLst (fr : DEnv → Store → R (List D)) : DEnv → Store → R D := fun δ S => (fr δ S).bind fun ds S1 => if ds.length ≤ sizeLine then .ok (.lst ds) S1 else .bad
def evNew (fr : DEnv → Store → R (List D)) : DEnv → Store → R D := fun δ S => (fr δ S).bind fun ds S1 => if ds.length ≤ sizeLine then .ok (.ref S1.length) (S1 ++ [.lst ds]) else .bad
def asB : D → Option Bool
  | .bl b => some b
  | _ => none
def evTest (fa : DEnv → Store → R D) : DEnv → Store → R Bool := fun δ S => (fa δ S).bind fun d S1 => ofO ((asB d).map (·, S1))
def evAndT (fa fb : DEnv → Store → R Bool) : DEnv → Store → R Bool := fun δ S => (fa δ S).bind fun b S1 => if b = true then fb δ S1 else .ok false S1
def evOrT (fa fb : DEnv → Store → R Bool) : DEnv → Store → R Bool := fun δ S => (fa δ S).bind fun b S1 => if b = true then .ok true S1 else fb δ S1
def evNotT (fa : DEnv → Store → R Bool) : DEnv → Store → R Bool := fun δ S => (fa δ S).bind fun b S1 => .ok (!b) S1
def evAnd (fa fb : DEnv → Store → R D) : DEnv → Store → R D := fun δ S => (fa δ S).bind fun d S1 => match d with
  | .bl true => fb δ S1
  | .bl false => .ok (.bl false) S1
  | _ => .bad
def evOr (fa fb : DEnv → Store → R D) : DEnv → Store → R D := fun δ S => (fa δ S).bind fun d S1 => match d with
  | .bl true => .ok (.bl true) S1
  | .bl false => fb δ S1
  | _ => .bad
def evNot (fa : DEnv → Store → R D) : DEnv → Store → R D := fun δ S => (fa δ S).bind fun d S1 => match d with
  | .bl b => .ok (.bl (!b)) S1
  | _ => .bad
def evIte (c : DEnv → Store → R Bool) (fa fb : DEnv → Store → R D) : DEnv → Store → R D := fun δ S => (c δ S).bind fun b S1 => if b = true then fa δ S1 else fb δ S1
def dTruth (S : Store) : D → Option Bool
  | .non => some false
  | .bl b => some b
  | .int i => some (i != 0)
  | .tup xs => some (!xs.isEmpty)
  | .lst xs => some (!xs.isEmpty)
  | _ => none
def evTruth (fa : DEnv → Store → R D) : DEnv → Store → R Bool := fun δ S => (fa δ S).bind fun d S1 => ofO ((dTruth S1 d).map (·, S1))
/-- a op b op' c -/
def evChain (op op' : D → D → Store → Option (D × Store)) (fa fb fc : DEnv → Store → R D) : DEnv → Store → R D := fun δ S => (fa δ S).bind fun x S1 => (fb δ S1).bind fun y S2 => (ofO (op x y S2)).bind fun z S3 => match z with
  | .bl true => (fc δ S3).bind fun w S4 => ofO (op' y w S4)
  | .bl false => .ok (.bl false) S3
  | _ => .bad

section
variable {X : Cx} {Y : Yc} {a b c e : Expr} {es : List Expr} {fa fb fc : DEnv → Store → R D} {fr : DEnv → Store → R (List D)} {ga gb : DEnv → Store → R Bool} {pos : Pos}

/-! ### names, constants -/
theorem se_var {i : Nat} (h : PE X e (tVar i)) : SE X Y e (evVar i) := PE.imp h fun σ H Q ⟨ι, δ, S, k, sr, g, q⟩ => by
  unfold evVar at q
  split at q
  · rename_i d hd
    obtain ⟨v, hv, r⟩ := sr.2 i d hd
    exact ⟨v, hv, q ι H (Keep.refl _ _) g v r⟩
  · exact q.elim
theorem se_const {d : D} {v : V} (h : PE X e (tC v)) (r : ∀ ι H, Rep X.K ι H d v) : SE X Y e (evC d) := PE.imp h fun σ H Q ⟨ι, δ, S, k, sr, g, q⟩ =>
  q ι H (Keep.refl _ _) g v (r ι H)
theorem se_int {i j} : SE X Y (.Constant (.int i) j pos) (evC (.int i)) := se_const pe_int fun _ _ => .int i
theorem se_bl {x j} : SE X Y (.Constant (.bool x) j pos) (evC (.bl x)) := se_const pe_bl fun _ _ => .bl x
theorem se_non {j} : SE X Y (.Constant .none j pos) (evC .non) := se_const pe_non fun _ _ => .non
theorem se_str {x j} : SE X Y (.Constant (.str x) j pos) (evC (.str x)) := se_const pe_str fun _ _ => .str x

/-! ### argument lists and displays -/
theorem sa_nil : SA X Y [] evNil := PA.imp pa_nil fun σ H Q ⟨ι, δ, S, k, sr, g, q⟩ => q ι H (Keep.refl _ _) g [] .nil
theorem sa_cons (ha : SE X Y e fa) (hr : SA X Y es fr) (hs : starEach (e :: es) X.env = (false, eval e X.env) :: starEach es X.env := by rfl) : SA X Y (e :: es) (evCons fa fr) :=
  PA.imp (pa_cons ha hr hs) fun σ H Q ⟨ι, δ, S, k, sr, g, q⟩ => by
    refine ⟨ι, δ, S, k, sr, g, Post.seq q fun d ι1 H1 S1 k1 g1 q1 => fun v rv => ?_⟩
    refine ⟨ι1, δ, S1, k.trans k1, sr.mono k1, g1, Post.seq q1 fun ds ι2 H2 S2 k2 g2 q2 => fun vs rvs => ?_⟩
    exact q2 ι2 H2 (Keep.refl _ _) g2 _ (.cons (Rep.mono k2 _ _ rv) rvs)

/-! ### new objects -/
theorem fin_tup {pins : List (Addr × Obj)} {s : Shared} {σ : L2.St} {H : Hp} {Q : VK} {ι : Ix} {S : Store} {ds : List D} {xs : List V} {its : List Value} {h' : Heap} {p tk : Nat} (I : Inv X pins σ H s) (g : Good X.K ι H S) (r : Vals xs its) (rd : Reps X.K ι H ds xs)
    (hz : xs.length ≤ sizeLine) (kp : ∀ b u, s.heap.get? b = some u → h'.get? b = some u) (hp : s.heap.objs.size ≤ p) (ho : h'.get? p = some { cls := .type "tuple", data := .seq its.toArray })
    (q : ∀ ι' H', Keep ι H ι' H' → Good X.K ι' H' S → pE X.K Q (.tup ds) ι' H' S) : EP X pins σ Q (.ref p) { s with heap := h', toks := tk } := by
  have hn := I.hok.fresh hp
  refine ⟨.ref p, upd H p (.frz { cls := .type "tuple", data := .seq its.toArray } (.tup xs)), I.laid kp hp ⟨ho, hz, its, r, ⟨_, ho, rfl, _, rfl⟩⟩, rfl, ?_⟩
  refine q ι _ (Keep.laid hn) (g.laid hn) _ (.tup (.inl ⟨g.fresh hn, _, upd_same, rfl⟩) (Reps.mono (Keep.laid hn) _ _ rd))
theorem fin_lst {pins : List (Addr × Obj)} {σ : L2.St} {H : Hp} {Q : VK} {ι : Ix} {S : Store} {ds : List D} {xs : List V} {p : Addr} {u : Value} {s' : Shared} (g : Good X.K ι H S) (rd : Reps X.K ι H ds xs) (hn : H p = none)
    (I : Inv X pins σ (upd H p (.lst xs)) s') (hu : u = .ref p)
    (q : ∀ ι' H', Keep ι H ι' H' → Good X.K ι' H' S → pE X.K Q (.lst ds) ι' H' S) : EP X pins σ Q u s' := by
  subst hu
  exact ⟨.ref p, _, I, rfl, q ι _ (Keep.laid hn) (g.laid hn) _ (.lst (.inl ⟨g.fresh hn, .inl upd_same⟩) (Reps.mono (Keep.laid hn) _ _ rd))⟩
theorem se_tup {x1} (h : SA X Y es fr) : SE X Y (.Tuple es x1 pos) (evTup fr) := by
  refine ⟨fun pins s σ H Q I hq => ?_⟩
  obtain ⟨ι, δ, S, k, sr, g, q⟩ := hq
  have hA : tlA X.K Y fr σ H fun vs H1 => vs.length ≤ sizeLine ∧ ∃ ι1 S1 ds, Good X.K ι1 H1 S1 ∧ Reps X.K ι1 H1 ds vs ∧ ∀ ι' H', Keep ι1 H1 ι' H' → Good X.K ι' H' S1 → pE X.K Q (.tup ds) ι' H' S1 :=
    ⟨ι, δ, S, k, sr, g, Post.seq q fun ds ι1 H1 S1 k1 g1 q1 => fun vs rvs => by
      split at q1
      · rename_i hz
        exact ⟨by rw [← rvs.length]; exact hz, ι1, S1, ds, g1, rvs, q1⟩
      · exact q1.elim⟩
  refine wpAny_Tuple_spliced (thn (h.run pos pins s σ H _ I hA) fun us s1 ⟨xs, H1, I1, r, hz, ι1, S1, ds, g1, rd, q1⟩ => ⟨by rw [← r.length]; exact hz, ?_⟩)
  exact fin_tup (tk := s1.toks) I1 g1 r rd hz (fun b u e => Heap.get?_push_of_some _ e) (Nat.le_refl _) (Heap.get?_push_size _ rfl) q1
theorem se_lst (h : SA X Y es fr) : SE X Y (.List es pos) (evLst fr) := PE.imp (pe_lst h) fun σ H Q ⟨ι, δ, S, k, sr, g, q⟩ =>
  ⟨ι, δ, S, k, sr, g, Post.seq q fun ds ι1 H1 S1 k1 g1 q1 => fun vs rvs => by
    split at q1
    · rename_i hz
      refine ⟨by rw [← rvs.length]; exact hz, fun p hp => ?_⟩
      exact q1 ι1 _ (Keep.laid hp) (g1.laid hp) _ (.lst (.inl ⟨g1.fresh hp, .inl upd_same⟩) (Reps.mono (Keep.laid hp) _ _ rvs))
    · exact q1.elim⟩
theorem se_new (h : SA X Y es fr) : SE X Y (.List es pos) (evNew fr) := PE.imp (pe_lst h) fun σ H Q ⟨ι, δ, S, k, sr, g, q⟩ =>
  ⟨ι, δ, S, k, sr, g, Post.seq q fun ds ι1 H1 S1 k1 g1 q1 => fun vs rvs => by
    split at q1
    · rename_i hz
      refine ⟨by rw [← rvs.length]; exact hz, fun p hp => ?_⟩
      have km : Keep ι1 H1 (ι1 ++ [p]) (upd H1 p (.lst vs)) := Keep.made hp
      refine q1 (ι1 ++ [p]) _ km (g1.made hp ⟨vs, upd_same, Reps.mono km _ _ rvs⟩) _ (.ref (Ix.get_new g1.len))
    · exact q1.elim⟩

/-! ### operators by values -/
def rOf (K : PySem.W.Frag) (op : D → D → Store → Option (D × Store)) : R2 := fun x y H Q => ∃ ι S d1 d2 d S', Good K ι H S ∧ Rep K ι H d1 x ∧ Rep K ι H d2 y ∧ op d1 d2 S = some (d, S') ∧ ∀ ι' H', Keep ι H ι' H' → Good K ι' H' S' → pE K Q d ι' H' S'
theorem lift_op {op : D → D → Store → Option (D × Store)} {d1 d2 : D} {S : Store} {K : PySem.W.Frag} {EX : Str → D → Ix → Hp → Store → Prop} {ι : Ix} {H : Hp} {Q : VK} {x y : V} (g : Good K ι H S) (rx : Rep K ι H d1 x) (ry : Rep K ι H d2 y)
    (q : Post K EX ι H (pE K Q) (ofO (op d1 d2 S))) : rOf K op x y H Q := by
  cases e : op d1 d2 S with
  | none => rw [e] at q; exact q.elim
  | some z =>
    obtain ⟨d, S'⟩ := z
    rw [e] at q
    exact ⟨ι, S, d1, d2, d, S', g, rx, ry, e, q⟩
theorem lift_two {op : D → D → Store → Option (D × Store)} {K : PySem.W.Frag} {σ : L2.St} {H : Hp} {Q : VK} (h : Lift K Y (evBin op fa fb) σ H (pE K Q)) : tOp (rOf K op) (tl K Y fa) (tl K Y fb) σ H Q := by
  obtain ⟨ι, δ, S, k, sr, g, q⟩ := h
  refine ⟨ι, δ, S, k, sr, g, Post.seq q fun d ι1 H1 S1 k1 g1 q1 => fun v rv => ?_⟩
  refine ⟨ι1, δ, S1, k.trans k1, sr.mono k1, g1, Post.seq q1 fun d2 ι2 H2 S2 k2 g2 q2 => fun w rw' => ?_⟩
  exact lift_op g2 (Rep.mono k2 _ _ rv) rw' q2
abbrev OpS (X : Cx) (f : Value → Value → Sem Value) (op : D → D → Store → Option (D × Store)) : Prop := OpR X f (rOf X.K op)
theorem se_bin {o : Operator} {op : D → D → Store → Option (D × Store)} (ho : OpS X (binaryOp o) op) (ha : SE X Y a fa) (hb : SE X Y b fb) : SE X Y (.BinOp a o b pos) (evBin op fa fb) := PE.imp (pe_op ho ha hb) fun _ _ _ h => lift_two h
theorem se_cmp {o : CmpOp} {op : D → D → Store → Option (D × Store)} (ho : OpS X (compareOp o) op) (ha : SE X Y a fa) (hb : SE X Y b fb) (hm : behindInMarks o b = false := by with_unfolding_all rfl) : SE X Y (.Compare a [o] [b] pos) (evBin op fa fb) := PE.imp (pe_cmpR ho ha hb hm) fun _ _ _ h => lift_two h
theorem post_test {K : PySem.W.Frag} {EX : Str → D → Ix → Hp → Store → Prop} {ι : Ix} {H : Hp} {Q : Bool → Hp → Prop} {r : R D} (h : Post K EX ι H (pT Q) (r.bind fun d S1 => ofO ((asB d).map (·, S1)))) : Post K EX ι H (pE K fun x H' => ∃ k, x = .bl k ∧ Q k H') r :=
  Post.seq h fun d ι1 H1 S1 k1 g1 q1 => fun v rv => by
    cases d with
    | bl x =>
      cases rv
      exact ⟨x, rfl, q1 ι1 H1 (Keep.refl _ _) g1⟩
    | _ => exact q1.elim
theorem st_cmp {o : CmpOp} {op : D → D → Store → Option (D × Store)} (ho : OpS X (compareOp o) op) (ha : SE X Y a fa) (hb : SE X Y b fb) (hm : behindInMarks o b = false := by with_unfolding_all rfl) : ST X Y (.Compare a [o] [b] pos) (evTest (evBin op fa fb)) :=
  PT.imp (pt_cmpR ho ha hb hm) fun σ H Q ⟨ι, δ, S, k, sr, g, q⟩ => lift_two ⟨ι, δ, S, k, sr, g, post_test q⟩
theorem st_val (h : SE X Y e fa) (he : ∀ whole, isTrue e X.env whole = (do let v ← whole; standAt e.pos; holding [v] (truthy v)) := by intro _; rfl) : ST X Y e (evTest fa) :=
  PT.imp (pt_val h he) fun σ H Q ⟨ι, δ, S, k, sr, g, q⟩ => ⟨ι, δ, S, k, sr, g, post_test q⟩
theorem st_truth (h : SE X Y e fa) (he : ∀ whole, isTrue e X.env whole = (do let v ← whole; standAt e.pos; holding [v] (truthy v)) := by intro _; rfl) : ST X Y e (evTruth fa) :=
  PT.imp (pt_truth h he) fun σ H Q ⟨ι, δ, S, k, sr, g, q⟩ => ⟨ι, δ, S, k, sr, g, Post.seq q fun d ι1 H1 S1 k1 g1 q1 => fun v rv => by
    cases rv with
    | non => exact ⟨false, rfl, q1 ι1 H1 (Keep.refl _ _) g1⟩
    | bl x => exact ⟨x, rfl, q1 ι1 H1 (Keep.refl _ _) g1⟩
    | int i => exact ⟨_, rfl, q1 ι1 H1 (Keep.refl _ _) g1⟩
    | str x => exact q1.elim
    | @tup p xs ds hs hr =>
      have e : (!ds.isEmpty) = !xs.isEmpty := by cases hr <;> rfl
      have q2 : Q (!ds.isEmpty) H1 := q1 ι1 H1 (Keep.refl _ _) g1
      rw [e] at q2
      exact ⟨_, .inr (.inl ⟨xs, hs.sq, rfl⟩), q2⟩
    | @lst p xs ds hs hr =>
      have e : (!ds.isEmpty) = !xs.isEmpty := by cases hr <;> rfl
      have q2 : Q (!ds.isEmpty) H1 := q1 ι1 H1 (Keep.refl _ _) g1
      rw [e] at q2
      exact ⟨_, .inl ⟨xs, hs.sq, rfl⟩, q2⟩
    | ref _ => exact q1.elim
    | exn _ _ _ _ => exact q1.elim⟩
/-- a test whatever its whole is -/
def SW (X : Cx) (Y : Yc) (e : Expr) (f : DEnv → Store → R Bool) : Prop := PW X e (tlT X.K Y f)
theorem SW.st (h : SW X Y e ga) : ST X Y e ga := PW.pt h
theorem sw_and1 (h : ST X Y a ga) : SW X Y (.BoolOp .And [a] pos) ga := pw_and1 h
theorem sw_or1 (h : ST X Y a ga) : SW X Y (.BoolOp .Or [a] pos) ga := pw_or1 h
theorem sw_and {rest : List Expr} (ha : ST X Y a ga) (hb : SW X Y (.BoolOp .And (b :: rest) pos) gb) : SW X Y (.BoolOp .And (a :: b :: rest) pos) (evAndT ga gb) :=
  PW.imp (pw_and ha hb) fun σ H Q ⟨ι, δ, S, k, sr, g, q⟩ => ⟨ι, δ, S, k, sr, g, Post.seq q fun d ι1 H1 S1 k1 g1 q1 => by
    cases d with
    | true => unfold pT; exact iteT ⟨ι1, δ, S1, k.trans k1, sr.mono k1, g1, q1⟩
    | false => unfold pT; exact iteF (q1 ι1 H1 (Keep.refl _ _) g1)⟩
theorem sw_or {rest : List Expr} (ha : ST X Y a ga) (hb : SW X Y (.BoolOp .Or (b :: rest) pos) gb) : SW X Y (.BoolOp .Or (a :: b :: rest) pos) (evOrT ga gb) :=
  PW.imp (pw_or ha hb) fun σ H Q ⟨ι, δ, S, k, sr, g, q⟩ => ⟨ι, δ, S, k, sr, g, Post.seq q fun d ι1 H1 S1 k1 g1 q1 => by
    cases d with
    | true => unfold pT; exact iteT (q1 ι1 H1 (Keep.refl _ _) g1)
    | false => unfold pT; exact iteF ⟨ι1, δ, S1, k.trans k1, sr.mono k1, g1, q1⟩⟩
theorem st_not (ha : ST X Y a ga) : ST X Y (.UnaryOp .Not a pos) (evNotT ga) :=
  PT.imp (pt_not ha) fun σ H Q ⟨ι, δ, S, k, sr, g, q⟩ => ⟨ι, δ, S, k, sr, g, Post.seq q fun d ι1 H1 S1 k1 g1 q1 => q1 ι1 H1 (Keep.refl _ _) g1⟩
/-! ### and, or, not as values -/
theorem se_one {o : BoolOp} (h : SE X Y a fa) : SE X Y (.BoolOp o [a] pos) fa := pe_one h
theorem se_and {rest : List Expr} (ha : SE X Y a fa) (hb : SE X Y (.BoolOp .And (b :: rest) pos) fb) : SE X Y (.BoolOp .And (a :: b :: rest) pos) (evAnd fa fb) :=
  PE.imp (pe_and ha hb) fun σ H Q ⟨ι, δ, S, k, sr, g, q⟩ => ⟨ι, δ, S, k, sr, g, Post.seq q fun d ι1 H1 S1 k1 g1 q1 => fun v rv => by
    cases rv with
    | bl x => cases x with
      | true => exact ⟨true, rfl, iteT ⟨ι1, δ, S1, k.trans k1, sr.mono k1, g1, q1⟩⟩
      | false => exact ⟨false, rfl, iteF (q1 ι1 H1 (Keep.refl _ _) g1 _ (.bl false))⟩
    | _ => exact q1.elim⟩
theorem se_or {rest : List Expr} (ha : SE X Y a fa) (hb : SE X Y (.BoolOp .Or (b :: rest) pos) fb) : SE X Y (.BoolOp .Or (a :: b :: rest) pos) (evOr fa fb) :=
  PE.imp (pe_or ha hb) fun σ H Q ⟨ι, δ, S, k, sr, g, q⟩ => ⟨ι, δ, S, k, sr, g, Post.seq q fun d ι1 H1 S1 k1 g1 q1 => fun v rv => by
    cases rv with
    | bl x => cases x with
      | true => exact ⟨true, rfl, iteT (q1 ι1 H1 (Keep.refl _ _) g1 _ (.bl true))⟩
      | false => exact ⟨false, rfl, iteF ⟨ι1, δ, S1, k.trans k1, sr.mono k1, g1, q1⟩⟩
    | _ => exact q1.elim⟩
theorem se_not (ha : SE X Y a fa) : SE X Y (.UnaryOp .Not a pos) (evNot fa) :=
  PE.imp (pe_not ha) fun σ H Q ⟨ι, δ, S, k, sr, g, q⟩ => ⟨ι, δ, S, k, sr, g, Post.seq q fun d ι1 H1 S1 k1 g1 q1 => fun v rv => by
    cases rv with
    | bl x => exact ⟨x, rfl, q1 ι1 H1 (Keep.refl _ _) g1 _ (.bl _)⟩
    | _ => exact q1.elim⟩
theorem se_ite (hc : ST X Y c ga) (ha : SE X Y a fa) (hb : SE X Y b fb) : SE X Y (.IfExp c a b pos) (evIte ga fa fb) :=
  PE.imp (pe_ifExp hc ha hb) fun σ H Q ⟨ι, δ, S, k, sr, g, q⟩ => ⟨ι, δ, S, k, sr, g, Post.seq q fun d ι1 H1 S1 k1 g1 q1 => by
    cases d with
    | true => unfold pT; exact iteT ⟨ι1, δ, S1, k.trans k1, sr.mono k1, g1, q1⟩
    | false => unfold pT; exact iteF ⟨ι1, δ, S1, k.trans k1, sr.mono k1, g1, q1⟩⟩
/-! ### a < b < c -/
theorem lift_chain {op op' : D → D → Store → Option (D × Store)} {K : PySem.W.Frag} {σ : L2.St} {H : Hp} {Q : VK} (h : Lift K Y (evChain op op' fa fb fc) σ H (pE K Q)) : tChain (rOf K op) (rOf K op') (tl K Y fa) (tl K Y fb) (tl K Y fc) σ H Q := by
  obtain ⟨ι, δ, S, k, sr, g, q⟩ := h
  refine ⟨ι, δ, S, k, sr, g, Post.seq q fun d ι1 H1 S1 k1 g1 q1 => fun v rv => ?_⟩
  refine ⟨ι1, δ, S1, k.trans k1, sr.mono k1, g1, Post.seq q1 fun d2 ι2 H2 S2 k2 g2 q2 => fun w rw' => ?_⟩
  refine lift_op g2 (Rep.mono k2 _ _ rv) rw' (Post.seq q2 fun z ι3 H3 S3 k3 g3 q3 => fun u ru => ?_)
  cases ru with
  | bl x => cases x with
    | true =>
      refine ⟨true, rfl, iteT ⟨ι3, δ, S3, (k.trans k1).trans (k2.trans k3), (sr.mono k1).mono (k2.trans k3), g3, Post.seq q3 fun d4 ι4 H4 S4 k4 g4 q4 => fun t rt => ?_⟩⟩
      exact lift_op g4 (Rep.mono (k3.trans k4) _ _ rw') rt q4
    | false => exact ⟨false, rfl, iteF (q3 ι3 H3 (Keep.refl _ _) g3 _ (.bl false))⟩
  | _ => exact q3.elim
theorem se_chain {o o' : CmpOp} {op op' : D → D → Store → Option (D × Store)} (ho : OpS X (compareOp o) op) (ho' : OpS X (compareOp o') op') (ha : SE X Y a fa) (hb : SE X Y b fb) (hc : SE X Y c fc)
    (hm : lastMarks [o, o'] [b, c] = false := by with_unfolding_all rfl) : SE X Y (.Compare a [o, o'] [b, c] pos) (evChain op op' fa fb fc) := PE.imp (pe_chain ho ho' ha hb hc hm) fun _ _ _ h => lift_chain h
theorem st_chain {o o' : CmpOp} {op op' : D → D → Store → Option (D × Store)} (ho : OpS X (compareOp o) op) (ho' : OpS X (compareOp o') op') (ha : SE X Y a fa) (hb : SE X Y b fb) (hc : SE X Y c fc)
    (hm : lastMarks [o, o'] [b, c] = false := by with_unfolding_all rfl) : ST X Y (.Compare a [o, o'] [b, c] pos) (evTest (evChain op op' fa fb fc)) :=
  PT.imp (pt_chain ho ho' ha hb hc hm) fun σ H Q ⟨ι, δ, S, k, sr, g, q⟩ => lift_chain ⟨ι, δ, S, k, sr, g, post_test q⟩
theorem se_un {o : UnaryOp} {op : D → Option D} (ho : UnR X (unaryOp o) (fun x H Q => ∃ ι d d', Rep X.K ι H d x ∧ op d = some d' ∧ ∀ v, Rep X.K ι H d' v → Q v H)) (ha : SE X Y a fa) : SE X Y (.UnaryOp o a pos) (evUn op fa) :=
  PE.imp (pe_un ho ha) fun σ H Q ⟨ι, δ, S, k, sr, g, q⟩ => ⟨ι, δ, S, k, sr, g, Post.seq q fun d ι1 H1 S1 k1 g1 q1 => fun v rv => by
    cases e : op d with
    | none => rw [e] at q1; exact q1.elim
    | some d' => rw [e] at q1; exact ⟨ι1, d, d', rv, e, q1 ι1 H1 (Keep.refl _ _) g1⟩⟩
end
end DL
end
section
set_option Elab.async false
set_option linter.all false
set_option maxRecDepth 100000
set_option maxHeartbeats 4000000
/-! the data layer 3: operators -/
namespace DL
open PySem PySem.Spec PyProof.Rows L2

section
variable {X : Cx} {pins : List (Addr × Obj)} {s : Shared} {σ : L2.St} {H : Hp} {Q : VK} {ι : Ix} {S : Store}
theorem q0 {d : D} {v : V} (g : Good X.K ι H S) (q : ∀ ι' H', Keep ι H ι' H' → Good X.K ι' H' S → pE X.K Q d ι' H' S) (r : Rep X.K ι H d v) : Q v H := q ι H (Keep.refl _ _) g v r

/-! ### + -/
def oAdd : D → D → Store → Option (D × Store)
  | .int i, .int j, S => some (.int (i + j), S)
  | .str a, .str b, S => if a.length + b.length ≤ sizeLine then some (.str (a ++ b), S) else none
  | .tup a, .tup b, S => if a.length + b.length ≤ sizeLine then some (.tup (a ++ b), S) else none
  | .lst a, .lst b, S => if a.length + b.length ≤ sizeLine then some (.lst (a ++ b), S) else none
  | .ref n, .lst b, S => match S[n]? with
    | some (.lst a) => if a.length + b.length ≤ sizeLine then some (.lst (a ++ b), S) else none
    | _ => none
  | _, _, _ => none
theorem cat_lists {a b : Addr} {xs ys : List V} {ds es : List D} (I : Inv X pins σ H s) (ha : SqL X.K H a xs) (hb : SqL X.K H b ys) (g : Good X.K ι H S) (ra : Reps X.K ι H ds xs) (rb : Reps X.K ι H es ys)
    (hz : xs.length + ys.length ≤ sizeLine) (q : ∀ ι' H', Keep ι H ι' H' → Good X.K ι' H' S → pE X.K Q (.lst (ds ++ es)) ι' H' S) : wpAny (model X.prog X.w) X.A (binaryOp .Add (.ref a) (.ref b)) (EP X pins σ Q) X.xe s := by
  obtain ⟨its, r1, ⟨⟨cls, dd, data, sl⟩, n, ho, hc, hdn, hd⟩, _⟩ := I.list ha
  obtain ⟨its2, r2, ⟨⟨cls2, dd2, data2, sl2⟩, n2, ho2, hc2, hdn2, hd2⟩, _⟩ := I.list hb
  simp only at hc hd hc2 hd2 hdn hdn2
  subst hc hd hc2 hd2 hdn hdn2
  have l1 := r1.length
  have l2 := r2.length
  have e : its.toArray ++ its2.toArray = (its ++ its2).toArray := by simp
  refine concat_meets ⟨_, ho, rfl⟩ ⟨_, ho2, rfl⟩ noFill_list_add seq_list_add PySem.F.slot_list_add PySem.F.entry_list_add (PySem.F.args_list_add_2 _ _) (list_addW a b its.toArray its2.toArray n n2 none none sl sl2 (by simp only [List.size_toArray]; omega)) ⟨ho, ho2, ?_⟩
  rw [e]
  have hn := I.fresh
  exact fin_lst g (ra.append rb) hn (I.lnew (t' := s.toks) (r1.append r2) (by rw [List.length_append]; omega)) rfl q
theorem op_addD : OpS X (binaryOp .Add) oAdd := by
  intro pins s σ H x y v u Q I rv ru h
  obtain ⟨ι, S, d1, d2, d, S', g, r1, r2, e, q⟩ := h
  cases r1 with
  | int i =>
    cases r2 with
    | int j =>
      simp only [oAdd, Option.some.injEq, Prod.mk.injEq] at e
      obtain ⟨rfl, rfl⟩ := e
      exact op_add pins s σ H _ _ v u Q I rv ru ⟨_, _, rfl, rfl, q0 g q (.int _)⟩
    | _ => simp [oAdd] at e
  | str a =>
    cases r2 with
    | str b =>
      simp only [oAdd] at e
      split at e
      · rename_i hz
        simp only [Option.some.injEq, Prod.mk.injEq] at e
        obtain ⟨rfl, rfl⟩ := e
        exact op_add_str pins s σ H _ _ v u Q I rv ru ⟨_, _, rfl, rfl, hz, q0 g q (.str _)⟩
      · cases e
    | _ => simp [oAdd] at e
  | @tup p xs ds hs hr =>
    cases r2 with
    | @tup p2 ys es hs2 hr2 =>
      simp only [oAdd] at e
      split at e
      · rename_i hz
        simp only [Option.some.injEq, Prod.mk.injEq] at e
        obtain ⟨rfl, rfl⟩ := e
        cases rv
        cases ru
        obtain ⟨its, t1, p1, _⟩ := I.tuple hs.sq
        obtain ⟨its2, t2, pp2, _⟩ := I.tuple hs2.sq
        have l1 := hr.length
        have l2 := hr2.length
        by_cases hx : xs = []
        · subst hx
          cases t1
          cases hr
          exact cat_tup0 p1 pp2 ⟨.ref p2, H, I, rfl, q0 g q (.tup hs2 hr2)⟩
        · refine HT.cat_tup p1 pp2 (fun z => hx (t1.nil_iff.mp z)) (fun z => ⟨.ref p, H, I, rfl, ?_⟩) (fun z => ?_) (by rw [← t1.length, ← t2.length]; omega)
          · have ey := t2.nil_iff.mp z
            subst ey
            cases hr2
            rw [List.append_nil] at q
            exact q0 g q (.tup hs hr)
          · exact fin_tup (tk := s.toks) I g (t1.append t2) (hr.append hr2) (by rw [List.length_append]; omega) (fun b u e => Heap.get?_push_of_some _ e) (Nat.le_refl _) (Heap.get?_push_size _ rfl) q
      · cases e
    | _ => simp [oAdd] at e
  | @lst p xs ds hs hr =>
    cases r2 with
    | @lst p2 ys es hs2 hr2 =>
      simp only [oAdd] at e
      split at e
      · rename_i hz
        simp only [Option.some.injEq, Prod.mk.injEq] at e
        obtain ⟨rfl, rfl⟩ := e
        cases rv
        cases ru
        have l1 := hr.length
        have l2 := hr2.length
        exact cat_lists I hs.sq hs2.sq g hr hr2 (by omega) q
      · cases e
    | _ => simp [oAdd] at e
  | @ref n p hp =>
    cases r2 with
    | @lst p2 ys es hs2 hr2 =>
      simp only [oAdd] at e
      split at e
      · rename_i a ha
        split at e
        · rename_i hz
          simp only [Option.some.injEq, Prod.mk.injEq] at e
          obtain ⟨rfl, rfl⟩ := e
          cases rv
          cases ru
          obtain ⟨xs, hx, hr⟩ := g.lst_at hp ha
          have l1 := hr.length
          have l2 := hr2.length
          exact cat_lists I (SqL.of hx) hs2.sq g hr hr2 (by omega) q
        · cases e
      · cases e
    | _ => simp [oAdd] at e
  | _ => simp [oAdd] at e

/-! ### ints -/
def oInt (C : Int → Int → Bool) (f : Int → Int → D) : D → D → Store → Option (D × Store)
  | .int i, .int j, S => if C i j = true then some (f i j, S) else none
  | _, _, _ => none
theorem opInt {f : Value → Value → Sem Value} {C : Int → Int → Prop} {Cb : Int → Int → Bool} {gV : Int → Int → V} {gD : Int → Int → D} (ho : OpR X f (rI C gV)) (hc : ∀ i j, Cb i j = true → C i j) (hr : ∀ i j ι H, Rep X.K ι H (gD i j) (gV i j)) : OpS X f (oInt Cb gD) := by
  intro pins s σ H x y v u Q I rv ru h
  obtain ⟨ι, S, d1, d2, d, S', g, r1, r2, e, q⟩ := h
  cases r1 with
  | int i =>
    cases r2 with
    | int j =>
      simp only [oInt] at e
      split at e
      · rename_i hcb
        simp only [Option.some.injEq, Prod.mk.injEq] at e
        obtain ⟨rfl, rfl⟩ := e
        exact ho pins s σ H _ _ v u Q I rv ru ⟨_, _, rfl, rfl, hc _ _ hcb, q0 g q (hr _ _ _ _)⟩
      · cases e
    | _ => simp [oInt] at e
  | _ => simp [oInt] at e
theorem opInt0 {f : Value → Value → Sem Value} {gV : Int → Int → V} {gD : Int → Int → D} (ho : OpR X f (rI0 gV)) (hr : ∀ i j ι H, Rep X.K ι H (gD i j) (gV i j)) : OpS X f (oInt (fun _ _ => true) gD) := by
  intro pins s σ H x y v u Q I rv ru h
  obtain ⟨ι, S, d1, d2, d, S', g, r1, r2, e, q⟩ := h
  cases r1 with
  | int i =>
    cases r2 with
    | int j =>
      simp only [oInt, if_true, Option.some.injEq, Prod.mk.injEq] at e
      obtain ⟨rfl, rfl⟩ := e
      exact ho pins s σ H _ _ v u Q I rv ru ⟨_, _, rfl, rfl, q0 g q (hr _ _ _ _)⟩
    | _ => simp [oInt] at e
  | _ => simp [oInt] at e
abbrev oSub := oInt (fun _ _ => true) fun i j => .int (i - j)
abbrev oLt := oInt (fun _ _ => true) fun i j => .bl (decide (i < j))
abbrev oLe := oInt (fun _ _ => true) fun i j => .bl (decide (i ≤ j))
abbrev oGt := oInt (fun _ _ => true) fun i j => .bl (decide (j < i))
abbrev oGe := oInt (fun _ _ => true) fun i j => .bl (decide (j ≤ i))
theorem op_subD : OpS X (binaryOp .Sub) oSub := opInt0 op_sub fun i j _ _ => .int _
theorem op_ltD : OpS X (compareOp .Lt) oLt := opInt0 op_lt fun i j _ _ => .bl _
theorem op_leD : OpS X (compareOp .LtE) oLe := opInt0 op_le fun i j _ _ => .bl _
theorem op_gtD : OpS X (compareOp .Gt) oGt := opInt0 op_gt fun i j _ _ => .bl _
theorem op_geD : OpS X (compareOp .GtE) oGe := opInt0 op_ge fun i j _ _ => .bl _
/-- the bits of a number that are allowed on either side of a product -/
def wideOk (i j : Int) : Bool := decide (i.natAbs.log2 + j.natAbs.log2 < 100000000)
theorem wideOk_ok {i j : Int} (h : wideOk i j = true) : IntMulOk i j := by
  have b : ∀ x : Int, Builtin.Int.intBits x ≤ x.natAbs.log2 + 1 := fun x => by
    unfold Builtin.Int.intBits
    split <;> omega
  have h1 := b i
  have h2 := b j
  have h3 : i.natAbs.log2 + j.natAbs.log2 < 100000000 := of_decide_eq_true h
  have e : bitsLine = 134217728 := by decide
  unfold IntMulOk
  intro z
  rw [Bool.and_eq_true] at z
  have z2 := z.2
  unfold Builtin.Int.intTooBig at z2
  have z3 := of_decide_eq_true z2
  rw [e] at z3
  omega
theorem op_mulX : OpR X (binaryOp .Mult) (rI (fun i j => wideOk i j = true) fun i j => .int (i * j)) := opI fun _ _ _ _ _ _ _ hc q => mul_int q (wideOk_ok hc)
def divOk (_ j : Int) : Bool := decide (0 < j) && decide (j.natAbs.log2 < 9000)
abbrev oDiv := oInt divOk fun i j => .int (i / j)
abbrev oMod := oInt (fun _ j => decide (0 < j)) fun i j => .int (i % j)
abbrev oPow := oInt (fun i j => decide (0 ≤ j) && decide (j ≤ 1000000) && decide (i.natAbs < 2 ^ 64)) fun i j => .int (i ^ j.toNat)
theorem op_divD : OpS X (binaryOp .FloorDiv) oDiv := opInt op_fdivW (fun i j h => by
  unfold divOk at h
  rw [Bool.and_eq_true] at h
  exact ⟨of_decide_eq_true h.1, of_decide_eq_true h.2⟩) fun i j _ _ => .int _
theorem op_modD : OpS X (binaryOp .Mod) oMod := opInt op_mod (fun i j h => of_decide_eq_true h) fun i j _ _ => .int _
theorem op_powD : OpS X (binaryOp .Pow) oPow := opInt op_pow (fun i j h => by
  rw [Bool.and_eq_true, Bool.and_eq_true] at h
  exact ⟨of_decide_eq_true h.1.1, of_decide_eq_true h.1.2, of_decide_eq_true h.2⟩) fun i j _ _ => .int _
end

/-! ### * : ints, a tuple and an int -/
section
variable {P : Program} {w : World} {A : Around} {E : Value → Shared → Prop} {s : Shared}
theorem tuple_mul1 (l : Addr) (items : Array Value) (n : Nat) (dd : Option Addr) (sl : Array (Option Value)) (u : Tok) :
    Meets (Builtin.«tuple.__mul__» ⟨[.ref l, .int 1 u], []⟩) (fun _ R s => s.heap.get? l = some { cls := .type "tuple", dict := dd, data := .seq items n, slots := sl } ∧ R (.ok (.ret (Value.ref l))) s) :=
  .of_wp fun prog w A R s h => by
    obtain ⟨hp, g, d, tk, os⟩ := s
    obtain ⟨hl, h⟩ := h
    have f1 := AutoSeq1.idx_int
    have c1 : (items.isEmpty || (1 : Int) == 1) = true := by simp
    wp_walk using wpAny_loadPart' hl
    repeat (first
      | (refine wpAny_ite_true (decide_eq_true c1) ?_; wp_walk using wpAny_loadPart' hl)
      | (rw [if_pos c1]; wp_walk using wpAny_loadPart' hl))
    exact ⟨_, rfl, h⟩
end
end DL
end
section
set_option Elab.async false
set_option linter.all false
set_option maxRecDepth 100000
set_option maxHeartbeats 4000000
/-! the data layer 4: more operators; subscripts, built-ins, methods -/
namespace DL
open PySem PySem.Spec PyProof.Rows L2

theorem tuple_mul0 (l : Addr) (items : Array Value) (n : Nat) (dd : Option Addr) (sl : Array (Option Value)) (k : Int) (u : Tok) (c0 : (decide (k < -(2 ^ 63)) || decide (k ≥ 2 ^ 63)) = false) (c1 : (items.isEmpty || k == 1) = false) (c2 : (decide (k ≤ 0) || items.isEmpty) = true) :
    Meets (Builtin.«tuple.__mul__» ⟨[.ref l, .int k u], []⟩) (fun _ R s => s.heap.get? l = some { cls := .type "tuple", dict := dd, data := .seq items n, slots := sl } ∧
      R (.ok (.ret (Value.ref s.heap.objs.size))) { s with heap := s.heap.push { cls := Value.type "tuple", data := Data.seq #[] }, toks := s.toks }) :=
  .of_wp fun prog w A R s h => by
    obtain ⟨hp, g, d, tk, os⟩ := s
    obtain ⟨hl, h⟩ := h
    have f1 := AutoSeq1.idx_int
    wp_walk using wpAny_loadPart' hl
    repeat (first
      | (refine wpAny_ite_false (decide_eq_false (by rw [c0]; exact Bool.false_ne_true)) ?_; wp_walk using wpAny_loadPart' hl)
      | (refine wpAny_ite_false (decide_eq_false (by rw [c1]; exact Bool.false_ne_true)) ?_; wp_walk using wpAny_loadPart' hl)
      | (refine wpAny_ite_true (decide_eq_true c2) ?_; wp_walk using wpAny_loadPart' hl))
    exact ⟨_, rfl, h⟩

section
variable {X : Cx} {pins : List (Addr × Obj)} {s : Shared} {σ : L2.St} {H : Hp} {Q : VK} {ι : Ix} {S : Store}
/-! ### * -/
def oMul : D → D → Store → Option (D × Store)
  | .int i, .int j, S => if wideOk i j = true then some (.int (i * j), S) else none
  | .tup a, .int k, S => if a ≠ [] ∧ k ≤ 1000 ∧ a.length ≤ 1000 ∧ -1000 ≤ k then some (.tup (List.replicate k.toNat a).flatten, S) else none
  | _, _, _ => none
theorem op_mulD : OpS X (binaryOp .Mult) oMul := by
  intro pins s σ H x y v u Q I rv ru h
  obtain ⟨ι, S, d1, d2, d, S', g, r1, r2, e, q⟩ := h
  cases r1 with
  | int i =>
    cases r2 with
    | int j =>
      simp only [oMul] at e
      split at e
      · rename_i hc
        simp only [Option.some.injEq, Prod.mk.injEq] at e
        obtain ⟨rfl, rfl⟩ := e
        exact op_mulX pins s σ H _ _ v u Q I rv ru ⟨_, _, rfl, rfl, hc, q0 g q (.int _)⟩
      · cases e
    | _ => simp [oMul] at e
  | @tup l xs ds hs hr =>
    cases r2 with
    | int k =>
      simp only [oMul] at e
      split at e
      · rename_i hc
        simp only [Option.some.injEq, Prod.mk.injEq] at e
        obtain ⟨rfl, rfl⟩ := e
        obtain ⟨hne, hk, hz, hk0⟩ := hc
        cases rv
        obtain ⟨t, rfl⟩ := ru
        obtain ⟨its, r, ⟨⟨cls, dd, data, sl⟩, ho, hcl, n, hd⟩, hsz⟩ := I.tuple hs.sq
        simp only at hcl hd
        subst hcl hd
        have hrl := hr.length
        have hle : its.length = xs.length := r.length.symm
        have hx : xs ≠ [] := fun z => hne (by subst z; cases hr; rfl)
        have hn : its ≠ [] := fun z => hx (by
          rw [z] at hle
          exact List.eq_nil_of_length_eq_zero hle.symm)
        have hi : its.toArray.isEmpty = false := by
          cases its with
          | nil => exact absurd rfl hn
          | cons a b => rfl
        have c0 : (decide (k < -(2 ^ 63)) || decide (k ≥ 2 ^ 63)) = false := by
          rw [decide_eq_false (by omega), decide_eq_false (by omega)] <;> rfl
        by_cases h1 : k = 1
        · subst h1
          refine wpAny_binaryOp_repeat_ref (T := "tuple") (U := "int") (by decide) ⟨_, ho, rfl⟩ (fun s' => typeIs_int s' 1 t) noFill_tuple_mul F.fills_int_mul F.slot_int_rmul repeat_tuple F.slot_int_index.lookup
            (call_meets F.slot_int_rmul (typeIs_int s 1 t) F.entry_int_rmul (F.args_int_rmul_2 _ _) (int_rmul_tuple 1 t l its.toArray n dd sl)
              ⟨ho, rfl, ⟨_, ho, rfl⟩, call_meets F.slot_tuple_mul ⟨_, ho, rfl⟩ F.entry_tuple_mul (F.args_tuple_mul_2 _ _) (tuple_mul1 l its.toArray n dd sl t) ⟨ho, ?_⟩⟩)
          have e1 : (List.replicate (1 : Int).toNat ds).flatten = ds := by simp
          rw [e1] at q
          exact ⟨.ref l, H, I, rfl, q0 g q (.tup hs hr)⟩
        · by_cases h0 : k ≤ 0
          · have c1 : (its.toArray.isEmpty || k == 1) = false := by
              rw [hi, Bool.false_or]
              exact beq_eq_false_iff_ne.mpr (by omega)
            have c2 : (decide (k ≤ 0) || its.toArray.isEmpty) = true := by
              rw [decide_eq_true h0, Bool.true_or]
            refine wpAny_binaryOp_repeat_ref (T := "tuple") (U := "int") (by decide) ⟨_, ho, rfl⟩ (fun s' => typeIs_int s' k t) noFill_tuple_mul F.fills_int_mul F.slot_int_rmul repeat_tuple F.slot_int_index.lookup
              (call_meets F.slot_int_rmul (typeIs_int s k t) F.entry_int_rmul (F.args_int_rmul_2 _ _) (int_rmul_tuple k t l its.toArray n dd sl)
                ⟨ho, rfl, ⟨_, ho, rfl⟩, call_meets F.slot_tuple_mul ⟨_, ho, rfl⟩ F.entry_tuple_mul (F.args_tuple_mul_2 _ _) (tuple_mul0 l its.toArray n dd sl k t c0 c1 c2) ⟨ho, ?_⟩⟩)
            have e1 : (List.replicate k.toNat ds).flatten = [] := by
              rw [show k.toNat = 0 by omega]
              rfl
            rw [e1] at q
            exact fin_tup (its := []) (xs := []) (tk := s.toks) I g .nil .nil (Nat.zero_le _) (fun b u e => Heap.get?_push_of_some _ e) (Nat.le_refl _) (Heap.get?_push_size _ rfl) q
          · have c1 : (its.toArray.isEmpty || k == 1) = false := by
              rw [hi, Bool.false_or]
              exact beq_eq_false_iff_ne.mpr (by omega)
            have c2 : (decide (k ≤ 0) || its.toArray.isEmpty) = false := by
              rw [hi, Bool.or_false]
              exact decide_eq_false (by omega)
            have hsz0 : its.toArray.size = xs.length := by rw [List.size_toArray, hle]
            have hm : ((its.toArray.size : Nat) : Int) * k ≤ 1000000 := by
              rw [hsz0]
              have a1 : ((xs.length : Nat) : Int) * k ≤ 1000 * k := Int.mul_le_mul_of_nonneg_right (by omega) (by omega)
              omega
            have flen : (List.replicate k.toNat its).flatten.length ≤ sizeLine := by
              rw [PyProof.Rows.lm_len_rep_flat, hle, sizeLine_eq]
              have a1 : k.toNat * xs.length ≤ 1000 * 1000 := Nat.mul_le_mul (by omega) (by omega)
              omega
            have c4 : Builtin.Tuple.tupleTooMany (((its.toArray.size : Nat) : Int) * k) = false := by
              unfold Builtin.Tuple.tupleTooMany
              rw [sizeLine_eq]
              exact decide_eq_false (by omega)
            refine wpAny_binaryOp_repeat_ref (T := "tuple") (U := "int") (by decide) ⟨_, ho, rfl⟩ (fun s' => typeIs_int s' k t) noFill_tuple_mul F.fills_int_mul F.slot_int_rmul repeat_tuple F.slot_int_index.lookup
              (call_meets F.slot_int_rmul (typeIs_int s k t) F.entry_int_rmul (F.args_int_rmul_2 _ _) (int_rmul_tuple k t l its.toArray n dd sl)
                ⟨ho, rfl, ⟨_, ho, rfl⟩, call_meets F.slot_tuple_mul ⟨_, ho, rfl⟩ F.entry_tuple_mul (F.args_tuple_mul_2 _ _) (tuple_mulW l its.toArray n dd sl k t c0 c1 c2 (by omega) c4 (by rw [size_rep, List.size_toArray]; exact flen)) ⟨ho, ?_⟩⟩)
            rw [size_rep]
            exact fin_tup (tk := s.toks) I g (r.rep k.toNat) (hr.replicate k.toNat) (by rw [PyProof.Rows.lm_len_rep_flat, sizeLine_eq]; have a1 : k.toNat * xs.length ≤ 1000 * 1000 := Nat.mul_le_mul (by omega) (by omega); omega)
              (fun b u e => Heap.get?_push_of_some _ e) (Nat.le_refl _) (Heap.get?_push_size _ rfl) q
      · cases e
    | _ => simp [oMul] at e
  | _ => simp [oMul] at e

/-! ### ==, !=, is None -/
def okD (d : D) : Bool := pureD d && SeqAt.shaped (toPy d)
def eqD (a b : D) : Bool := PyData.eqv (toPy a) (toPy b)
def oEq : D → D → Store → Option (D × Store) := fun a b S => if okD a = true ∧ okD b = true then some (.bl (eqD a b), S) else none
def oNe : D → D → Store → Option (D × Store) := fun a b S => if okD a = true ∧ okD b = true then some (.bl (!eqD a b), S) else none
theorem okD_ok {d : D} (h : okD d = true) : pureD d = true ∧ SeqAt.shaped (toPy d) = true := by
  unfold okD at h
  rw [Bool.and_eq_true] at h
  exact h
theorem op_eqDD (hu : X.A.units + 64 < cLine) : OpS X (compareOp .Eq) oEq := by
  intro pins s σ H x y v u Q I rv ru h
  obtain ⟨ι, S, d1, d2, d, S', g, r1, r2, e, q⟩ := h
  simp only [oEq] at e
  split at e
  · rename_i hc
    simp only [Option.some.injEq, Prod.mk.injEq] at e
    obtain ⟨rfl, rfl⟩ := e
    obtain ⟨p1, s1⟩ := okD_ok hc.1
    obtain ⟨pp2, s2⟩ := okD_ok hc.2
    exact op_eqD hu pins s σ H x y v u Q I rv ru ⟨_, _, Rep.dp _ _ p1 r1, Rep.dp _ _ pp2 r2, s1, s2, q0 g q (.bl _)⟩
  · cases e
theorem op_neDD (hu : X.A.units + 64 < cLine) : OpS X (compareOp .NotEq) oNe := by
  intro pins s σ H x y v u Q I rv ru h
  obtain ⟨ι, S, d1, d2, d, S', g, r1, r2, e, q⟩ := h
  simp only [oNe] at e
  split at e
  · rename_i hc
    simp only [Option.some.injEq, Prod.mk.injEq] at e
    obtain ⟨rfl, rfl⟩ := e
    obtain ⟨p1, s1⟩ := okD_ok hc.1
    obtain ⟨pp2, s2⟩ := okD_ok hc.2
    exact op_neD hu pins s σ H x y v u Q I rv ru ⟨_, _, Rep.dp _ _ p1 r1, Rep.dp _ _ pp2 r2, s1, s2, q0 g q (.bl _)⟩
  · cases e
def isNon : D → Bool
  | .non => true
  | _ => false
def oIsN : D → D → Store → Option (D × Store)
  | a, .non, S => some (.bl (isNon a), S)
  | _, _, _ => none
def oNotN : D → D → Store → Option (D × Store)
  | a, .non, S => some (.bl (!isNon a), S)
  | _, _, _ => none
theorem isNon_rep {d : D} {v : V} (r : Rep X.K ι H d v) : decide (v = .non) = isNon d := by
  cases r <;> rfl
theorem op_isND : OpS X (compareOp .Is) oIsN := by
  intro pins s σ H x y v u Q I rv ru h
  obtain ⟨ι, S, d1, d2, d, S', g, r1, r2, e, q⟩ := h
  cases r2 with
  | non =>
    simp only [oIsN, Option.some.injEq, Prod.mk.injEq] at e
    obtain ⟨rfl, rfl⟩ := e
    exact op_isN pins s σ H _ _ v u Q I rv ru ⟨rfl, by rw [isNon_rep r1]; exact q0 g q (.bl _)⟩
  | _ => simp [oIsN] at e
theorem op_notND : OpS X (compareOp .IsNot) oNotN := by
  intro pins s σ H x y v u Q I rv ru h
  obtain ⟨ι, S, d1, d2, d, S', g, r1, r2, e, q⟩ := h
  cases r2 with
  | non =>
    simp only [oNotN, Option.some.injEq, Prod.mk.injEq] at e
    obtain ⟨rfl, rfl⟩ := e
    exact op_notN pins s σ H _ _ v u Q I rv ru ⟨rfl, by rw [isNon_rep r1]; exact q0 g q (.bl _)⟩
  | _ => simp [oNotN] at e

/-! ### in, not in -/
def flatD : D → Bool
  | .non => true
  | .bl _ => true
  | .int _ => true
  | .str _ => true
  | _ => false
def flV : D → V
  | .non => .non
  | .bl b => .bl b
  | .int i => .int i
  | .str x => .str x
  | _ => .non
theorem flat_rep {d : D} {v : V} (f : flatD d = true) (r : Rep X.K ι H d v) : v = flV d ∧ flatV v = true := by
  cases r <;> first | exact ⟨rfl, rfl⟩ | simp [flatD] at f
theorem flat_reps : ∀ {ds : List D} {vs : List V}, ds.all flatD = true → Reps X.K ι H ds vs → vs = ds.map flV ∧ vs.all flatV = true
  | [], _, _, h => by cases h; exact ⟨rfl, rfl⟩
  | d :: ds, _, f, h => by
    cases h with
    | cons h1 h2 =>
      rw [List.all_cons, Bool.and_eq_true] at f
      obtain ⟨e1, f1⟩ := flat_rep f.1 h1
      obtain ⟨e2, f2⟩ := flat_reps f.2 h2
      exact ⟨by rw [e1, e2]; rfl, by rw [List.all_cons, f1, f2]; rfl⟩
def inD (x : D) (xs : List D) : Bool := xs.any fun y => eqV (flV y) (flV x)
def memD (neg : Bool) : D → D → Store → Option (D × Store)
  | .str a, .str b, S => match a.cps.toList with
    | [c] => some (.bl (neg ^^ decide (c ∈ b.cps.toList)), S)
    | _ => none
  | x, .tup xs, S => if flatD x = true ∧ xs.all flatD = true then some (.bl (neg ^^ inD x xs), S) else none
  | x, .lst xs, S => if flatD x = true ∧ xs.all flatD = true then some (.bl (neg ^^ inD x xs), S) else none
  | x, .ref n, S => match S[n]? with
    | some (.lst xs) => if flatD x = true ∧ xs.all flatD = true then some (.bl (neg ^^ inD x xs), S) else none
    | _ => none
  | _, _, _ => none
theorem in_sq {p : Addr} {xs : List V} {ds : List D} {d : D} {x : V} {neg : Bool} (hs : SqL X.K H p xs ∨ SqT X.K H p xs) (hr : Reps X.K ι H ds xs) (r : Rep X.K ι H d x) (f : flatD d = true) (fs : ds.all flatD = true) (q : Q (.bl (neg ^^ inD d ds)) H) : rIn X.K neg x (.ref p) H Q := by
  obtain ⟨e1, f1⟩ := flat_rep f r
  obtain ⟨e2, f2⟩ := flat_reps fs hr
  refine ⟨p, xs, rfl, hs, f1, f2, ?_⟩
  have e3 : inV x xs = inD d ds := by
    unfold inV inD
    rw [e1, e2, List.any_map]
    rfl
  rw [e3]
  cases neg with
  | false => rw [Bool.false_xor] at q; exact q
  | true => rw [Bool.true_xor] at q; exact q
theorem mem_core {neg : Bool} {o : CmpOp} (h1 : OpR X (compareOp o) (rIn X.K neg)) (h2 : OpR X (compareOp o) (fun x y H Q => ∃ (c : Nat) (z : Str), x = .str ⟨#[c]⟩ ∧ y = .str z ∧ Q (.bl (neg ^^ decide (c ∈ z.cps.toList))) H)) : OpS X (compareOp o) (memD neg) := by
  intro pins s σ H x y v u Q I rv ru h
  obtain ⟨ι, S, d1, d2, d, S', g, r1, r2, e, q⟩ := h
  cases r2 with
  | str b =>
    cases r1 with
    | str a =>
      simp only [memD] at e
      split at e
      · rename_i c hc
        simp only [Option.some.injEq, Prod.mk.injEq] at e
        obtain ⟨rfl, rfl⟩ := e
        have ea : a = ⟨#[c]⟩ := by
          obtain ⟨cps⟩ := a
          have : cps = #[c] := by
            have h3 : cps.toList = [c] := hc
            rw [← h3]
          rw [this]
        exact h2 pins s σ H _ _ v u Q I rv ru ⟨c, b, by rw [ea], rfl, q0 g q (.bl _)⟩
      · cases e
    | _ => simp [memD] at e
  | @tup p xs ds hs hr =>
    have e' : (if flatD d1 = true ∧ ds.all flatD = true then some (D.bl (neg ^^ inD d1 ds), S) else none) = some (d, S') := by
      cases d1 <;> exact e
    split at e'
    · rename_i hc
      simp only [Option.some.injEq, Prod.mk.injEq] at e'
      obtain ⟨rfl, rfl⟩ := e'
      exact h1 pins s σ H _ _ v u Q I rv ru (in_sq (.inr hs.sq) hr r1 hc.1 hc.2 (q0 g q (.bl _)))
    · cases e'
  | @lst p xs ds hs hr =>
    have e' : (if flatD d1 = true ∧ ds.all flatD = true then some (D.bl (neg ^^ inD d1 ds), S) else none) = some (d, S') := by
      cases d1 <;> exact e
    split at e'
    · rename_i hc
      simp only [Option.some.injEq, Prod.mk.injEq] at e'
      obtain ⟨rfl, rfl⟩ := e'
      exact h1 pins s σ H _ _ v u Q I rv ru (in_sq (.inl hs.sq) hr r1 hc.1 hc.2 (q0 g q (.bl _)))
    · cases e'
  | @ref n p hp =>
    have e' : (match S[n]? with
      | some (.lst xs) => if flatD d1 = true ∧ xs.all flatD = true then some (D.bl (neg ^^ inD d1 xs), S) else none
      | _ => none) = some (d, S') := by
      cases d1 <;> exact e
    split at e'
    · rename_i ds ha
      split at e'
      · rename_i hc
        simp only [Option.some.injEq, Prod.mk.injEq] at e'
        obtain ⟨rfl, rfl⟩ := e'
        obtain ⟨xs, hx, hr⟩ := g.lst_at hp ha
        exact h1 pins s σ H _ _ v u Q I rv ru (in_sq (.inl (SqL.of hx)) hr r1 hc.1 hc.2 (q0 g q (.bl _)))
      · cases e'
    · cases e'
  | _ => cases d1 <;> simp [memD] at e
theorem op_inDD : OpS X (compareOp .In) (memD false) := mem_core op_in_seq (by
  intro pins s σ H x y v u Q I rv ru ⟨c, z, e1, e2, q⟩
  rw [Bool.false_xor] at q
  exact op_in_sign pins s σ H x y v u Q I rv ru ⟨c, z, e1, e2, q⟩)
theorem op_notInDD : OpS X (compareOp .NotIn) (memD true) := mem_core op_notIn_seq (by
  intro pins s σ H x y v u Q I rv ru ⟨c, z, e1, e2, q⟩
  rw [Bool.true_xor] at q
  exact op_notIn_sign pins s σ H x y v u Q I rv ru ⟨c, z, e1, e2, q⟩)

/-! ### subscripts -/
def ixD : D → D → Store → Option (D × Store)
  | .tup xs, .int i, S => (atI xs i).map (·, S)
  | .lst xs, .int i, S => (atI xs i).map (·, S)
  | .ref n, .int i, S => match S[n]? with
    | some (.lst xs) => (atI xs i).map (·, S)
    | _ => none
  | .str z, .int i, S => if z.length ≤ sizeLine then (atI z.cps.toList i).map fun c => (.str ⟨#[c]⟩, S) else none
  | _, _, _ => none
theorem Reps.atI {ds : List D} {vs : List V} {i : Int} {d : D} (h : Reps X.K ι H ds vs) (e : L2.atI ds i = some d) : ∃ v, L2.atI vs i = some v ∧ Rep X.K ι H d v := by
  unfold L2.atI at e ⊢
  rw [← h.length]
  cases q : ixN ds.length i with
  | none => rw [q] at e; cases e
  | some j =>
    rw [q] at e
    exact h.get e
theorem ix_D : IxR X (rOf X.K ixD) := by
  intro value slice pins s σ H x y v u Q I rv ru h hsub
  obtain ⟨ι, S, d1, d2, d, S', g, r1, r2, e, q⟩ := h
  cases r2 with
  | int i =>
    cases r1 with
    | @tup p xs ds hs hr =>
      simp only [ixD] at e
      cases ea : L2.atI ds i with
      | none => rw [ea] at e; cases e
      | some z =>
        rw [ea] at e
        simp only [Option.map_some, Option.some.injEq, Prod.mk.injEq] at e
        obtain ⟨rfl, rfl⟩ := e
        obtain ⟨w, hw, rw'⟩ := hr.atI ea
        exact ix_tup value slice pins s σ H _ _ v u Q I rv ru ⟨p, xs, i, w, rfl, rfl, hs.sq, hw, q0 g q rw'⟩ hsub
    | @lst p xs ds hs hr =>
      simp only [ixD] at e
      cases ea : L2.atI ds i with
      | none => rw [ea] at e; cases e
      | some z =>
        rw [ea] at e
        simp only [Option.map_some, Option.some.injEq, Prod.mk.injEq] at e
        obtain ⟨rfl, rfl⟩ := e
        obtain ⟨w, hw, rw'⟩ := hr.atI ea
        exact ix_list value slice pins s σ H _ _ v u Q I rv ru ⟨p, xs, i, w, rfl, rfl, hs.sq, hw, q0 g q rw'⟩ hsub
    | @ref n p hp =>
      simp only [ixD] at e
      split at e
      · rename_i ds ha
        obtain ⟨xs, hx, hr⟩ := g.lst_at hp ha
        cases ea : L2.atI ds i with
        | none => rw [ea] at e; cases e
        | some z =>
          rw [ea] at e
          simp only [Option.map_some, Option.some.injEq, Prod.mk.injEq] at e
          obtain ⟨rfl, rfl⟩ := e
          obtain ⟨w, hw, rw'⟩ := hr.atI ea
          exact ix_list value slice pins s σ H _ _ v u Q I rv ru ⟨p, xs, i, w, rfl, rfl, SqL.of hx, hw, q0 g q rw'⟩ hsub
      · cases e
    | str z =>
      simp only [ixD] at e
      split at e
      · rename_i hz
        cases ea : L2.atI z.cps.toList i with
        | none => rw [ea] at e; cases e
        | some c =>
          rw [ea] at e
          simp only [Option.map_some, Option.some.injEq, Prod.mk.injEq] at e
          obtain ⟨rfl, rfl⟩ := e
          exact ix_str value slice pins s σ H _ _ v u Q I rv ru ⟨z, i, c, rfl, rfl, hz, ea, q0 g q (.str _)⟩ hsub
      · cases e
    | _ => simp [ixD] at e
  | _ => cases d1 <;> simp [ixD] at e
theorem se_ix {Y : Yc} {a b : Expr} {fa fb : DEnv → Store → R D} {pos : Pos} (ha : SE X Y a fa) (hb : SE X Y b fb) (hs : PlainIx b) : SE X Y (.Subscript a b pos) (evBin ixD fa fb) := PE.imp (pe_ix ix_D ha hb hs) fun _ _ _ h => lift_two h
end
end DL
end
section
set_option Elab.async false
set_option linter.all false
set_option maxRecDepth 100000
set_option maxHeartbeats 4000000
/-! the data layer 5: slices, built-ins, methods -/
namespace DL
open PySem PySem.Spec PyProof.Rows L2

section
variable {X : Cx} {pins : List (Addr × Obj)} {s : Shared} {σ : L2.St} {H : Hp} {Q : VK} {ι : Ix} {S : Store} {Y : Yc}

/-! ### slices of tuples -/
def cutL {α : Type} (xs : List α) (lo hi : Option Int) : List α := (xs.drop (HT.sIx xs.length 0 lo)).take (HT.sIx xs.length xs.length hi - HT.sIx xs.length 0 lo)
theorem cutL_le {α : Type} (xs : List α) (lo hi : Option Int) : (cutL xs lo hi).length ≤ xs.length := by
  unfold cutL
  rw [List.length_take, List.length_drop]
  omega
theorem Reps.cut {ds : List D} {vs : List V} (h : Reps X.K ι H ds vs) (lo hi : Option Int) : Reps X.K ι H (cutL ds lo hi) (cutL vs lo hi) := by
  unfold cutL
  rw [h.length]
  exact (h.drop _).take _
theorem Vals.cut {vs : List V} {us : List Value} (h : Vals vs us) (lo hi : Option Int) : Vals (cutL vs lo hi) (cutL us lo hi) := by
  unfold cutL
  rw [h.length]
  exact (h.drop _).take _
theorem cutL_whole {α : Type} {xs : List α} {lo hi : Option Int} (h : HT.sIx xs.length 0 lo = 0 ∧ HT.sIx xs.length xs.length hi = xs.length) : cutL xs lo hi = xs := by
  unfold cutL
  rw [h.1, h.2]
  simp
def slD (d : D) (lo hi : Option Int) (S : Store) : Option (D × Store) := match d with
  | .tup xs => some (.tup (cutL xs lo hi), S)
  | _ => none
theorem sl_D : SlR X (fun x lo hi H Q => ∃ ι S d d' S', Good X.K ι H S ∧ Rep X.K ι H d x ∧ slD d lo hi S = some (d', S') ∧ ∀ ι' H', Keep ι H ι' H' → Good X.K ι' H' S' → pE X.K Q d' ι' H' S') := by
  intro pins s σ H x v vl vu lo hi sl Q I rx hs pl pu h
  obtain ⟨ι, S, d, d', S', g, r, e, q⟩ := h
  cases r with
  | @tup a xs ds ht hr =>
    simp only [slD, Option.some.injEq, Prod.mk.injEq] at e
    obtain ⟨rfl, rfl⟩ := e
    cases rx
    obtain ⟨its, rv, hp, hz⟩ := I.tuple ht.sq
    have hlen : its.toArray.size = xs.length := by rw [List.size_toArray]; exact rv.length.symm
    refine ⟨"tuple", _, PyProof.Rows.slot_tuple_getitem.lookup, hp.typeIs, ?_⟩
    by_cases hw : HT.sIx xs.length 0 lo = 0 ∧ HT.sIx xs.length xs.length hi = xs.length
    · refine getItem_tuple_whole hp hs pl pu (by rw [hlen]; exact hw) ⟨.ref a, H, I, rfl, ?_⟩
      have ew : cutL ds lo hi = ds := cutL_whole (by rw [hr.length]; exact hw)
      rw [ew] at q
      exact q0 g q (.tup ht hr)
    · refine HT.getItem_tuple_cut hp hs pl pu (by rw [hlen]; exact hw) ?_ (by rw [hlen]; exact hz)
      have ec : (its.toArray.toList.drop (HT.sIx its.toArray.size 0 lo)).take (HT.sIx its.toArray.size its.toArray.size hi - HT.sIx its.toArray.size 0 lo) = cutL its lo hi := by
        unfold cutL
        simp only [List.size_toArray]
      exact fin_tup (its := cutL its lo hi) (xs := cutL xs lo hi) (tk := s.toks) I g (Vals.cut rv lo hi) (hr.cut lo hi) (Nat.le_trans (cutL_le xs lo hi) hz) (fun b u e => Heap.get?_push_of_some _ e) (Nat.le_refl _) (Heap.get?_push_size _ (by first | rfl | (rw [← ec]))) q
  | _ => simp [slD] at e
def tlO (K : PySem.W.Frag) (Y : Yc) (f : DEnv → Store → R (Option Int)) : TO := fun σ H Q => Lift K Y f σ H fun o _ H' _ => Q o H'
def SO (X : Cx) (Y : Yc) (e : Option Expr) (f : DEnv → Store → R (Option Int)) : Prop := PO X e (tlO X.K Y f)
def evPart (fa : DEnv → Store → R D) : DEnv → Store → R (Option Int) := fun δ S => (fa δ S).bind fun d S1 => match d with
  | .int i => .ok (some i) S1
  | _ => .bad
def evNoPart : DEnv → Store → R (Option Int) := fun _ S => .ok none S
theorem PO.imp {e : Option Expr} {t t' : TO} (h : PO X e t) (i : ∀ σ H Q, t' σ H Q → t σ H Q) : PO X e t' := ⟨fun pins s σ H Q I q => h.run pins s σ H Q I (i σ H Q q)⟩
theorem so_none : SO X Y none evNoPart := PO.imp po_none fun σ H Q ⟨ι, δ, S, k, sr, g, q⟩ => q ι H (Keep.refl _ _) g
theorem so_some {e : Expr} {fa : DEnv → Store → R D} (h : SE X Y e fa) : SO X Y (some e) (evPart fa) := PO.imp (po_some h) fun σ H Q ⟨ι, δ, S, k, sr, g, q⟩ =>
  ⟨ι, δ, S, k, sr, g, Post.seq q fun d ι1 H1 S1 k1 g1 q1 => fun v rv => by
    cases rv with
    | int i => exact ⟨i, rfl, q1 ι1 H1 (Keep.refl _ _) g1⟩
    | _ => exact q1.elim⟩
def evSl (fa : DEnv → Store → R D) (fl fh : DEnv → Store → R (Option Int)) : DEnv → Store → R D := fun δ S => (fa δ S).bind fun d S1 => (fl δ S1).bind fun lo S2 => (fh δ S2).bind fun hi S3 => ofO (slD d lo hi S3)
theorem se_slice {e : Expr} {lo hi : Option Expr} {pos p2 : Pos} {fa : DEnv → Store → R D} {fl fh : DEnv → Store → R (Option Int)} (he : SE X Y e fa) (hl : SO X Y lo fl) (hu : SO X Y hi fh) : SE X Y (.Subscript e (.Slice lo hi none p2) pos) (evSl fa fl fh) :=
  PE.imp (pe_slice sl_D he hl hu) fun σ H Q ⟨ι, δ, S, k, sr, g, q⟩ => ⟨ι, δ, S, k, sr, g, Post.seq q fun d ι1 H1 S1 k1 g1 q1 => fun v rv =>
    ⟨ι1, δ, S1, k.trans k1, sr.mono k1, g1, Post.seq q1 fun l ι2 H2 S2 k2 g2 q2 =>
      ⟨ι2, δ, S2, (k.trans k1).trans k2, (sr.mono k1).mono k2, g2, Post.seq q2 fun u ι3 H3 S3 k3 g3 q3 => by
        cases e : slD d l u S3 with
        | none => rw [e] at q3; exact q3.elim
        | some z =>
          obtain ⟨d', S'⟩ := z
          rw [e] at q3
          exact ⟨ι3, S3, d, d', S', g3, Rep.mono (k2.trans k3) _ _ rv, e, q3⟩⟩⟩⟩

/-! ### built-ins by values -/
def rC (K : PySem.W.Frag) (op : List D → Store → Option (D × Store)) : List V → Hp → VK → Prop := fun xs H Q => ∃ ι S ds d S', Good K ι H S ∧ Reps K ι H ds xs ∧ op ds S = some (d, S') ∧ ∀ ι' H', Keep ι H ι' H' → Good K ι' H' S' → pE K Q d ι' H' S'
def evCallO (op : List D → Store → Option (D × Store)) (fr : DEnv → Store → R (List D)) : DEnv → Store → R D := fun δ S => (fr δ S).bind fun ds S1 => ofO (op ds S1)
theorem lift_call {op : List D → Store → Option (D × Store)} {fr : DEnv → Store → R (List D)} {K : PySem.W.Frag} (h : Lift K Y (evCallO op fr) σ H (pE K Q)) : tCB (rC K op) (tlA K Y fr) σ H Q := by
  obtain ⟨ι, δ, S, k, sr, g, q⟩ := h
  refine ⟨ι, δ, S, k, sr, g, Post.seq q fun ds ι1 H1 S1 k1 g1 q1 => fun vs rvs => ?_⟩
  cases e : op ds S1 with
  | none => rw [e] at q1; exact q1.elim
  | some z =>
    obtain ⟨d, S'⟩ := z
    rw [e] at q1
    exact ⟨ι1, S1, ds, d, S', g1, rvs, e, q1⟩
theorem se_callB {x : Str} {p pos : Pos} {e : Expr} {es : List Expr} {fr : DEnv → Store → R (List D)} {id : String} {op : List D → Store → Option (D × Store)} (hc : CallR X (.builtin id) (rC X.K op)) (hm : X.mg x = none) (ha : SA X Y (e :: es) fr) (hv : bootBuiltins x = some (.builtin id) := by decide +kernel) (hg : Gl X x := by rfl)
    (hn : x ≠ "__name__" := by decide) (hdb : (x == ("__debug__" : Str)) = false := by decide)
    (he : starEach (e :: es) X.env = (false, eval e X.env) :: starEach es X.env := by rfl) (hpl : (backTo pos (starEach es X.env)).any (·.1) = false := by rfl) : SE X Y (.Call (.Name x p) (e :: es) [] pos) (evCallO op fr) :=
  PE.imp (pe_callB hc hg hm hv ha hn hdb he hpl) fun _ _ _ h => lift_call h
theorem se_callTy {x : Str} {p pos : Pos} {e : Expr} {es : List Expr} {fr : DEnv → Store → R (List D)} {T : String} {op : List D → Store → Option (D × Store)} (hc : CallR X (.type T) (rC X.K op)) (hm : X.mg x = none) (ha : SA X Y (e :: es) fr) (hv : bootBuiltins x = some (.type T) := by decide +kernel) (hg : Gl X x := by rfl)
    (hn : x ≠ "__name__" := by decide) (hdb : (x == ("__debug__" : Str)) = false := by decide)
    (he : starEach (e :: es) X.env = (false, eval e X.env) :: starEach es X.env := by rfl) (hpl : (backTo pos (starEach es X.env)).any (·.1) = false := by rfl) : SE X Y (.Call (.Name x p) (e :: es) [] pos) (evCallO op fr) :=
  PE.imp (pe_callTy hc hg hm hv ha hn hdb he hpl) fun _ _ _ h => lift_call h
theorem Reps.one {d : D} {xs : List V} (h : Reps X.K ι H [d] xs) : ∃ v, xs = [v] ∧ Rep X.K ι H d v := by
  cases h with
  | cons h1 h2 => cases h2; exact ⟨_, rfl, h1⟩
theorem Reps.two {d d2 : D} {xs : List V} (h : Reps X.K ι H [d, d2] xs) : ∃ v v2, xs = [v, v2] ∧ Rep X.K ι H d v ∧ Rep X.K ι H d2 v2 := by
  cases h with
  | cons h1 h2 => cases h2 with
    | cons h3 h4 => cases h4; exact ⟨_, _, rfl, h1, h3⟩
def bLen : List D → Store → Option (D × Store)
  | [.tup xs], S => some (.int xs.length, S)
  | [.lst xs], S => some (.int xs.length, S)
  | [.str z], S => if z.length ≤ sizeLine then some (.int z.length, S) else none
  | [.ref n], S => match S[n]? with
    | some (.lst xs) => some (.int xs.length, S)
    | _ => none
  | _, _ => none
theorem call_lenD : CallR X (.builtin "len") (rC X.K bLen) := by
  intro pins s σ H xs us Q I rs h
  obtain ⟨ι, S, ds, d, S', g, r, e, q⟩ := h
  unfold bLen at e
  split at e
  · simp only [Option.some.injEq, Prod.mk.injEq] at e
    obtain ⟨rfl, rfl⟩ := e
    obtain ⟨v, rfl, rv⟩ := r.one
    cases rv with
    | tup hs hr => exact call_len_seq pins s σ H _ us Q I rs ⟨_, _, rfl, .inr hs.sq, by rw [← hr.length]; exact q0 g q (.int _)⟩
  · simp only [Option.some.injEq, Prod.mk.injEq] at e
    obtain ⟨rfl, rfl⟩ := e
    obtain ⟨v, rfl, rv⟩ := r.one
    cases rv with
    | lst hs hr => exact call_len_seq pins s σ H _ us Q I rs ⟨_, _, rfl, .inl hs.sq, by rw [← hr.length]; exact q0 g q (.int _)⟩
  · split at e
    · rename_i hz
      simp only [Option.some.injEq, Prod.mk.injEq] at e
      obtain ⟨rfl, rfl⟩ := e
      obtain ⟨v, rfl, rv⟩ := r.one
      cases rv
      exact call_len_str pins s σ H _ us Q I rs ⟨_, rfl, hz, q0 g q (.int _)⟩
    · cases e
  · split at e
    · rename_i ds' ha
      simp only [Option.some.injEq, Prod.mk.injEq] at e
      obtain ⟨rfl, rfl⟩ := e
      obtain ⟨v, rfl, rv⟩ := r.one
      cases rv with
      | ref hp =>
        obtain ⟨xs, hx, hr⟩ := g.lst_at hp ha
        exact call_len_seq pins s σ H _ us Q I rs ⟨_, _, rfl, .inl (SqL.of hx), by rw [← hr.length]; exact q0 g q (.int _)⟩
    · cases e
  · cases e
def bInt : List D → Store → Option (D × Store)
  | [.int i], S => some (.int i, S)
  | [.bl b], S => some (.int (if b then 1 else 0), S)
  | _, _ => none
theorem call_intD : CallR X (.type "int") (rC X.K bInt) := by
  intro pins s σ H xs us Q I rs h
  obtain ⟨ι, S, ds, d, S', g, r, e, q⟩ := h
  unfold bInt at e
  split at e
  · simp only [Option.some.injEq, Prod.mk.injEq] at e
    obtain ⟨rfl, rfl⟩ := e
    obtain ⟨v, rfl, rv⟩ := r.one
    cases rv
    exact call_int1 pins s σ H _ us Q I rs (.inl ⟨_, rfl, q0 g q (.int _)⟩)
  · simp only [Option.some.injEq, Prod.mk.injEq] at e
    obtain ⟨rfl, rfl⟩ := e
    obtain ⟨v, rfl, rv⟩ := r.one
    cases rv
    exact call_int1 pins s σ H _ us Q I rs (.inr ⟨_, rfl, q0 g q (.int _)⟩)
  · cases e
/-- the ints of a list -/
def intsOf : List D → Option (List Int)
  | [] => some []
  | .int i :: ds => (intsOf ds).map (i :: ·)
  | _ => none
theorem intsOf_eq : ∀ {ds : List D} {ns : List Int}, intsOf ds = some ns → ds = ns.map D.int
  | [], ns, h => by cases h; rfl
  | d :: ds, ns, h => by
    cases d with
    | int i =>
      simp only [intsOf] at h
      cases e : intsOf ds with
      | none => rw [e] at h; cases h
      | some ms =>
        rw [e] at h
        cases h
        rw [intsOf_eq e]
        rfl
    | _ => simp [intsOf] at h
theorem intsOf_map : ∀ ns : List Int, intsOf (ns.map D.int) = some ns
  | [] => rfl
  | n :: ns => by simp [intsOf, intsOf_map ns]
def blsOf : List D → Option (List Bool)
  | [] => some []
  | .bl i :: ds => (blsOf ds).map (i :: ·)
  | _ => none
theorem blsOf_eq : ∀ {ds : List D} {ns : List Bool}, blsOf ds = some ns → ds = ns.map D.bl
  | [], ns, h => by cases h; rfl
  | d :: ds, ns, h => by
    cases d with
    | bl i =>
      simp only [blsOf] at h
      cases e : blsOf ds with
      | none => rw [e] at h; cases h
      | some ms =>
        rw [e] at h
        cases h
        rw [blsOf_eq e]
        rfl
    | _ => simp [blsOf] at h
theorem blsOf_map : ∀ ns : List Bool, blsOf (ns.map D.bl) = some ns
  | [] => rfl
  | n :: ns => by simp [blsOf, blsOf_map ns]
/-- a list that is read, mutable or not -/
def lstOf (S : Store) : D → Option (List D)
  | .lst xs => some xs
  | .ref n => match S[n]? with
    | some (.lst xs) => some xs
    | _ => none
  | _ => none
theorem lstOf_sq {d : D} {v : V} {ds : List D} (g : Good X.K ι H S) (r : Rep X.K ι H d v) (e : lstOf S d = some ds) : ∃ a xs, v = .ref a ∧ SqL X.K H a xs ∧ Reps X.K ι H ds xs := by
  cases r with
  | lst hs hr =>
    cases e
    exact ⟨_, _, rfl, hs.sq, hr⟩
  | ref hp =>
    simp only [lstOf] at e
    split at e
    · rename_i ys ha
      cases e
      obtain ⟨xs, hx, hr⟩ := g.lst_at hp ha
      exact ⟨_, _, rfl, SqL.of hx, hr⟩
    · cases e
  | _ => simp [lstOf] at e
def bAll : List D → Store → Option (D × Store)
  | [d], S => (lstOf S d).bind fun xs => (blsOf xs).map fun bs => (.bl (bs.all id), S)
  | _, _ => none
def bAny : List D → Store → Option (D × Store)
  | [d], S => (lstOf S d).bind fun xs => (blsOf xs).map fun bs => (.bl (bs.any id), S)
  | _, _ => none
def bSum : List D → Store → Option (D × Store)
  | [d], S => (lstOf S d).bind fun xs => (intsOf xs).map fun ns => (.int ns.sum, S)
  | _, _ => none
def maxI : Int → List Int → Int := List.foldl max
theorem maxI_ge : ∀ (ns : List Int) (n : Int), n ≤ maxI n ns ∧ ∀ m ∈ ns, m ≤ maxI n ns
  | [], n => ⟨Int.le_refl _, fun _ h => nomatch h⟩
  | k :: ns, n => by
    obtain ⟨h1, h2⟩ := maxI_ge ns (max n k)
    show n ≤ maxI (max n k) ns ∧ ∀ m ∈ k :: ns, m ≤ maxI (max n k) ns
    refine ⟨by omega, fun m hm => ?_⟩
    rcases List.mem_cons.mp hm with e | hm
    · rw [e]; omega
    · exact h2 m hm
theorem maxI_mem : ∀ (ns : List Int) (n : Int), maxI n ns = n ∨ maxI n ns ∈ ns
  | [], n => .inl rfl
  | k :: ns, n => by
    show maxI (max n k) ns = n ∨ maxI (max n k) ns ∈ k :: ns
    rcases maxI_mem ns (max n k) with e | e
    · rw [e]
      by_cases h : n ≤ k
      · rw [Int.max_eq_right h]; exact .inr List.mem_cons_self
      · rw [Int.max_eq_left (by omega)]; exact .inl rfl
    · exact .inr (List.mem_cons_of_mem _ e)
def bMax : List D → Store → Option (D × Store)
  | [d], S => (lstOf S d).bind fun xs => (intsOf xs).bind fun ns => match ns with
    | [] => none
    | n :: ns => some (.int (maxI n ns), S)
  | [.int i, .int j], S => some (.int (if j > i then j else i), S)
  | _, _ => none
def bMin2 : List D → Store → Option (D × Store)
  | [.int i, .int j], S => some (.int (if j < i then j else i), S)
  | _, _ => none
theorem call_allD (hc : X.calm = true) : CallR X (.builtin "all") (rC X.K bAll) := by
  intro pins s σ H xs us Q I rs h
  obtain ⟨ι, S, ds, d, S', g, r, e, q⟩ := h
  unfold bAll at e
  split at e
  · rename_i d0
    obtain ⟨v, rfl, rv⟩ := r.one
    obtain ⟨ys, h1, e⟩ := Option.bind_eq_some_iff.mp e
    obtain ⟨bs, h2, e⟩ := Option.map_eq_some_iff.mp e
    simp only [Prod.mk.injEq] at e
    obtain ⟨rfl, rfl⟩ := e
    obtain ⟨a, xs, rfl, hs, hr⟩ := lstOf_sq g rv h1
    have e2 := blsOf_eq h2
    subst e2
    have e3 := hr.bls
    subst e3
    exact cr_all hc pins s σ H _ us Q I rs ⟨a, bs, rfl, hs, q0 g q (.bl _)⟩
  · cases e
theorem call_anyD (hc : X.calm = true) : CallR X (.builtin "any") (rC X.K bAny) := by
  intro pins s σ H xs us Q I rs h
  obtain ⟨ι, S, ds, d, S', g, r, e, q⟩ := h
  unfold bAny at e
  split at e
  · rename_i d0
    obtain ⟨v, rfl, rv⟩ := r.one
    obtain ⟨ys, h1, e⟩ := Option.bind_eq_some_iff.mp e
    obtain ⟨bs, h2, e⟩ := Option.map_eq_some_iff.mp e
    simp only [Prod.mk.injEq] at e
    obtain ⟨rfl, rfl⟩ := e
    obtain ⟨a, xs, rfl, hs, hr⟩ := lstOf_sq g rv h1
    have e2 := blsOf_eq h2
    subst e2
    have e3 := hr.bls
    subst e3
    exact cr_any hc pins s σ H _ us Q I rs ⟨a, bs, rfl, hs, q0 g q (.bl _)⟩
  · cases e
theorem call_sumD (hc : X.calm = true) : CallR X (.builtin "sum") (rC X.K bSum) := by
  intro pins s σ H xs us Q I rs h
  obtain ⟨ι, S, ds, d, S', g, r, e, q⟩ := h
  unfold bSum at e
  split at e
  · rename_i d0
    obtain ⟨v, rfl, rv⟩ := r.one
    obtain ⟨ys, h1, e⟩ := Option.bind_eq_some_iff.mp e
    obtain ⟨bs, h2, e⟩ := Option.map_eq_some_iff.mp e
    simp only [Prod.mk.injEq] at e
    obtain ⟨rfl, rfl⟩ := e
    obtain ⟨a, xs, rfl, hs, hr⟩ := lstOf_sq g rv h1
    have e2 := intsOf_eq h2
    subst e2
    have e3 := hr.ints
    subst e3
    exact cr_sum hc pins s σ H _ us Q I rs ⟨a, bs, rfl, hs, q0 g q (.int _)⟩
  · cases e
theorem call_maxD (hc : X.calm = true) : CallR X (.builtin "max") (rC X.K bMax) := by
  intro pins s σ H xs us Q I rs h
  obtain ⟨ι, S, ds, d, S', g, r, e, q⟩ := h
  unfold bMax at e
  split at e
  · rename_i d0
    obtain ⟨v, rfl, rv⟩ := r.one
    obtain ⟨ys, h1, e⟩ := Option.bind_eq_some_iff.mp e
    obtain ⟨bs, h2, e0⟩ := Option.bind_eq_some_iff.mp e
    obtain ⟨a, xs, rfl, hs, hr⟩ := lstOf_sq g rv h1
    have e2 := intsOf_eq h2
    subst e2
    have e3 := hr.ints
    subst e3
    cases bs with
    | nil => cases e0
    | cons n ns =>
      have e' : some (D.int (maxI n ns), S) = some (d, S') := e0
      simp only [Option.some.injEq, Prod.mk.injEq] at e'
      obtain ⟨rfl, rfl⟩ := e'
      refine cr_max hc pins s σ H _ us Q I rs ⟨a, n :: ns, rfl, hs, by simp, fun m hm hub => ?_⟩
      obtain ⟨h3, h4⟩ := maxI_ge ns n
      have e5 : m = maxI n ns := by
        apply Int.le_antisymm
        · rcases List.mem_cons.mp hm with z | z
          · rw [z]; exact h3
          · exact h4 m z
        · rcases maxI_mem ns n with z | z
          · rw [z]; exact hub n List.mem_cons_self
          · exact hub _ (List.mem_cons_of_mem _ z)
      rw [e5]
      exact q0 g q (.int _)
  · simp only [Option.some.injEq, Prod.mk.injEq] at e
    obtain ⟨rfl, rfl⟩ := e
    obtain ⟨v, v2, rfl, r1, r2⟩ := r.two
    cases r1
    cases r2
    exact call_max2 hc pins s σ H _ us Q I rs ⟨_, _, rfl, q0 g q (.int _)⟩
  · cases e
def bTuple : List D → Store → Option (D × Store)
  | [.tup xs], S => some (.tup xs, S)
  | [d], S => (lstOf S d).map fun xs => (.tup xs, S)
  | _, _ => none
theorem call_tupleD : CallR X (.type "tuple") (rC X.K bTuple) := by
  intro pins s σ H xs us Q I rs h
  obtain ⟨ι, S, ds, d, S', g, r, e, q⟩ := h
  unfold bTuple at e
  split at e
  · simp only [Option.some.injEq, Prod.mk.injEq] at e
    obtain ⟨rfl, rfl⟩ := e
    obtain ⟨v, rfl, rv⟩ := r.one
    cases rv with
    | tup hs hr => exact call_tupleT pins s σ H _ us Q I rs ⟨_, _, rfl, hs.sq, q0 g q (.tup hs hr)⟩
  · rename_i d0 _
    obtain ⟨v, rfl, rv⟩ := r.one
    obtain ⟨ys, h1, e⟩ := Option.map_eq_some_iff.mp e
    simp only [Prod.mk.injEq] at e
    obtain ⟨rfl, rfl⟩ := e
    obtain ⟨a, xs, rfl, hs, hr⟩ := lstOf_sq g rv h1
    obtain ⟨u, rfl, rx⟩ := vals1 rs
    cases rx
    obtain ⟨its, r', pl, hz⟩ := I.list hs
    have hlen := r'.length
    refine call_tuple_list pl.isList (fun h' kp => ?_) (by simp only [List.size_toArray] <;> omega)
    have I1 : Inv X pins σ H { s with heap := h' } := I.kept (t' := s.toks) kp
    exact fin_tup (s := { s with heap := h' }) (tk := s.toks) I1 g r' hr hz (fun b o e => Heap.get?_push_of_some _ e) (Nat.le_refl _) (Heap.get?_push_size _ rfl) q
  · cases e
/-- list(x), the new list not to be changed; to be changed -/
def seqOf (S : Store) : D → Option (List D)
  | .tup xs => some xs
  | d => lstOf S d
theorem seqOf_sq {d : D} {v : V} {ds : List D} (g : Good X.K ι H S) (r : Rep X.K ι H d v) (e : seqOf S d = some ds) : ∃ a xs, v = .ref a ∧ (SqL X.K H a xs ∨ SqT X.K H a xs) ∧ Reps X.K ι H ds xs := by
  cases r with
  | tup hs hr =>
    cases e
    exact ⟨_, _, rfl, .inr hs.sq, hr⟩
  | lst hs hr =>
    obtain ⟨a, xs, e1, e2, e3⟩ := lstOf_sq g (.lst hs hr) e
    exact ⟨a, xs, e1, .inl e2, e3⟩
  | ref hp =>
    obtain ⟨a, xs, e1, e2, e3⟩ := lstOf_sq g (.ref hp) e
    exact ⟨a, xs, e1, .inl e2, e3⟩
  | _ => simp [seqOf, lstOf] at e
def bListN : List D → Store → Option (D × Store)
  | [d], S => (seqOf S d).map fun xs => (.ref S.length, S ++ [.lst xs])
  | _, _ => none
theorem call_listN : CallR X (.type "list") (rC X.K bListN) := by
  intro pins s σ H xs us Q I rs h
  obtain ⟨ι, S, ds, d, S', g, r, e, q⟩ := h
  unfold bListN at e
  split at e
  · rename_i d0
    obtain ⟨v, rfl, rv⟩ := r.one
    obtain ⟨ys, h1, e⟩ := Option.map_eq_some_iff.mp e
    simp only [Prod.mk.injEq] at e
    obtain ⟨rfl, rfl⟩ := e
    obtain ⟨a, xs, rfl, hs, hr⟩ := seqOf_sq g rv h1
    refine call_list_of pins s σ H _ us Q I rs ⟨a, xs, rfl, hs, fun p hp => ?_⟩
    have km : Keep ι H (ι ++ [p]) (upd H p (.lst xs)) := Keep.made hp
    refine q (ι ++ [p]) _ km (g.made hp ⟨xs, upd_same, Reps.mono km _ _ hr⟩) _ (.ref (Ix.get_new g.len))
  · cases e
/-! ### isinstance -/
inductive Ty where
  | int | bool | str | tuple | list
  deriving DecidableEq
def Ty.name : Ty → String
  | .int => "int"
  | .bool => "bool"
  | .str => "str"
  | .tuple => "tuple"
  | .list => "list"
def tyN : D → String
  | .non => "NoneType"
  | .bl _ => "bool"
  | .int _ => "int"
  | .str _ => "str"
  | .tup _ => "tuple"
  | .lst _ => "list"
  | .ref _ => "list"
  | .exn _ _ => "list"
def isiD : Ty → D → Bool
  | .int, .int _ => true
  | .int, .bl _ => true
  | .bool, .bl _ => true
  | .str, .str _ => true
  | .tuple, .tup _ => true
  | .list, .lst _ => true
  | .list, .ref _ => true
  | .list, .exn _ _ => true
  | _, _ => false
theorem kit_NoneType_int : kitB "NoneType" "int" = some false := by decide +kernel
theorem kit_bool_int : kitB "bool" "int" = some true := by decide +kernel
theorem kit_int_int : kitB "int" "int" = some true := by decide +kernel
theorem kit_str_int : kitB "str" "int" = some false := by decide +kernel
theorem kit_tuple_int : kitB "tuple" "int" = some false := by decide +kernel
theorem kit_list_int : kitB "list" "int" = some false := by decide +kernel
theorem kit_NoneType_bool : kitB "NoneType" "bool" = some false := by decide +kernel
theorem kit_bool_bool : kitB "bool" "bool" = some true := by decide +kernel
theorem kit_int_bool : kitB "int" "bool" = some false := by decide +kernel
theorem kit_str_bool : kitB "str" "bool" = some false := by decide +kernel
theorem kit_tuple_bool : kitB "tuple" "bool" = some false := by decide +kernel
theorem kit_list_bool : kitB "list" "bool" = some false := by decide +kernel
theorem kit_NoneType_str : kitB "NoneType" "str" = some false := by decide +kernel
theorem kit_bool_str : kitB "bool" "str" = some false := by decide +kernel
theorem kit_int_str : kitB "int" "str" = some false := by decide +kernel
theorem kit_str_str : kitB "str" "str" = some true := by decide +kernel
theorem kit_tuple_str : kitB "tuple" "str" = some false := by decide +kernel
theorem kit_list_str : kitB "list" "str" = some false := by decide +kernel
theorem kit_NoneType_tuple : kitB "NoneType" "tuple" = some false := by decide +kernel
theorem kit_bool_tuple : kitB "bool" "tuple" = some false := by decide +kernel
theorem kit_int_tuple : kitB "int" "tuple" = some false := by decide +kernel
theorem kit_str_tuple : kitB "str" "tuple" = some false := by decide +kernel
theorem kit_tuple_tuple : kitB "tuple" "tuple" = some true := by decide +kernel
theorem kit_list_tuple : kitB "list" "tuple" = some false := by decide +kernel
theorem kit_NoneType_list : kitB "NoneType" "list" = some false := by decide +kernel
theorem kit_bool_list : kitB "bool" "list" = some false := by decide +kernel
theorem kit_int_list : kitB "int" "list" = some false := by decide +kernel
theorem kit_str_list : kitB "str" "list" = some false := by decide +kernel
theorem kit_tuple_list : kitB "tuple" "list" = some false := by decide +kernel
theorem kit_list_list : kitB "list" "list" = some true := by decide +kernel
theorem isi_kit (T : Ty) (d : D) : kitB (tyN d) T.name = some (isiD T d) := by
  cases T <;> cases d <;> first | exact kit_NoneType_int | exact kit_bool_int | exact kit_int_int | exact kit_str_int | exact kit_tuple_int | exact kit_list_int | exact kit_NoneType_bool | exact kit_bool_bool | exact kit_int_bool | exact kit_str_bool | exact kit_tuple_bool | exact kit_list_bool | exact kit_NoneType_str | exact kit_bool_str | exact kit_int_str | exact kit_str_str | exact kit_tuple_str | exact kit_list_str | exact kit_NoneType_tuple | exact kit_bool_tuple | exact kit_int_tuple | exact kit_str_tuple | exact kit_tuple_tuple | exact kit_list_tuple | exact kit_NoneType_list | exact kit_bool_list | exact kit_int_list | exact kit_str_list | exact kit_tuple_list | exact kit_list_list
def notRef : D → Bool
  | .ref _ => false
  | .exn _ _ => false
  | _ => true
theorem rep_ty {d : D} {v : V} (g : Good X.K ι H S) (nr' : notRef d = true) (r : Rep X.K ι H d v) : TyX X.K H v (.type (tyN d)) := by
  cases r with
  | non => exact .base .non
  | bl b => exact .base (.bl b)
  | int i => exact .base (.int i)
  | str x => exact .base (.str x)
  | tup hs hr =>
    rcases hs with ⟨_, o, h, _⟩ | ⟨o, its, n, h1, _, h2, _⟩
    · exact .fTuple h
    · exact .kTuple h1 h2
  | lst hs hr =>
    rcases hs with ⟨_, h | ⟨o, h⟩⟩ | ⟨o, its, n, h1, h2, _⟩
    · exact .base (.lst h)
    · exact .base (.frz h)
    · exact .kList h1 h2
  | ref hp =>
    exact absurd nr' (by simp [notRef])
  | exn _ _ _ _ => exact absurd nr' (by simp [notRef])
def evIsi (T : Ty) (fa : DEnv → Store → R D) : DEnv → Store → R D := fun δ S => (fa δ S).bind fun d S1 => if notRef d = true then .ok (.bl (isiD T d)) S1 else .bad
theorem se_isi {e : Expr} {p p2 pos : Pos} {y : Str} {fa : DEnv → Store → R D} (T : Ty) (hm : X.mg "isinstance" = none) (hmT : X.mg y = none) (he : SE X Y e fa) (hv : bootBuiltins y = some (.type T.name) := by decide +kernel) (hg : Gl X "isinstance" := by rfl) (hgT : Gl X y := by rfl)
    (hs : starEach [e, .Name y p2] X.env = (false, eval e X.env) :: starEach [.Name y p2] X.env := by rfl) (hn : y ≠ "__name__" := by decide) (hdb : (y == ("__debug__" : Str)) = false := by decide) :
    SE X Y (.Call (.Name "isinstance" p) [e, .Name y p2] [] pos) (evIsi T fa) :=
  PE.imp (pe_callB call_isi hg hm (by decide +kernel) (pa_cons he (pa_cons (pe_bltn (v := .ty T.name) hgT hmT hv rfl hn hdb) pa_nil rfl) hs) (by decide) (by decide) hs rfl) fun σ H Q ⟨ι, δ, S, k, sr, g, q⟩ =>
    ⟨ι, δ, S, k, sr, g, Post.seq q fun d ι1 H1 S1 k1 g1 q1 => fun v rv => by
      split at q1
      · rename_i nr
        exact ⟨v, .ty T.name, _, _, isiD T d, rfl, .ty _, rep_ty g1 nr rv, kit_ty (isi_kit T d), q1 ι1 H1 (Keep.refl _ _) g1 _ (.bl _)⟩
      · exact q1.elim⟩
end
end DL
end
section
set_option Elab.async false
set_option linter.all false
set_option maxRecDepth 100000
set_option maxHeartbeats 4000000
/-! the data layer 6: methods of lists and tuples -/
namespace DL
open PySem PySem.Spec PyProof.Rows L2

theorem list_extendW (l : Addr) (items : Array Value) (n : Nat) (b : Addr) (items2 : Array Value) (n2 : Nat) (dd : Option Addr) (sl2 : Array (Option Value)) (hc0 : ¬(!items.isEmpty && Builtin.List.listTooLong (items.size + items2.size)) = true) (hc1 : items.size ≤ sizeLine) (hs2 : items.size + items2.size ≤ sizeLine + 1) :
    Meets (Builtin.«list.extend» ⟨[.ref l, .ref b], []⟩) (fun _ R s => s.heap.get? l = some { cls := .type "list", dict := none, data := .seq items n, slots := #[] } ∧ s.heap.get? b = some { cls := .type "list", dict := dd, data := .seq items2 n2, slots := sl2 } ∧ R (.ok (.ret Value.none)) { s with heap := s.heap.update l (Obj.mapSeq fun x => x ++ items2), toks := s.toks }) :=
  .of_wp fun prog w A R s h => by
    obtain ⟨hp, g, d, tk, os⟩ := s; obtain ⟨hl, hb, h⟩ := h; have f1 := AutoSeq1.idx_int; have f2 := AutoSeq1.sub_tuple_tuple; have f3 := AutoSeq1.sub_list_list; have f4 := AutoSeq1.sub_tuple_list; have f5 := AutoSeq1.sub_list_tuple;
    have hz' : (items ++ items2).size ≤ sizeLine + 1 := by rw [Array.size_append]; exact hs2
    wp_walk using (wpAny_updateSeq hl rfl (hz := hc1) (_hz' := hz')), wpAny_loadPart' hl, wpAny_loadPart' hb; exact ⟨_, rfl, h⟩

section
variable {X : Cx} {pins : List (Addr × Obj)} {s : Shared} {σ : L2.St} {H : Hp} {Q : VK} {ι : Ix} {S : Store} {Y : Yc}

def rM (K : PySem.W.Frag) (op : D → List D → Store → Option (D × Store)) : V → List V → Hp → VK → Prop := fun x xs H Q => ∃ ι S d ds d' S', Good K ι H S ∧ Rep K ι H d x ∧ Reps K ι H ds xs ∧ op d ds S = some (d', S') ∧ ∀ ι' H', Keep ι H ι' H' → Good K ι' H' S' → pE K Q d' ι' H' S'
def evMeth (op : D → List D → Store → Option (D × Store)) (fo : DEnv → Store → R D) (fr : DEnv → Store → R (List D)) : DEnv → Store → R D := fun δ S => (fo δ S).bind fun d S1 => if (lstOf S1 d).isSome = true then (fr δ S1).bind fun ds S2 => ofO (op d ds S2) else .bad
theorem se_bmL {o e : Expr} {es : List Expr} {name : Str} {apos cpos : Pos} {id : String} {op : D → List D → Store → Option (D × Store)} {fo : DEnv → Store → R D} {fr : DEnv → Store → R (List D)} (slot : Slot "list" name id) (hty : typeOf (.builtin id) = pure (.type "method_descriptor")) (hm : MtR X id (rM X.K op)) (ho : SE X Y o fo) (ha : SA X Y (e :: es) fr)
    (hbase : attributeBase o name X.env (eval o X.env) = eval o X.env := by rfl)
    (hfew : ((backTo cpos (starEach (e :: es) X.env)).all (fun x => !x.1) && (backToKw cpos (keywordEach [] X.env)).all (fun x => x.1.isSome)
      && decide ((e :: es).length + ([] : List Keyword).length + (if ([] : List Keyword).isEmpty then 0 else 1) < 30)) = true := by rfl)
    (hline : (apos.endLine == cpos.line) = true := by rfl) (hs : starEach (e :: es) X.env = (false, eval e X.env) :: starEach es X.env := by rfl) (hplain : (backTo cpos (starEach es X.env)).any (·.1) = false := by rfl) :
    SE X Y (.Call (.Attribute o name apos) (e :: es) [] cpos) (evMeth op fo fr) :=
  PE.imp (pe_bm PySem.F.plainAttrs_list slot hty hm ho ha hbase hfew hline hs hplain) fun σ H Q ⟨ι, δ, S, k, sr, g, q⟩ => ⟨ι, δ, S, k, sr, g, Post.seq q fun d ι1 H1 S1 k1 g1 q1 => fun v rv => by
    split at q1
    · rename_i hl
      obtain ⟨ds, hds⟩ := Option.isSome_iff_exists.mp hl
      obtain ⟨a, xs, rfl, hsq, hr⟩ := lstOf_sq g1 rv hds
      refine ⟨.inl ⟨rfl, xs, hsq⟩, ι1, δ, S1, k.trans k1, sr.mono k1, g1, Post.seq q1 fun es2 ι2 H2 S2 k2 g2 q2 => fun vs rvs => ?_⟩
      cases e2 : op d es2 S2 with
      | none => rw [e2] at q2; exact q2.elim
      | some z =>
        obtain ⟨d', S'⟩ := z
        rw [e2] at q2
        exact ⟨ι2, S2, d, es2, d', S', g2, Rep.mono k2 _ _ rv, rvs, e2, q2⟩
    · exact q1.elim⟩
/-- o.m() -/
def evMeth0 (op : D → List D → Store → Option (D × Store)) (fo : DEnv → Store → R D) : DEnv → Store → R D := fun δ S => (fo δ S).bind fun d S1 => if (lstOf S1 d).isSome = true then ofO (op d [] S1) else .bad
theorem se_bmL0 {o : Expr} {name : Str} {apos cpos : Pos} {id : String} {op : D → List D → Store → Option (D × Store)} {fo : DEnv → Store → R D} (slot : Slot "list" name id) (hty : typeOf (.builtin id) = pure (.type "method_descriptor")) (hm : MtR X id (rM X.K op)) (ho : SE X Y o fo)
    (hbase : attributeBase o name X.env (eval o X.env) = eval o X.env := by rfl) (hline : (apos.endLine == cpos.line) = true := by rfl) : SE X Y (.Call (.Attribute o name apos) [] [] cpos) (evMeth0 op fo) :=
  PE.imp (pe_bm0 PySem.F.plainAttrs_list slot hty hm ho hbase hline) fun σ H Q ⟨ι, δ, S, k, sr, g, q⟩ => ⟨ι, δ, S, k, sr, g, Post.seq q fun d ι1 H1 S1 k1 g1 q1 => fun v rv => by
    split at q1
    · rename_i hl
      obtain ⟨ds, hds⟩ := Option.isSome_iff_exists.mp hl
      obtain ⟨a, xs, rfl, hsq, hr⟩ := lstOf_sq g1 rv hds
      refine ⟨.inl ⟨rfl, xs, hsq⟩, ?_⟩
      cases e2 : op d [] S1 with
      | none => rw [e2] at q1; exact q1.elim
      | some z =>
        obtain ⟨d', S'⟩ := z
        rw [e2] at q1
        exact ⟨ι1, S1, d, [], d', S', g1, rv, .nil, e2, q1⟩
    · exact q1.elim⟩

/-! ### append, extend, pop -/
theorem wr {n : Nat} {p : Addr} {xs ys : List V} {ds es : List D} (g : Good X.K ι H S) (hp : ι[n]? = some p) (r : Reps X.K ι H es ys) {d : D} {v : V} (rv : Rep X.K ι H d v)
    (q : ∀ ι' H', Keep ι H ι' H' → Good X.K ι' H' (S.set n (.lst es)) → pE X.K Q d ι' H' (S.set n (.lst es))) : Q v (upd H p (.lst ys)) := by
  have km : Keep ι H ι (upd H p (.lst ys)) := Keep.write g hp
  exact q ι _ km (g.write hp ⟨ys, upd_same, Reps.mono km _ _ r⟩) v (Rep.mono km _ _ rv)
def mAppend : D → List D → Store → Option (D × Store)
  | .ref n, [y], S => match S[n]? with
    | some (.lst xs) => if xs.length < sizeLine then some (.non, S.set n (.lst (xs ++ [y]))) else none
    | _ => none
  | _, _, _ => none
theorem mt_appendD : MtR X "list.append" (rM X.K mAppend) := by
  intro pins s σ H x xs v us Q I rx rv h
  obtain ⟨ι, S, d, ds, d', S', g, r1, r2, e, q⟩ := h
  unfold mAppend at e
  split at e
  · rename_i n y
    split at e
    · rename_i zs ha
      split at e
      · rename_i hz
        simp only [Option.some.injEq, Prod.mk.injEq] at e
        obtain ⟨rfl, rfl⟩ := e
        cases r1 with
        | @ref _ p hp =>
          obtain ⟨w, rfl, rw'⟩ := r2.one
          obtain ⟨ys, hy, hr⟩ := g.lst_at hp ha
          refine mt_append pins s σ H _ _ v us Q I rx rv ⟨p, ys, w, rfl, rfl, hy, by rw [← hr.length]; exact hz, ?_⟩
          exact wr (xs := ys) (ds := zs) g hp (hr.append (.cons rw' .nil)) .non q
      · cases e
    · cases e
  · cases e
def mExtend : D → List D → Store → Option (D × Store)
  | .ref n, [.lst ys], S => match S[n]? with
    | some (.lst xs) => if xs.length + ys.length ≤ sizeLine then some (.non, S.set n (.lst (xs ++ ys))) else none
    | _ => none
  | _, _, _ => none
theorem mt_extendD : MtR X "list.extend" (rM X.K mExtend) := by
  intro pins s σ H x xs v us Q I rx rv h
  obtain ⟨ι, S, d, ds, d', S', g, r1, r2, e, q⟩ := h
  unfold mExtend at e
  split at e
  · rename_i n y
    split at e
    · rename_i zs ha
      split at e
      · rename_i hz
        simp only [Option.some.injEq, Prod.mk.injEq] at e
        obtain ⟨rfl, rfl⟩ := e
        cases r1 with
        | @ref _ p hp =>
          obtain ⟨w, rfl, rw'⟩ := r2.one
          cases rw' with
          | @lst b ws _ hs hr2 =>
            obtain ⟨ys, hy, hr⟩ := g.lst_at hp ha
            cases rx
            obtain ⟨u, rfl, ru⟩ := rv.one
            cases ru
            obtain ⟨z, its, n1, r, hl, e1⟩ := I.lstM hy
            obtain ⟨its2, t2, ⟨⟨cls2, dd2, data2, sl2⟩, n2, ho2, hc2, hdn2, hd2⟩, _⟩ := I.list hs.sq
            simp only at hc2 hd2 hdn2
            subst hc2 hd2 hdn2
            have l1 := hr.length
            have l2 := hr2.length
            have l3 := t2.length
            have hsz : its.toArray.size + its2.toArray.size ≤ sizeLine := by rw [List.size_toArray, List.size_toArray]; omega
            have hlong : ¬ (!its.toArray.isEmpty && Builtin.List.listTooLong (its.toArray.size + its2.toArray.size)) = true := by
              rw [notLongL hsz, Bool.and_false]
              exact Bool.false_ne_true
            refine call_meets F.slot_list_extend ⟨_, e1, rfl⟩ F.entry_list_extend (F.args_list_extend_2 _ _)
              (list_extendW p its.toArray n1 b its2.toArray n2 none sl2 hlong (by rw [List.size_toArray]; omega) (by omega)) ⟨e1, ho2, ?_⟩
            refine ⟨.non, _, I.lset (its' := its ++ its2) hy e1 (by simp) (r.append t2) (by rw [List.length_append]; omega), rfl, ?_⟩
            exact wr (xs := ys) (ds := zs) g hp (hr.append hr2) .non q
      · cases e
    · cases e
  · cases e
theorem Reps.dropLast {ds : List D} {vs : List V} (h : Reps X.K ι H ds vs) : Reps X.K ι H ds.dropLast vs.dropLast := by
  rw [List.dropLast_eq_take, List.dropLast_eq_take, h.length]
  exact h.take _
def mPop : D → List D → Store → Option (D × Store)
  | .ref n, [], S => match S[n]? with
    | some (.lst xs) => (xs[xs.length - 1]?).map fun y => (y, S.set n (.lst xs.dropLast))
    | _ => none
  | .ref n, [.int i], S => match S[n]? with
    | some (.lst xs) => if 0 ≤ i ∧ i < xs.length then (xs[i.toNat]?).map fun y => (y, S.set n (.lst (xs.eraseIdx i.toNat))) else none
    | _ => none
  | _, _, _ => none
theorem Reps.eraseIdx : ∀ {ds : List D} {vs : List V} (i : Nat), Reps X.K ι H ds vs → Reps X.K ι H (ds.eraseIdx i) (vs.eraseIdx i)
  | [], _, _, h => by cases h; exact .nil
  | _ :: _, _, 0, h => by
    cases h with
    | cons h1 h2 => exact h2
  | _ :: _, _, i + 1, h => by
    cases h with
    | cons h1 h2 => exact .cons h1 (Reps.eraseIdx i h2)
theorem mt_popD : MtR X "list.pop" (rM X.K mPop) := by
  intro pins s σ H x xs v us Q I rx rv h
  obtain ⟨ι, S, d, ds, d', S', g, r1, r2, e, q⟩ := h
  unfold mPop at e
  split at e
  · rename_i n
    split at e
    · rename_i zs ha
      obtain ⟨y, hy0, e0⟩ := Option.map_eq_some_iff.mp e
      simp only [Prod.mk.injEq] at e0
      obtain ⟨rfl, rfl⟩ := e0
      cases r1 with
      | @ref _ p hp =>
        cases r2
        obtain ⟨ys, hy, hr⟩ := g.lst_at hp ha
        obtain ⟨w, hw, rw'⟩ := hr.get hy0
        rw [hr.length] at hw
        refine mt_pop pins s σ H _ _ v us Q I rx rv ⟨p, ys, w, rfl, rfl, hy, hw, ?_⟩
        exact wr (xs := ys) (ds := zs) g hp hr.dropLast rw' q
    · cases e
  · rename_i n i
    split at e
    · rename_i zs ha
      split at e
      · rename_i hi
        obtain ⟨y, hy0, e0⟩ := Option.map_eq_some_iff.mp e
        simp only [Prod.mk.injEq] at e0
        obtain ⟨rfl, rfl⟩ := e0
        cases r1 with
        | @ref _ p hp =>
          obtain ⟨w0, rfl, rw0⟩ := r2.one
          cases rw0
          obtain ⟨ys, hy, hr⟩ := g.lst_at hp ha
          obtain ⟨w, hw, rw'⟩ := hr.get hy0
          obtain ⟨hz, _⟩ := I.hok p _ hy
          have hsl := sizeLine_eq
          have hl := hr.length
          refine mt_popAt pins s σ H _ _ v us Q I rx rv ⟨p, ys, i, i.toNat, w, rfl, rfl, hy, by omega, by omega, ?_, hw, ?_⟩
          · refine (ixN_seq ?_).1
            unfold ixN
            rw [if_pos hi.1, if_pos (by omega)]
          · exact wr (xs := ys) (ds := zs) g hp (hr.eraseIdx _) rw' q
      · cases e
    · cases e
  · cases e

/-! ### index -/
def findD (x : D) (xs : List D) : Option Nat := xs.findIdx? fun z => eqD z x
def mIndex : D → List D → Store → Option (D × Store)
  | l, [x], S => (lstOf S l).bind fun xs => if okD (.lst xs) = true ∧ okD x = true then (findD x xs).map fun j => (.int (j : Nat), S) else none
  | _, _, _ => none
theorem toPys_get : ∀ (ds : List D) (i : Nat), (toPys ds)[i]? = ds[i]?.map toPy
  | [], i => by simp [toPys]
  | d :: ds, 0 => by simp [toPys]
  | d :: ds, i + 1 => by simp [toPys, toPys_get ds i]
theorem mt_indexDD (hu : X.A.units + 65 < cLine) : MtR X "list.index" (rM X.K mIndex) := by
  intro pins s σ H x xs v us Q I rx rv h
  obtain ⟨ι, S, d, ds, d', S', g, r1, r2, e, q⟩ := h
  unfold mIndex at e
  split at e
  · rename_i y
    obtain ⟨zs, hzs, e1⟩ := Option.bind_eq_some_iff.mp e
    split at e1
    · rename_i hok
      obtain ⟨j, hj, e0⟩ := Option.map_eq_some_iff.mp e1
      simp only [Prod.mk.injEq] at e0
      obtain ⟨rfl, rfl⟩ := e0
      obtain ⟨w, rfl, rw'⟩ := r2.one
      obtain ⟨a, ws, rfl, hs, hr⟩ := lstOf_sq g r1 hzs
      obtain ⟨p1, s1⟩ := okD_ok hok.1
      obtain ⟨pp2, s2⟩ := okD_ok hok.2
      have hjl := List.findIdx?_eq_some_iff_getElem.mp hj
      obtain ⟨h1, h2, h3⟩ := hjl
      refine mt_indexD hu pins s σ H _ _ v us Q I rx rv ⟨a, w, toPy y, toPys zs, j, toPy zs[j], rfl, rfl, .lst hs (Reps.dp _ _ p1 hr), Rep.dp _ _ pp2 rw', s1, s2, ?_, h2, fun m z' hm hz' => ?_, q0 g q (.int _)⟩
      · rw [toPys_get, List.getElem?_eq_getElem h1]
        rfl
      · rw [toPys_get] at hz'
        obtain ⟨z0, hz0, rfl⟩ := Option.map_eq_some_iff.mp hz'
        have hml : m < zs.length := (List.getElem?_eq_some_iff.mp hz0).1
        have := h3 m hm
        rw [List.getElem?_eq_getElem hml] at hz0
        cases hz0
        simpa [eqD] using this
    · cases e1
  · cases e
def findF (x : D) (xs : List D) : Option Nat := xs.findIdx? fun z => eqV (flV z) (flV x)
def tIndex : D → List D → Store → Option (D × Store)
  | .tup xs, [x], S => if flatD x = true ∧ xs.all flatD = true then (findF x xs).map fun j => (.int (j : Nat), S) else none
  | _, _, _ => none
theorem mt_tupIndexD : MtR X "tuple.index" (rM X.K tIndex) := by
  intro pins s σ H x xs v us Q I rx rv h
  obtain ⟨ι, S, d, ds, d', S', g, r1, r2, e, q⟩ := h
  unfold tIndex at e
  split at e
  · rename_i zs y
    split at e
    · rename_i hf
      obtain ⟨j, hj, e0⟩ := Option.map_eq_some_iff.mp e
      simp only [Prod.mk.injEq] at e0
      obtain ⟨rfl, rfl⟩ := e0
      obtain ⟨w, rfl, rw'⟩ := r2.one
      cases r1 with
      | @tup p ws _ hs hr =>
        cases rx
        obtain ⟨u, rfl, ru⟩ := rv.one
        obtain ⟨its, r, pl, hz⟩ := I.tuple hs.sq
        obtain ⟨⟨cls, dd, dt, sl⟩, ho, hc, n, hd⟩ := pl
        simp only at hc hd
        subst hc
        subst hd
        obtain ⟨ew, fw⟩ := flat_rep hf.1 rw'
        obtain ⟨ews, fws⟩ := flat_reps hf.2 hr
        have hl : its.toArray.size = zs.length := by rw [List.size_toArray, ← r.length, ← hr.length]
        obtain ⟨h1, h2, h3⟩ := List.findIdx?_eq_some_iff_getElem.mp hj
        have at' : ∀ (m : Nat) (hm : m < its.toArray.size) (hm2 : m < zs.length), eqU w its.toArray[m] = eqV (flV zs[m]) (flV y) := fun m hm hm2 => by
          have e1 : ws[m]? = some (flV zs[m]) := by rw [ews, List.getElem?_map, List.getElem?_eq_getElem hm2]; rfl
          obtain ⟨u', hu', ru'⟩ := r.get e1
          have e2 : its.toArray[m] = u' := by
            have hm' : m < its.length := by simpa using hm
            rw [List.getElem?_eq_getElem hm'] at hu'
            cases hu'
            simp
          rw [e2, eqU_of ru' (List.all_eq_true.mp fws _ (List.mem_of_getElem? e1)), ew]
        refine call_meets PySem.F.slot_tuple_index ⟨_, ho, rfl⟩ PySem.F.entry_tuple_index (PySem.F.args_tuple_index_2 _ _) (_root_.TI.tuple_indexAt p its.toArray n dd sl u (eqU w) j (by rw [hl]; exact h1) ?_ ?_)
          ⟨ho, fun z hz => mem_eqAt ru fw r fws z (by simpa using hz), ⟨.int (j : Nat), H, I.tok _, ⟨_, rfl⟩, q0 g q (.int _)⟩⟩
        · rw [at' j (by rw [hl]; exact h1) h1]
          exact h2
        · intro m hm hmj
          rw [at' m hm (by omega)]
          have := h3 m hmj
          simpa using this
    · cases e
  · cases e
/-- t.m(e) of a tuple -/
def isTupD : D → Bool
  | .tup _ => true
  | _ => false
def evMethT (op : D → List D → Store → Option (D × Store)) (fo : DEnv → Store → R D) (fr : DEnv → Store → R (List D)) : DEnv → Store → R D := fun δ S => (fo δ S).bind fun d S1 => if isTupD d = true then (fr δ S1).bind fun ds S2 => ofO (op d ds S2) else .bad
theorem se_bmT {o e : Expr} {es : List Expr} {name : Str} {apos cpos : Pos} {id : String} {op : D → List D → Store → Option (D × Store)} {fo : DEnv → Store → R D} {fr : DEnv → Store → R (List D)} (slot : Slot "tuple" name id) (hty : typeOf (.builtin id) = pure (.type "method_descriptor")) (hm : MtR X id (rM X.K op)) (ho : SE X Y o fo) (ha : SA X Y (e :: es) fr)
    (hbase : attributeBase o name X.env (eval o X.env) = eval o X.env := by rfl)
    (hfew : ((backTo cpos (starEach (e :: es) X.env)).all (fun x => !x.1) && (backToKw cpos (keywordEach [] X.env)).all (fun x => x.1.isSome)
      && decide ((e :: es).length + ([] : List Keyword).length + (if ([] : List Keyword).isEmpty then 0 else 1) < 30)) = true := by rfl)
    (hline : (apos.endLine == cpos.line) = true := by rfl) (hs : starEach (e :: es) X.env = (false, eval e X.env) :: starEach es X.env := by rfl) (hplain : (backTo cpos (starEach es X.env)).any (·.1) = false := by rfl) :
    SE X Y (.Call (.Attribute o name apos) (e :: es) [] cpos) (evMethT op fo fr) := by
  refine ⟨fun pins s σ H Q I h => ?_⟩
  obtain ⟨ι, δ, S, k, sr, g, q⟩ := h
  have hO : tl X.K Y fo σ H fun x H1 => ∃ (ι1 : Ix × Addr) (S1 : Store) (xs : List V) (ds : List D), x = .ref ι1.2 ∧ SqTi X.K ι1.1 H1 ι1.2 xs ∧ Reps X.K ι1.1 H1 ds xs ∧ Keep ι H ι1.1 H1 ∧ Good X.K ι1.1 H1 S1 ∧ Post X.K Y.EX ι1.1 H1 (pE X.K Q) ((fr δ S1).bind fun es2 S2 => ofO (op (.tup ds) es2 S2)) :=
    ⟨ι, δ, S, k, sr, g, Post.seq q fun d ι1 H1 S1 k1 g1 q1 => fun v rv => by
      split at q1
      · rename_i ht
        cases rv with
        | @tup a xs ds hs hr => exact ⟨(ι1, a), S1, xs, ds, rfl, hs, hr, k1, g1, q1⟩
        | _ => simp [isTupD] at ht
      · exact q1.elim⟩
  refine wpAny_Call_method_late hbase hfew hline rfl (thn (ho.run pins s σ H _ I hO) fun v s1 ⟨x, H1, I1, r1, ⟨ι1, a⟩, S1, xs, ds, hx, hsq, hr, k1, g1, q1⟩ => ?_)
  subst hx
  cases r1
  have hty2 : s1.TypeIs (.ref a) "tuple" ∧ ∀ b, Value.ref a = .ref b → ∃ ob, s1.heap.get? b = some ob ∧ ob.dict = none := by
    rcases hsq with ⟨_, ob, h1, h2⟩ | ⟨ob, its, n, h1, h2, h3, _⟩
    · obtain ⟨e1, _, its, _, o2, e2, hc, _⟩ := I1.hok a _ h1
      rw [e1] at e2
      cases e2
      exact ⟨⟨ob, e1, hc⟩, fun b e => by cases e; exact ⟨ob, e1, h2⟩⟩
    · exact ⟨⟨ob, I1.kIn a ob h1, h3⟩, fun b e => by cases e; exact ⟨ob, I1.kIn _ ob h1, h2⟩⟩
  refine ⟨"tuple", id, PySem.F.plainAttrs_tuple, slot, hty, hty2.1, hty2.2, ?_⟩
  have hA := ha.run cpos pins s1 σ H1 (fun vs H2 => rM X.K op (.ref a) vs H2 Q) I1 ⟨ι1, δ, S1, k.trans k1, sr.mono k1, g1, Post.seq q1 fun es2 ι2 H2 S2 k2 g2 q2 => fun vs rvs => by
    cases e2 : op (.tup ds) es2 S2 with
    | none => rw [e2] at q2; exact q2.elim
    | some z =>
      obtain ⟨d', S'⟩ := z
      rw [e2] at q2
      exact ⟨ι2, S2, .tup ds, es2, d', S', g2, Rep.mono k2 _ _ (.tup hsq hr), rvs, e2, q2⟩⟩
  rw [hs] at hA ⊢
  refine Calls.callWith_builtin (by show (false || (backTo cpos (starEach es X.env)).any (·.1)) = false; rw [hplain] <;> rfl) (Calls.evalArgs_plain ?_)
  exact thn hA fun us s2 ⟨vs, H2, I2, r2, q2⟩ => hm pins s2 σ H2 (.ref a) vs (.ref a) us Q I2 rfl r2 q2
end
end DL
end
section
set_option Elab.async false
set_option linter.all false
set_option maxRecDepth 100000
set_option maxHeartbeats 4000000
/-! the data layer 7: what is walked -/
namespace DLx
open PySem PySem.Spec PyProof.Rows L2
open AutoSeq1 (wpAny_loadPart')
theorem meets_enumerate_newT (l : Addr) (items : Array Value) (n : Nat) (dct : Option Addr) (sl : Array (Option Value)) :
    Meets (Builtin.«enumerate.__new__» ⟨[.type "enumerate", .ref l], []⟩) (fun _ R s => s.heap.get? l = some { cls := .type "tuple", dict := dct, data := .seq items n, slots := sl } ∧
      R (.ok (.ret (.ref (s.heap.push { cls := .type "tuple_iterator", data := .fields #[.ref l, .int 0 0] }).objs.size)))
        { s with heap := (s.heap.push { cls := .type "tuple_iterator", data := .fields #[.ref l, .int 0 0] }).push { cls := .type "enumerate", data := .fields #[.none, .bool false, .ref s.heap.objs.size, rawInt 0, .none, .none] } }) :=
  .of_wp fun prog w A R s h => by
    obtain ⟨hp, g, d, tk, os⟩ := s; obtain ⟨hl, h⟩ := h
    have hsub := sub_enumerate
    have hL : Heap.IsTuple (Shared.heap ⟨hp, g, d, tk, os⟩) l items := ⟨_, hl, rfl, n, rfl⟩
    wp_walk using wpAny_loadPart' hl
    refine wpAny_stack_any fun st => wpAny_pure ?_
    split
    · rename_i c _ _ _ _ _
      cases (c == Value.type "enumerate")
      · wp_walk using wpAny_loadPart' hl, wpAny_pyIter_tuple hL
        exact ⟨_, rfl, h⟩
      · wp_walk using wpAny_loadPart' hl, wpAny_pyIter_tuple hL
        exact ⟨_, rfl, h⟩
    · wp_walk using wpAny_loadPart' hl, wpAny_pyIter_tuple hL
      exact ⟨_, rfl, h⟩
section
variable {prog : Program} {w : World} {A : Around} {E : Value → Shared → Prop} {s : Shared}
theorem call_enumerate_tuple {l : Addr} {items : Array Value} {Q : Value → Shared → Prop} (hL : IsTup s.heap l items)
    (h : ∀ h', IsEnum h' (s.heap.objs.size + 1) s.heap.objs.size 0 .none → h'.IsTupleIter s.heap.objs.size l 0 → h'.objs.size = s.heap.objs.size + 2 →
      (∀ b o, s.heap.get? b = some o → h'.get? b = some o) → Q (.ref (s.heap.objs.size + 1)) { s with heap := h' }) :
    wpAny (model prog w) A (call (.type "enumerate") [.ref l]) Q E s := by
  obtain ⟨⟨c, dct, dt, sl⟩, hl, hc, n, hd⟩ := hL
  replace hc : c = .type "tuple" := hc
  replace hd : dt = .seq items n := hd
  subst hc hd
  refine callType_new F.called_enumerate (by decide) (F.typeCall_enumerate_1 _) (F.newCall_enumerate_1 _) (fun obj => F.args_object_init_2 obj _) F.entry_enumerate_new
    (meets_enumerate_newT l items n dct sl) ⟨hl, ?_⟩
  have hz : (s.heap.push { cls := .type "tuple_iterator", data := .fields #[.ref l, .int 0 0] }).objs.size = s.heap.objs.size + 1 := Heap.size_push ..
  show _ ∧ _
  rw [hz]
  have he : IsEnum ((s.heap.push { cls := .type "tuple_iterator", data := .fields #[.ref l, .int 0 0] }).push
      { cls := .type "enumerate", data := .fields #[.none, .bool false, .ref s.heap.objs.size, rawInt 0, .none, .none] }) (s.heap.objs.size + 1) s.heap.objs.size 0 .none := by
    have := Heap.get?_push_size (s.heap.push { cls := .type "tuple_iterator", data := .fields #[.ref l, .int 0 0] })
      (o := { cls := .type "enumerate", data := .fields #[.none, .bool false, .ref s.heap.objs.size, rawInt 0, .none, .none] }) rfl
    rw [hz] at this; exact this
  refine ⟨⟨_, he, rfl⟩, h _ he ⟨_, Heap.get?_push_of_some _ (Heap.get?_push_size _ rfl), rfl, rfl⟩ (by rw [Heap.size_push, hz]) fun b o x => Heap.get?_push_of_some _ (Heap.get?_push_of_some _ x)⟩
end
/-- enumerate of a tuple -/
def IteT (K : PySem.W.Frag) (a : Addr) : It :=
  ⟨fun i H => ∃ (xs : List V) (x : V), SqT K H a xs ∧ xs[i]? = some x, fun i H v H' => ∃ T x, v = .ref T ∧ H T = none ∧ H' = upd H T (.tup [.int (i : Nat), x]) ∧ ∀ xs, SqT K H a xs → xs[i]? = some x, fun i H => ∃ xs : List V, SqT K H a xs ∧ xs.length ≤ i⟩
theorem turn_enumT {P : Program} {w : World} {K : PySem.W.Frag} {elts : List Expr} {kk : Nat} {tpos : Pos} (a e it : Addr) (hne : e ≠ it) (hea : e ≠ a) (hai : a ≠ it) :
    Turn P w K (.Tuple elts kk tpos) (IteT K a) [e, it] e (fun i h => (∃ old, IsEnum h e it ((i : Nat) : Int) old) ∧ h.IsTupleIter it a i) where
  mem := by simp
  obj := fun i h st b hb => by
    obtain ⟨⟨old, he⟩, ⟨o, ho, hc, hd⟩⟩ := st
    have e' : b = e ∨ b = it := by simpa using hb
    rcases e' with z | z
    · rw [z]; exact ⟨_, he, fun v q => nomatch q⟩
    · rw [z]; exact ⟨o, ho, fun v q => by rw [hd] at q; cases q⟩
  keep := fun i h h' st k => let ⟨⟨old, he⟩, hi⟩ := st; ⟨⟨old, k e (by simp) _ he⟩, hi.at fun o q => k it (by simp) o q⟩
  item := by
    intro X hP hw hK hc i pins s σ H E I hf st hg
    subst hP hw hK
    obtain ⟨⟨old, he⟩, hit⟩ := st
    obtain ⟨xs, x, hq, hx⟩ := hg
    obtain ⟨its, rv, p, hz⟩ := I.tuple hq
    obtain ⟨u, hu, ru⟩ := rv.get hx
    have hel : e < s.heap.objs.size := Heap.lt_size he
    have hil : it < s.heap.objs.size := by obtain ⟨_, q, _⟩ := hit; exact Heap.lt_size q
    have hlt : i < its.toArray.size := by simpa using (List.getElem?_eq_some_iff.mp hu).1
    have D := Draws.tuple (prog := X.prog) (w := X.w) (A := X.A.in1) (show X.A.in1.handled = none from I.ok.hd hc) it a hai its.toArray
    refine wpAny_pyNext_enum_itemD D he ⟨hit, p⟩ hlt hne (by simp [hne, hea]) fun y h' tk hP ho hit' hT hsz hk => ?_
    have ey : y = u := by
      have h1 : its.toArray[i]? = some u := by simpa using hu
      rw [h1] at hP
      exact (Option.some.inj hP).symm
    subst ey
    refine ⟨_, rfl, wpAny_letOwnedTupleGo_enum (s := { s with heap := h', toks := tk + 1 }) ho fun h'' he' sb => ?_⟩
    have hT2 : h''.get? s.heap.objs.size = some { cls := .type "tuple", data := .seq #[.int i tk, y] } := (sb.2 _ (Nat.ne_of_gt hel)).trans hT
    have new : ObjOk X.prog X.w (upd H s.heap.objs.size (.tup [.int (i : Nat), x])) h'' s.heap.objs.size (.tup [.int (i : Nat), x]) :=
      ⟨by show 2 ≤ sizeLine; decide, [.int i tk, y], .cons ⟨_, rfl⟩ (.cons ru .nil), ⟨_, hT2, rfl, _, rfl⟩⟩
    have I1 : Inv X pins σ (upd H s.heap.objs.size (.tup [.int (i : Nat), x])) { s with heap := h'', toks := tk + 1 } :=
      I.turnedNew (ch := [e, it]) (fun b ob hb q => (sb.2 b (fun z => hb (by simp [z]))).trans (hk b ob (fun z => hb (by simp [z])) (fun z => hb (by simp [z])) q)) hf (Nat.le_refl _) new
    refine ⟨.ref s.heap.objs.size, _, I1, rfl, ⟨_, x, rfl, I.hok.fresh (Nat.le_refl _), rfl, fun ys hy => by rw [I.tuple_inj hy hq]; exact hx⟩, ⟨⟨y, ?_⟩, hit'.1.at fun o q => (sb.2 it (Ne.symm hne)).trans q⟩, fun b hb => ?_⟩
    · have e1 : ((i + 1 : Nat) : Int) = (i : Int) + 1 := by omega
      rw [e1]; exact he'
    · have hb' : b < s.heap.objs.size := by
        have e' : b = e ∨ b = it := by simpa using hb
        rcases e' with z | z
        · rw [z]; exact hel
        · rw [z]; exact hil
      rw [upd_ne (Nat.ne_of_lt hb')]
      exact (hf b hb).1
  done := by
    intro X hP hw hK hc i pins s σ H E I hf st hg
    subst hP hw hK
    obtain ⟨⟨old, he⟩, hit⟩ := st
    obtain ⟨xs, hq, hx⟩ := hg
    obtain ⟨its, rv, p, hz⟩ := I.tuple hq
    obtain ⟨f0, f1, f2, f3, f4, f5⟩ := hf it (by simp)
    have hl := rv.length
    have hT : s.TypeIs (.ref e) "enumerate" := ⟨_, he, rfl⟩
    unfold pyNext
    refine wpAny_bind (wpAny_attempt (wpAny_callSpecial?_slot (name := Str.ofString "__next__") hT F.slot_enumerate_next
      (wpAny_call_entry F.slot_enumerate_next hT F.entry_enumerate_next ?_ (F.args_enumerate_next_1 _))))
    show wpAny _ _ (field (.ref e) 2 >>= _) _ _ _
    refine wpAny_bind (wpAny_field he rfl (x := .ref it) rfl ?_)
    refine wpAny_bind (wpAny_nextOf_tuple_end (show X.A.in1.handled = none from I.ok.hd hc) hit p (by simp; omega) fun h' x he' hx' => ?_)
    obtain ⟨o, ho, hc'⟩ := hx'
    refine wpAny_bind (wpAny_isInstance (T := "StopIteration") (b := true) ⟨o, ho, hc'⟩ isSubtype_stop ?_)
    exact wpAny_pure ⟨rfl, I.turned (t' := s.toks) (fun b o hb q => he' b o hb q) f0 f1 f3 f4 f5⟩
  self := fun A i s Q E st h => let ⟨⟨_, he⟩, _⟩ := st; wpAny_pyIter_enum he h
def iEnumT (K : PySem.W.Frag) (ta : TA) : TI := fun σ H R => ta σ H fun vs H1 => ∃ a xs, vs = [.ref a] ∧ SqT K H1 a xs ∧ R (IteT K a) H1
theorem pi_enumT {X : Cx} {e : Expr} {ta : TA} {p pos tpos : Pos} {elts : List Expr} {kk : Nat} (hg : Gl X "enumerate") (hm : X.mg "enumerate" = none) (ha : PA X [e] ta) (hs : starEach [e] X.env = [(false, eval e X.env)] := by rfl) :
    PI X (.Tuple elts kk tpos) (.Call (.Name "enumerate" p) [e] [] pos) (iEnumT X.K ta) := by
  refine ⟨fun pins s σ H R I h => ?_⟩
  refine Call_ (ld_blt I hg hm boot_enumerate (PyProof.Rows.callWith_type1 (thn (ha.run pos pins s σ H _ I h) fun us s1 ⟨vs, H1, I1, r1, q1⟩ => ?_) hs rfl))
  obtain ⟨a, xs, ex, hq, q⟩ := q1
  subst ex
  cases r1 with
  | cons r rr =>
    cases rr
    cases r
    obtain ⟨its, rv, p', hz⟩ := I1.tuple hq
    have hal : a < s1.heap.objs.size := p'.lt
    refine call_enumerate_tuple p' fun h' he hit hsz hk => wpAny_pyIter_enum he ?_
    have I2 : Inv X pins σ H1 { s1 with heap := h' } := I1.kept (t' := s1.toks) hk
    refine ⟨s1.heap.objs.size + 1, [s1.heap.objs.size + 1, s1.heap.objs.size], _, _, H1, rfl, I2, turn_enumT a (s1.heap.objs.size + 1) s1.heap.objs.size (Nat.succ_ne_self _) (Nat.ne_of_gt (Nat.lt_succ_of_lt hal)) (Nat.ne_of_lt hal), ⟨⟨.none, he⟩, hit⟩, fun b hb => ?_, q⟩
    have e' : b = s1.heap.objs.size + 1 ∨ b = s1.heap.objs.size := by simpa using hb
    have hle : s1.heap.objs.size ≤ b := by
      rcases e' with z | z
      · rw [z]; exact Nat.le_add_right _ _
      · rw [z]; exact Nat.le_refl _
    exact I1.fpOk hle (I1.hok.fresh hle)
end DLx

namespace DL
open PySem PySem.Spec PyProof.Rows L2
/-! ### iterables -/
/-- what is walked: the items; what must hold of the store at each turn -/
structure Itm where
  items : List D
  chk : Store → Prop
abbrev Rho := PySem.W.Frag → Ix → Hp → D → V → Prop
def RepW : Rho := fun K ι H d v => ∃ a xs ds, d = .tup ds ∧ v = .ref a ∧ SqT K H a xs ∧ Reps K ι H ds xs
def ItOk (K : PySem.W.Frag) (ρ : Rho) (J : It) (m : Itm) (ι0 : Ix) (H0 : Hp) : Prop :=
  ∃ Hd : Ix → Hp → Prop, Hd ι0 H0 ∧ (∀ ι H ι' H', Hd ι H → Kp ι H ι' H' → Hd ι' H') ∧ ∀ ι H S, Hd ι H → Good K ι H S → m.chk S →
    (∀ i, i < m.items.length → J.go i H) ∧ (∀ i x H', J.yld i H x H' → ∀ d, m.items[i]? = some d → Keep ι H ι H' ∧ Good K ι H' S ∧ ρ K ι H' d x) ∧ ∀ i, m.items.length ≤ i → J.stop i H
def tlI (K : PySem.W.Frag) (Y : Yc) (ρ : Rho) (f : DEnv → Store → R Itm) : TI := fun σ H R => Lift K Y f σ H fun m ι' H' _ => ∀ J, ItOk K ρ J m ι' H' → R J H'
def SI (X : Cx) (Y : Yc) (ρ : Rho) (tg iter : Expr) (f : DEnv → Store → R Itm) : Prop := PI X tg iter (tlI X.K Y ρ f)
theorem PI.imp {X : Cx} {tg e : Expr} {t t' : TI} (h : PI X tg e t) (i : ∀ σ H Q, t' σ H Q → t σ H Q) : PI X tg e t' := ⟨fun pins s σ H Q I q => h.run pins s σ H Q I (i σ H Q q)⟩
theorem PI.cases {X : Cx} {tg e : Expr} {t : TI} (h : ∀ σ H Q, t σ H Q → ∃ t', PI X tg e t' ∧ t' σ H Q) : PI X tg e t := ⟨fun pins s σ H Q I q => by
  obtain ⟨t', h', q'⟩ := h σ H Q q
  exact h'.run pins s σ H Q I q'⟩
def itmOf (S : Store) : D → Option Itm
  | .tup xs => some ⟨xs, fun _ => True⟩
  | .lst xs => some ⟨xs, fun _ => True⟩
  | .ref n => match S[n]? with
    | some (.lst xs) => some ⟨xs, fun S' => S'[n]? = some (.lst xs)⟩
    | _ => none
  | .str z => some ⟨z.cps.toList.map fun c => .str ⟨#[c]⟩, fun _ => True⟩
  | _ => none
def itSeq (fe : DEnv → Store → R D) : DEnv → Store → R Itm := fun δ S => (fe δ S).bind fun d S1 => ofO ((itmOf S1 d).map (·, S1))
section
variable {X : Cx} {Y : Yc} {ι : Ix} {H : Hp} {S : Store}
theorem itok_tup {a : Addr} {xs : List V} {ds : List D} (hs : SqTi X.K ι H a xs) (hr : Reps X.K ι H ds xs) : ItOk X.K Rep (Itt X.K a) ⟨ds, fun _ => True⟩ ι H :=
  ⟨fun ι H => SqTi X.K ι H a xs ∧ Reps X.K ι H ds xs, ⟨hs, hr⟩, fun _ _ _ _ h k => ⟨h.1.mono0 k, Reps.mono0 k _ _ h.2⟩, fun ι H S h g _ => by
    obtain ⟨hs, hr⟩ := h
    refine ⟨fun i hi => ?_, fun i x H' y d hd => ?_, fun i hi => ⟨xs, hs.sq, by rw [← hr.length]; exact hi⟩⟩
    · obtain ⟨v, hv, _⟩ := hr.get (List.getElem?_eq_getElem (l := ds) hi)
      exact ⟨xs, v, hs.sq, hv⟩
    · obtain ⟨e, hy⟩ := y
      subst e
      obtain ⟨v, hv, rv⟩ := hr.get hd
      have := hy xs hs.sq
      rw [hv] at this
      cases this
      exact ⟨Keep.refl _ _, g, rv⟩⟩
theorem itok_lst {a : Addr} {xs : List V} {ds : List D} (hs : SqLi X.K ι H a xs) (hr : Reps X.K ι H ds xs) : ItOk X.K Rep (Itl X.K a) ⟨ds, fun _ => True⟩ ι H :=
  ⟨fun ι H => SqLi X.K ι H a xs ∧ Reps X.K ι H ds xs, ⟨hs, hr⟩, fun _ _ _ _ h k => ⟨h.1.mono0 k, Reps.mono0 k _ _ h.2⟩, fun ι H S h g _ => by
    obtain ⟨hs, hr⟩ := h
    refine ⟨fun i hi => ?_, fun i x H' y d hd => ?_, fun i hi => ⟨xs, hs.sq, by rw [← hr.length]; exact hi⟩⟩
    · obtain ⟨v, hv, _⟩ := hr.get (List.getElem?_eq_getElem (l := ds) hi)
      exact ⟨xs, v, hs.sq, hv⟩
    · obtain ⟨e, hy⟩ := y
      subst e
      obtain ⟨v, hv, rv⟩ := hr.get hd
      have := hy xs hs.sq
      rw [hv] at this
      cases this
      exact ⟨Keep.refl _ _, g, rv⟩⟩
theorem itok_ref {n : Nat} {a : Addr} {ds : List D} (hp : ι[n]? = some a) : ItOk X.K Rep (Itl X.K a) ⟨ds, fun S => S[n]? = some (.lst ds)⟩ ι H :=
  ⟨fun ι _ => ι[n]? = some a, hp, fun _ _ _ _ h k => k.get h, fun ι H S h g hc => by
    obtain ⟨xs, hx, hr⟩ := g.lst_at h hc
    refine ⟨fun i hi => ?_, fun i x H' y d hd => ?_, fun i hi => ⟨xs, SqL.of hx, by rw [← hr.length]; exact hi⟩⟩
    · obtain ⟨v, hv, _⟩ := hr.get (List.getElem?_eq_getElem (l := ds) hi)
      exact ⟨xs, v, SqL.of hx, hv⟩
    · obtain ⟨e, hy⟩ := y
      subst e
      obtain ⟨v, hv, rv⟩ := hr.get hd
      have := hy xs (SqL.of hx)
      rw [hv] at this
      cases this
      exact ⟨Keep.refl _ _, g, rv⟩⟩
theorem itok_str {z : Str} : ItOk X.K Rep (Its z) ⟨z.cps.toList.map fun c => .str ⟨#[c]⟩, fun _ => True⟩ ι H :=
  ⟨fun _ _ => True, trivial, fun _ _ _ _ _ _ => trivial, fun ι H S _ g _ => by
    refine ⟨fun i hi => by show i < z.cps.size; simpa using hi, fun i x H' y d hd => ?_, fun i hi => by show z.cps.size ≤ i; simpa using hi⟩
    obtain ⟨e, c, hc, rfl⟩ := y
    subst e
    rw [List.getElem?_map, Array.getElem?_toList, hc] at hd
    cases hd
    exact ⟨Keep.refl _ _, g, .str _⟩⟩
theorem si_seq {tg e : Expr} {fe : DEnv → Store → R D} (he : SE X Y e fe) : SI X Y Rep tg e (itSeq fe) := by
  refine PI.cases fun σ H R ⟨ι, δ, S, k, sr, g, q⟩ => ?_
  have key : ∀ t' : TI, PI X tg e t' → (Post X.K Y.EX ι H (fun d ι1 H1 S1 => ∀ v, Rep X.K ι1 H1 d v → True) (fe δ S) → t' σ H R) → ∃ t', PI X tg e t' ∧ t' σ H R := fun t' h1 h2 => ⟨t', h1, h2 (Post.seq q fun _ _ _ _ _ _ _ => fun _ _ => trivial)⟩
  cases ef : fe δ S with
  | exc c d S1 =>
    refine ⟨_, pi_tup he, ⟨ι, δ, S, k, sr, g, ?_⟩⟩
    unfold itSeq at q
    rw [ef] at q ⊢
    exact q
  | bad =>
    unfold itSeq at q
    rw [ef] at q
    exact q.elim
  | ok d S1 =>
    unfold itSeq at q
    rw [ef, bind_ok] at q
    cases d with
    | tup ds =>
      refine ⟨_, pi_tup he, ⟨ι, δ, S, k, sr, g, ?_⟩⟩
      rw [ef]
      intro ι1 H1 k1 g1 v rv
      cases rv with
      | @tup a xs _ hs hr => exact ⟨a, rfl, ⟨xs, hs.sq⟩, q ι1 H1 k1 g1 _ (itok_tup hs hr)⟩
    | lst ds =>
      refine ⟨_, pi_list he, ⟨ι, δ, S, k, sr, g, ?_⟩⟩
      rw [ef]
      intro ι1 H1 k1 g1 v rv
      cases rv with
      | @lst a xs _ hs hr => exact ⟨a, rfl, ⟨xs, hs.sq⟩, q ι1 H1 k1 g1 _ (itok_lst hs hr)⟩
    | ref n =>
      refine ⟨_, pi_list he, ⟨ι, δ, S, k, sr, g, ?_⟩⟩
      rw [ef]
      intro ι1 H1 k1 g1 v rv
      cases rv with
      | @ref _ a hp =>
        simp only [itmOf] at q
        split at q
        · rename_i ds ha
          obtain ⟨xs, hx, hr⟩ := g1.lst_at hp ha
          exact ⟨a, rfl, ⟨xs, SqL.of hx⟩, q ι1 H1 k1 g1 _ (itok_ref hp)⟩
        · exact q.elim
    | str z =>
      refine ⟨_, pi_str he, ⟨ι, δ, S, k, sr, g, ?_⟩⟩
      rw [ef]
      intro ι1 H1 k1 g1 v rv
      cases rv
      exact ⟨z, rfl, q ι1 H1 k1 g1 _ itok_str⟩
    | _ => exact q.elim
/-- range -/
def rangeD (lo : Int) (n : Nat) : List D := (List.range n).map fun i => .int (lo + (i : Nat))
theorem itok_range {lo : Int} {n : Nat} : ItOk X.K Rep (Itr lo n) ⟨rangeD lo n, fun _ => True⟩ ι H :=
  ⟨fun _ _ => True, trivial, fun _ _ _ _ _ _ => trivial, fun ι H S _ g _ => by
    refine ⟨fun i hi => by show i < n; simpa [rangeD] using hi, fun i x H' y d hd => ?_, fun i hi => by show n ≤ i; simpa [rangeD] using hi⟩
    obtain ⟨e, rfl⟩ := y
    subst e
    unfold rangeD at hd
    rw [List.getElem?_map] at hd
    obtain ⟨j, hj, rfl⟩ := Option.map_eq_some_iff.mp hd
    have hj2 : j = i := by
      obtain ⟨hl, e⟩ := List.getElem?_eq_some_iff.mp hj
      rw [List.getElem_range] at e
      exact e.symm
    rw [hj2]
    exact ⟨Keep.refl _ _, g, .int _⟩⟩
def smallI (i : Int) : Prop := -(2 ^ 62) ≤ i ∧ i < 2 ^ 62
instance (i : Int) : Decidable (smallI i) := inferInstanceAs (Decidable (_ ∧ _))
def itmR1 : List D → Option Itm
  | [.int j] => if smallI j then some ⟨rangeD 0 j.toNat, fun _ => True⟩ else none
  | _ => none
def itmR2 : List D → Option Itm
  | [.int i, .int j] => if smallI i ∧ smallI j then some ⟨rangeD i (j - i).toNat, fun _ => True⟩ else none
  | _ => none
def itOf (op : List D → Option Itm) (fr : DEnv → Store → R (List D)) : DEnv → Store → R Itm := fun δ S => (fr δ S).bind fun ds S1 => ofO ((op ds).map (·, S1))
theorem si_range1 {tg a : Expr} {p pos : Pos} {fr : DEnv → Store → R (List D)} (hm : X.mg "range" = none) (ha : SA X Y [a] fr) (hg : Gl X "range" := by rfl) (hs : starEach [a] X.env = [(false, eval a X.env)] := by rfl) : SI X Y Rep tg (.Call (.Name "range" p) [a] [] pos) (itOf itmR1 fr) :=
  PI.imp (pi_range1 hg hm ha hs) fun σ H R ⟨ι, δ, S, k, sr, g, q⟩ => ⟨ι, δ, S, k, sr, g, Post.seq q fun ds ι1 H1 S1 k1 g1 q1 => fun vs rvs => by
    cases e : itmR1 ds with
    | none => rw [e] at q1; exact q1.elim
    | some m =>
      rw [e] at q1
      unfold itmR1 at e
      split at e
      · rename_i j
        split at e
        · rename_i hj
          cases e
          obtain ⟨v, rfl, rv⟩ := rvs.one
          cases rv
          exact ⟨j, rfl, hj.1, hj.2, q1 ι1 H1 (Keep.refl _ _) g1 _ itok_range⟩
        · cases e
      · cases e⟩
theorem si_range2 {tg a b : Expr} {p pos : Pos} {fr : DEnv → Store → R (List D)} (hm : X.mg "range" = none) (ha : SA X Y [a, b] fr) (hg : Gl X "range" := by rfl) (hs : starEach [a, b] X.env = [(false, eval a X.env), (false, eval b X.env)] := by rfl) (hs2 : starEach [b] X.env = [(false, eval b X.env)] := by rfl) : SI X Y Rep tg (.Call (.Name "range" p) [a, b] [] pos) (itOf itmR2 fr) :=
  PI.imp (pi_range2 hg hm ha hs hs2) fun σ H R ⟨ι, δ, S, k, sr, g, q⟩ => ⟨ι, δ, S, k, sr, g, Post.seq q fun ds ι1 H1 S1 k1 g1 q1 => fun vs rvs => by
    cases e : itmR2 ds with
    | none => rw [e] at q1; exact q1.elim
    | some m =>
      rw [e] at q1
      unfold itmR2 at e
      split at e
      · rename_i i j
        split at e
        · rename_i hj
          cases e
          obtain ⟨v, v2, rfl, rv, rv2⟩ := rvs.two
          cases rv
          cases rv2
          exact ⟨i, j, rfl, ⟨hj.1.1, hj.1.2, hj.2.1, hj.2.2⟩, q1 ι1 H1 (Keep.refl _ _) g1 _ itok_range⟩
        · cases e
      · cases e⟩
/-! enumerate, zip: pairs -/
def enumD : Nat → List D → List D
  | _, [] => []
  | i, d :: ds => .tup [.int i, d] :: enumD (i + 1) ds
theorem enumD_get : ∀ (ds : List D) (j i : Nat), (enumD j ds)[i]? = ds[i]?.map fun d => .tup [.int ((j + i : Nat) : Int), d]
  | [], j, i => by simp [enumD]
  | d :: ds, j, 0 => by simp [enumD]
  | d :: ds, j, i + 1 => by
    simp only [enumD, List.getElem?_cons_succ, enumD_get ds (j + 1) i]
    rw [show j + 1 + i = j + (i + 1) by omega]
theorem enumD_len : ∀ (ds : List D) (j : Nat), (enumD j ds).length = ds.length
  | [], _ => rfl
  | d :: ds, j => by simp [enumD, enumD_len ds]
def zipD : List D → List D → List D
  | a :: as, b :: bs => .tup [a, b] :: zipD as bs
  | _, _ => []
theorem zipD_get : ∀ (as bs : List D) (i : Nat) (d : D), (zipD as bs)[i]? = some d → ∃ a b, as[i]? = some a ∧ bs[i]? = some b ∧ d = .tup [a, b]
  | [], bs, i, d, h => by simp [zipD] at h
  | a :: as, [], i, d, h => by simp [zipD] at h
  | a :: as, b :: bs, 0, d, h => ⟨a, b, rfl, rfl, by simpa [zipD] using h.symm⟩
  | a :: as, b :: bs, i + 1, d, h => by simpa using zipD_get as bs i d (by simpa [zipD] using h)
theorem zipD_len : ∀ (as bs : List D), (zipD as bs).length = min as.length bs.length
  | [], bs => by simp [zipD]
  | a :: as, [] => by simp [zipD]
  | a :: as, b :: bs => by simp [zipD, zipD_len as bs]
def pairMap (f : List D → List D) : Itm → Itm := fun m => ⟨f m.items, m.chk⟩
def itmEnum (S : Store) : List D → Option Itm
  | [.tup xs] => some ⟨enumD 0 xs, fun _ => True⟩
  | [.lst xs] => some ⟨enumD 0 xs, fun _ => True⟩
  | [.ref n] => match S[n]? with
    | some (.lst xs) => some ⟨enumD 0 xs, fun S' => S'[n]? = some (.lst xs)⟩
    | _ => none
  | _ => none
def itOfS (op : Store → List D → Option Itm) (fr : DEnv → Store → R (List D)) : DEnv → Store → R Itm := fun δ S => (fr δ S).bind fun ds S1 => ofO ((op S1 ds).map (·, S1))
theorem wk_pair {T : Addr} {x y : V} {a b : D} (hT : H T = none) (g : Good X.K ι H S) (ra : Rep X.K ι H a x) (rb : Rep X.K ι H b y) : Keep ι H ι (upd H T (.tup [x, y])) ∧ Good X.K ι (upd H T (.tup [x, y])) S ∧ RepW X.K ι (upd H T (.tup [x, y])) (.tup [a, b]) (.ref T) :=
  ⟨Keep.laid hT, g.laid hT, T, _, _, rfl, rfl, SqT.of upd_same, .cons (Rep.mono (Keep.laid hT) _ _ ra) (.cons (Rep.mono (Keep.laid hT) _ _ rb) .nil)⟩
theorem itok_enumT {a : Addr} {xs : List V} {ds : List D} (hs : SqTi X.K ι H a xs) (hr : Reps X.K ι H ds xs) : ItOk X.K RepW (DLx.IteT X.K a) ⟨enumD 0 ds, fun _ => True⟩ ι H :=
  ⟨fun ι H => SqTi X.K ι H a xs ∧ Reps X.K ι H ds xs, ⟨hs, hr⟩, fun _ _ _ _ h k => ⟨h.1.mono0 k, Reps.mono0 k _ _ h.2⟩, fun ι H S h g _ => by
    obtain ⟨hs, hr⟩ := h
    refine ⟨fun i hi => ?_, fun i x H' y d hd => ?_, fun i hi => ⟨xs, hs.sq, by rw [← hr.length]; rw [enumD_len] at hi; exact hi⟩⟩
    · rw [enumD_len] at hi
      obtain ⟨v, hv, _⟩ := hr.get (List.getElem?_eq_getElem (l := ds) hi)
      exact ⟨xs, v, hs.sq, hv⟩
    · obtain ⟨T, z, rfl, hT, rfl, hy⟩ := y
      rw [enumD_get] at hd
      obtain ⟨d0, hd0, rfl⟩ := Option.map_eq_some_iff.mp hd
      obtain ⟨v, hv, rv⟩ := hr.get hd0
      have := hy xs hs.sq
      rw [hv] at this
      cases this
      rw [Nat.zero_add]
      exact wk_pair hT g (.int _) rv⟩
theorem itok_enumL {a : Addr} {xs : List V} {ds : List D} (hs : SqLi X.K ι H a xs) (hr : Reps X.K ι H ds xs) : ItOk X.K RepW (Ite X.K a) ⟨enumD 0 ds, fun _ => True⟩ ι H :=
  ⟨fun ι H => SqLi X.K ι H a xs ∧ Reps X.K ι H ds xs, ⟨hs, hr⟩, fun _ _ _ _ h k => ⟨h.1.mono0 k, Reps.mono0 k _ _ h.2⟩, fun ι H S h g _ => by
    obtain ⟨hs, hr⟩ := h
    refine ⟨fun i hi => ?_, fun i x H' y d hd => ?_, fun i hi => ⟨xs, hs.sq, by rw [← hr.length]; rw [enumD_len] at hi; exact hi⟩⟩
    · rw [enumD_len] at hi
      obtain ⟨v, hv, _⟩ := hr.get (List.getElem?_eq_getElem (l := ds) hi)
      exact ⟨xs, v, hs.sq, hv⟩
    · obtain ⟨T, z, rfl, hT, rfl, hy⟩ := y
      rw [enumD_get] at hd
      obtain ⟨d0, hd0, rfl⟩ := Option.map_eq_some_iff.mp hd
      obtain ⟨v, hv, rv⟩ := hr.get hd0
      have := hy xs hs.sq
      rw [hv] at this
      cases this
      rw [Nat.zero_add]
      exact wk_pair hT g (.int _) rv⟩
theorem itok_enumR {n : Nat} {a : Addr} {ds : List D} (hp : ι[n]? = some a) : ItOk X.K RepW (Ite X.K a) ⟨enumD 0 ds, fun S => S[n]? = some (.lst ds)⟩ ι H :=
  ⟨fun ι _ => ι[n]? = some a, hp, fun _ _ _ _ h k => k.get h, fun ι H S h g hc => by
    obtain ⟨xs, hx, hr⟩ := g.lst_at h hc
    refine ⟨fun i hi => ?_, fun i x H' y d hd => ?_, fun i hi => ⟨xs, SqL.of hx, by rw [← hr.length]; rw [enumD_len] at hi; exact hi⟩⟩
    · rw [enumD_len] at hi
      obtain ⟨v, hv, _⟩ := hr.get (List.getElem?_eq_getElem (l := ds) hi)
      exact ⟨xs, v, SqL.of hx, hv⟩
    · obtain ⟨T, z, rfl, hT, rfl, hy⟩ := y
      rw [enumD_get] at hd
      obtain ⟨d0, hd0, rfl⟩ := Option.map_eq_some_iff.mp hd
      obtain ⟨v, hv, rv⟩ := hr.get hd0
      have := hy xs (SqL.of hx)
      rw [hv] at this
      cases this
      rw [Nat.zero_add]
      exact wk_pair hT g (.int _) rv⟩
theorem si_enum {e : Expr} {elts : List Expr} {kk : Nat} {p pos tpos : Pos} {fr : DEnv → Store → R (List D)} (hm : X.mg "enumerate" = none) (ha : SA X Y [e] fr) (hg : Gl X "enumerate" := by rfl) (hs : starEach [e] X.env = [(false, eval e X.env)] := by rfl) : SI X Y RepW (.Tuple elts kk tpos) (.Call (.Name "enumerate" p) [e] [] pos) (itOfS itmEnum fr) := by
  refine PI.cases fun σ H R ⟨ι, δ, S, k, sr, g, q⟩ => ?_
  unfold itOfS at q
  cases ef : fr δ S with
  | exc c d S1 =>
    refine ⟨_, pi_enum hg hm ha hs, ⟨ι, δ, S, k, sr, g, ?_⟩⟩
    rw [ef] at q ⊢
    exact q
  | bad =>
    rw [ef] at q
    exact q.elim
  | ok ds S1 =>
    rw [ef, bind_ok] at q
    cases e : itmEnum S1 ds with
    | none => rw [e] at q; exact q.elim
    | some m =>
      rw [e] at q
      unfold itmEnum at e
      split at e
      · cases e
        refine ⟨_, DLx.pi_enumT hg hm ha hs, ⟨ι, δ, S, k, sr, g, ?_⟩⟩
        rw [ef]
        intro ι1 H1 k1 g1 vs rvs
        obtain ⟨v, rfl, rv⟩ := rvs.one
        cases rv with
        | @tup a xs _ hs hr => exact ⟨a, xs, rfl, hs.sq, q ι1 H1 k1 g1 _ (itok_enumT hs hr)⟩
      · cases e
        refine ⟨_, pi_enum hg hm ha hs, ⟨ι, δ, S, k, sr, g, ?_⟩⟩
        rw [ef]
        intro ι1 H1 k1 g1 vs rvs
        obtain ⟨v, rfl, rv⟩ := rvs.one
        cases rv with
        | @lst a xs _ hs hr => exact ⟨a, xs, rfl, hs.sq, q ι1 H1 k1 g1 _ (itok_enumL hs hr)⟩
      · split at e
        · rename_i n _ _ ds ha'
          cases e
          refine ⟨_, pi_enum hg hm ha hs, ⟨ι, δ, S, k, sr, g, ?_⟩⟩
          rw [ef]
          intro ι1 H1 k1 g1 vs rvs
          obtain ⟨v, rfl, rv⟩ := rvs.one
          cases rv with
          | @ref _ a hp =>
            obtain ⟨xs, hx, hr⟩ := g1.lst_at hp ha'
            exact ⟨a, xs, rfl, SqL.of hx, q ι1 H1 k1 g1 _ (itok_enumR hp)⟩
        · cases e
      · cases e
def itmZip : List D → Option Itm
  | [.tup xs, .tup ys] => some ⟨zipD xs ys, fun _ => True⟩
  | [.lst xs, .lst ys] => some ⟨zipD xs ys, fun _ => True⟩
  | _ => none
theorem itok_zipT {a b : Addr} {xs ys : List V} {ds es : List D} (hs : SqTi X.K ι H a xs) (hr : Reps X.K ι H ds xs) (hs2 : SqTi X.K ι H b ys) (hr2 : Reps X.K ι H es ys) : ItOk X.K RepW (RZ.ItzT X.K a b) ⟨zipD ds es, fun _ => True⟩ ι H :=
  ⟨fun ι H => (SqTi X.K ι H a xs ∧ Reps X.K ι H ds xs) ∧ SqTi X.K ι H b ys ∧ Reps X.K ι H es ys, ⟨⟨hs, hr⟩, hs2, hr2⟩, fun _ _ _ _ h k => ⟨⟨h.1.1.mono0 k, Reps.mono0 k _ _ h.1.2⟩, h.2.1.mono0 k, Reps.mono0 k _ _ h.2.2⟩, fun ι H S h g _ => by
    obtain ⟨⟨hs, hr⟩, hs2, hr2⟩ := h
    refine ⟨fun i hi => ?_, fun i x H' y d hd => ?_, fun i hi => ⟨xs, ys, hs.sq, hs2.sq, ?_⟩⟩
    · rw [zipD_len] at hi
      have h1 : i < ds.length := by omega
      have h2 : i < es.length := by omega
      obtain ⟨v, hv, _⟩ := hr.get (List.getElem?_eq_getElem (l := ds) h1)
      obtain ⟨v2, hv2, _⟩ := hr2.get (List.getElem?_eq_getElem (l := es) h2)
      exact ⟨xs, ys, v, v2, hs.sq, hs2.sq, hv, hv2⟩
    · obtain ⟨T, z, z2, rfl, hT, rfl, hy, hy2⟩ := y
      obtain ⟨a0, b0, ha0, hb0, rfl⟩ := zipD_get _ _ _ _ hd
      obtain ⟨v, hv, rv⟩ := hr.get ha0
      obtain ⟨v2, hv2, rv2⟩ := hr2.get hb0
      have e1 := hy xs hs.sq
      have e2 := hy2 ys hs2.sq
      rw [hv] at e1
      rw [hv2] at e2
      cases e1
      cases e2
      exact wk_pair hT g rv rv2
    · rw [zipD_len, hr.length, hr2.length] at hi
      omega⟩
theorem itok_zipL {a b : Addr} {xs ys : List V} {ds es : List D} (hs : SqLi X.K ι H a xs) (hr : Reps X.K ι H ds xs) (hs2 : SqLi X.K ι H b ys) (hr2 : Reps X.K ι H es ys) : ItOk X.K RepW (Itz X.K a b) ⟨zipD ds es, fun _ => True⟩ ι H :=
  ⟨fun ι H => (SqLi X.K ι H a xs ∧ Reps X.K ι H ds xs) ∧ SqLi X.K ι H b ys ∧ Reps X.K ι H es ys, ⟨⟨hs, hr⟩, hs2, hr2⟩, fun _ _ _ _ h k => ⟨⟨h.1.1.mono0 k, Reps.mono0 k _ _ h.1.2⟩, h.2.1.mono0 k, Reps.mono0 k _ _ h.2.2⟩, fun ι H S h g _ => by
    obtain ⟨⟨hs, hr⟩, hs2, hr2⟩ := h
    refine ⟨fun i hi => ?_, fun i x H' y d hd => ?_, fun i hi => ⟨xs, ys, hs.sq, hs2.sq, ?_⟩⟩
    · rw [zipD_len] at hi
      have h1 : i < ds.length := by omega
      have h2 : i < es.length := by omega
      obtain ⟨v, hv, _⟩ := hr.get (List.getElem?_eq_getElem (l := ds) h1)
      obtain ⟨v2, hv2, _⟩ := hr2.get (List.getElem?_eq_getElem (l := es) h2)
      exact ⟨xs, ys, v, v2, hs.sq, hs2.sq, hv, hv2⟩
    · obtain ⟨T, z, z2, rfl, hT, rfl, hy, hy2⟩ := y
      obtain ⟨a0, b0, ha0, hb0, rfl⟩ := zipD_get _ _ _ _ hd
      obtain ⟨v, hv, rv⟩ := hr.get ha0
      obtain ⟨v2, hv2, rv2⟩ := hr2.get hb0
      have e1 := hy xs hs.sq
      have e2 := hy2 ys hs2.sq
      rw [hv] at e1
      rw [hv2] at e2
      cases e1
      cases e2
      exact wk_pair hT g rv rv2
    · rw [zipD_len, hr.length, hr2.length] at hi
      omega⟩
theorem si_zip {e e2 : Expr} {elts : List Expr} {kk : Nat} {p pos tpos : Pos} {fr : DEnv → Store → R (List D)} (hm : X.mg "zip" = none) (ha : SA X Y [e, e2] fr) (hg : Gl X "zip" := by rfl)
    (hs : starEach [e, e2] X.env = (false, eval e X.env) :: starEach [e2] X.env := by rfl) (hpl : (backTo pos (starEach [e2] X.env)).any (·.1) = false := by rfl) : SI X Y RepW (.Tuple elts kk tpos) (.Call (.Name "zip" p) [e, e2] [] pos) (itOf itmZip fr) :=
  PI.imp (RZ.pi_zipA hg hm ha hs hpl) fun σ H R ⟨ι, δ, S, k, sr, g, q⟩ => ⟨ι, δ, S, k, sr, g, Post.seq q fun ds ι1 H1 S1 k1 g1 q1 => fun vs rvs => by
    cases e : itmZip ds with
    | none => rw [e] at q1; exact q1.elim
    | some m =>
      rw [e] at q1
      unfold itmZip at e
      split at e
      · cases e
        obtain ⟨v, v2, rfl, rv, rv2⟩ := rvs.two
        cases rv with
        | @tup a xs _ hs hr => cases rv2 with
          | @tup b ys _ hs2 hr2 => exact ⟨a, b, xs, ys, rfl, .inr ⟨hs.sq, hs2.sq, q1 ι1 H1 (Keep.refl _ _) g1 _ (itok_zipT hs hr hs2 hr2)⟩⟩
      · cases e
        obtain ⟨v, v2, rfl, rv, rv2⟩ := rvs.two
        cases rv with
        | @lst a xs _ hs hr => cases rv2 with
          | @lst b ys _ hs2 hr2 => exact ⟨a, b, xs, ys, rfl, .inl ⟨hs.sq, hs2.sq, q1 ι1 H1 (Keep.refl _ _) g1 _ (itok_zipL hs hr hs2 hr2)⟩⟩
      · cases e⟩
end
end DL
end
section
set_option Elab.async false
set_option linter.all false
set_option maxRecDepth 100000
set_option maxHeartbeats 4000000
/-! the data layer 8: targets, statements, loops -/
namespace DL
open PySem PySem.Spec PyProof.Rows L2

/-! ### targets -/
def Out (ws : List Nat) (σ σ' : L2.St) : Prop := σ'.length = σ.length ∧ ∀ j, j ∉ ws → σ'[j]? = σ[j]?
theorem Out.refl {ws : List Nat} {σ : L2.St} : Out ws σ σ := ⟨rfl, fun _ _ => rfl⟩
theorem Out.trans {ws : List Nat} {σ σ1 σ2 : L2.St} (h : Out ws σ σ1) (h' : Out ws σ1 σ2) : Out ws σ σ2 := ⟨h'.1.trans h.1, fun j hj => (h'.2 j hj).trans (h.2 j hj)⟩
theorem Out.mono {ws vs : List Nat} {σ σ1 : L2.St} (h : Out ws σ σ1) (hs : ∀ i ∈ ws, i ∈ vs) : Out vs σ σ1 := ⟨h.1, fun j hj => h.2 j fun z => hj (hs j z)⟩
theorem Out.set {i : Nat} {σ : L2.St} {v : V} : Out [i] σ (σ.set i (some v)) := ⟨by simp, fun j hj => by rw [List.getElem?_set_ne (fun e => hj (by simp [e]))]⟩
theorem wipe_in {σ : L2.St} {i : Nat} (hl : i < σ.length) : ∀ {vs : List Nat}, i ∈ vs → (L2.wipe σ vs)[i]? = some none
  | v :: vs, h => by
    unfold L2.wipe
    by_cases e : v = i
    · subst e
      rw [List.getElem?_set_self (by rw [L2.wipe_length]; exact hl)]
    · rw [List.getElem?_set_ne e]
      refine wipe_in hl ?_
      rcases List.mem_cons.mp h with q | q
      · exact absurd q.symm e
      · exact q
theorem Out.wipe {vs : List Nat} {σ σ' : L2.St} (h : Out vs σ σ') : L2.wipe σ' vs = L2.wipe σ vs := by
  apply List.ext_getElem?
  intro i
  by_cases hi : i ∈ vs
  · by_cases hl : i < σ.length
    · rw [wipe_in hl hi, wipe_in (by rw [h.1]; exact hl) hi]
    · rw [List.getElem?_eq_none (by rw [L2.wipe_length, h.1]; omega), List.getElem?_eq_none (by rw [L2.wipe_length]; omega)]
  · rw [wipe_out hi, wipe_out hi, h.2 i hi]
theorem out_wipe {σ : L2.St} {vs : List Nat} : Out vs σ (L2.wipe σ vs) := ⟨L2.wipe_length σ vs, fun j hj => wipe_out hj⟩

def pG (K : PySem.W.Frag) (ws : List Nat) (σ : L2.St) (Q : L2.St → Hp → Prop) : DEnv → Ix → Hp → Store → Prop := fun δ' ι' H' _ => ∀ σ', SRep K ι' H' σ' δ' → Out ws σ σ' → Q σ' H'
def tlGs (K : PySem.W.Frag) (Y : Yc) (ws : List Nat) (f : List D → DEnv → Store → R DEnv) : TGs := fun vs σ H Q => ∃ ds ι δ S, Keep Y.ι0 Y.H0 ι H ∧ SRep K ι H σ δ ∧ Good K ι H S ∧ Reps K ι H ds vs ∧ Post K Y.EX ι H (pG K ws σ Q) (f ds δ S)
def tlH (K : PySem.W.Frag) (Y : Yc) (ρ : Rho) (ws : List Nat) (f : D → DEnv → Store → R DEnv) : TG := fun v σ H Q => ∃ d ι δ S, Keep Y.ι0 Y.H0 ι H ∧ SRep K ι H σ δ ∧ Good K ι H S ∧ ρ K ι H d v ∧ Post K Y.EX ι H (pG K ws σ Q) (f d δ S)
def SG (X : Cx) (Y : Yc) (ρ : Rho) (tg : Expr) (ws : List Nat) (f : D → DEnv → Store → R DEnv) : Prop := PG X tg (tlH X.K Y ρ ws f)
def SGs (X : Cx) (Y : Yc) (tgs : List Expr) (ws : List Nat) (f : List D → DEnv → Store → R DEnv) : Prop := PGs X tgs (tlGs X.K Y ws f)
theorem PG.imp {X : Cx} {tg : Expr} {t t' : TG} (h : PG X tg t) (i : ∀ v σ H Q, t' v σ H Q → t v σ H Q) : PG X tg t' := ⟨fun pins s σ H v u Q I r q => h.run pins s σ H v u Q I r (i v σ H Q q)⟩
theorem PGs.imp {X : Cx} {tg : List Expr} {t t' : TGs} (h : PGs X tg t) (i : ∀ v σ H Q, t' v σ H Q → t v σ H Q) : PGs X tg t' := ⟨fun pins s σ H v u Q I r q => h.run pins s σ H v u Q I r (i v σ H Q q)⟩
theorem PS.imp {X : Cx} {st : Stmt} {t t' : TS} (h : PS X st t) (i : ∀ Dn σ H, t' Dn σ H → t Dn σ H) : PS X st t' := ⟨fun pins s σ H Dn I q => h.run pins s σ H Dn I (i Dn σ H q)⟩
theorem PSs.imp {X : Cx} {st : List Stmt} {t t' : TS} (h : PSs X st t) (i : ∀ Dn σ H, t' Dn σ H → t Dn σ H) : PSs X st t' := ⟨fun pins s σ H Dn I q => h.run pins s σ H Dn I (i Dn σ H q)⟩

def tgN (i : Nat) : D → DEnv → Store → R DEnv := fun d δ S => .ok (δ.set i (some d)) S
def tgNil : List D → DEnv → Store → R DEnv := fun ds δ S => match ds with
  | [] => .ok δ S
  | _ => .bad
def tgCons (f : D → DEnv → Store → R DEnv) (g : List D → DEnv → Store → R DEnv) : List D → DEnv → Store → R DEnv := fun ds δ S => match ds with
  | d :: ds => (f d δ S).bind fun δ1 S1 => g ds δ1 S1
  | [] => .bad
def tgTup (n : Nat) (g : List D → DEnv → Store → R DEnv) : D → DEnv → Store → R DEnv := fun d δ S => match d with
  | .tup ds => if ds.length = n then g ds δ S else .bad
  | _ => .bad
/-- o[i] = the value -/
def tgSub (op : D → D → D → Store → Option Store) (fo fi : DEnv → Store → R D) : D → DEnv → Store → R DEnv := fun d δ S => (fo δ S).bind fun o S1 => (fi δ S1).bind fun i S2 => ofO ((op o i d S2).map fun S3 => (δ, S3))
section
variable {X : Cx} {Y : Yc} {pos : Pos}
theorem sg_name {i : Nat} {x : Str} (hN : X.N.Nodup) (hi : X.N[i]? = some x) (hx : Loc X.env.scope x) (hf : X.fn x = true ∨ X.env.scope.names.lookup x = some .local) : SG X Y Rep (.Name x pos) [i] (tgN i) :=
  PG.imp (pg_name hN hi hx hf) fun v σ H Q ⟨d, ι, δ, S, k, sr, g, r, q⟩ => q ι H (Keep.refl _ _) g _ (sr.set r i) Out.set
theorem sgs_nil : SGs X Y [] [] tgNil := PGs.imp pgs_nil fun vs σ H Q ⟨ds, ι, δ, S, k, sr, g, r, q⟩ => by
  cases r with
  | nil => exact ⟨rfl, q ι H (Keep.refl _ _) g σ sr Out.refl⟩
  | cons _ _ => exact q.elim
theorem sgs_cons {e : Expr} {es : List Expr} {ws ws' : List Nat} {f : D → DEnv → Store → R DEnv} {fs : List D → DEnv → Store → R DEnv} (h1 : SG X Y Rep e ws f) (h2 : SGs X Y es ws' fs)
    (hs : (assignEach (e :: es) X.env).map (·.2) = assign e X.env :: (assignEach es X.env).map (·.2) := by rfl) : SGs X Y (e :: es) (ws ++ ws') (tgCons f fs) :=
  PGs.imp (pgs_cons h1 h2 hs) fun vs σ H Q ⟨ds, ι, δ, S, k, sr, g, r, q⟩ => by
    cases r with
    | nil => exact q.elim
    | cons r rr =>
      refine ⟨_, _, rfl, _, ι, δ, S, k, sr, g, r, Post.seq q fun δ1 ι1 H1 S1 k1 g1 q1 => fun σ1 sr1 o1 => ?_⟩
      refine ⟨_, ι1, δ1, S1, k.trans k1, sr1, g1, Reps.mono k1 _ _ rr, Post.imp q1 fun δ2 ι2 H2 S2 k2 g2 q2 => fun σ2 sr2 o2 => ?_⟩
      exact q2 σ2 sr2 ((o1.mono fun i h => List.mem_append_left _ h).trans (o2.mono fun i h => List.mem_append_right _ h))
theorem sg_tup {ρ : Rho} {es : List Expr} {k n : Nat} {ws : List Nat} {fs : List D → DEnv → Store → R DEnv} (hρ : ∀ ι H d v, ρ X.K ι H d v → match d with
      | .tup ds => ∃ a xs, v = .ref a ∧ SqT X.K H a xs ∧ Reps X.K ι H ds xs
      | _ => True) (hc : X.calm = true) (h : SGs X Y es ws fs)
    (hn : (assignEach es X.env).length = n := by rfl) (hst : (assignEach es X.env).findIdx? (·.1) = none := by rfl) : SG X Y ρ (.Tuple es k pos) ws (tgTup n fs) :=
  PG.imp (pg_tup hc h hn hst) fun v σ H Q ⟨d, ι, δ, S, k, sr, g, r, q⟩ => by
    have hr := hρ _ _ _ _ r
    cases d with
    | tup ds =>
      obtain ⟨a, xs, rfl, hs, rs⟩ := hr
      unfold tgTup at q
      simp only at q
      split at q
      · rename_i hl
        exact ⟨a, xs, rfl, hs, by rw [← rs.length]; exact hl, ds, ι, δ, S, k, sr, g, rs, q⟩
      · exact q.elim
    | _ => exact q.elim
theorem rho_rep : ∀ ι H d v, Rep X.K ι H d v → match d with
      | .tup ds => ∃ a xs, v = .ref a ∧ SqT X.K H a xs ∧ Reps X.K ι H ds xs
      | _ => True := fun ι H d v r => by
  cases r with
  | tup hs hr => exact ⟨_, _, rfl, hs.sq, hr⟩
  | _ => trivial
theorem rho_repw : ∀ ι H d v, RepW X.K ι H d v → match d with
      | .tup ds => ∃ a xs, v = .ref a ∧ SqT X.K H a xs ∧ Reps X.K ι H ds xs
      | _ => True := fun ι H d v ⟨a, xs, ds, e1, e2, hs, hr⟩ => by
  subst e1
  exact ⟨a, xs, e2, hs, hr⟩
theorem sg_tupR {es : List Expr} {k n : Nat} {ws : List Nat} {fs : List D → DEnv → Store → R DEnv} (hc : X.calm = true) (h : SGs X Y es ws fs)
    (hn : (assignEach es X.env).length = n := by rfl) (hst : (assignEach es X.env).findIdx? (·.1) = none := by rfl) : SG X Y Rep (.Tuple es k pos) ws (tgTup n fs) := sg_tup rho_rep hc h hn hst
theorem sg_tupW {es : List Expr} {k n : Nat} {ws : List Nat} {fs : List D → DEnv → Store → R DEnv} (hc : X.calm = true) (h : SGs X Y es ws fs)
    (hn : (assignEach es X.env).length = n := by rfl) (hst : (assignEach es X.env).findIdx? (·.1) = none := by rfl) : SG X Y RepW (.Tuple es k pos) ws (tgTup n fs) := sg_tup rho_repw hc h hn hst
/-- o[i] = v by values -/
abbrev SetS (X : Cx) (op : D → D → D → Store → Option Store) : Prop := PSet X fun o i v H Q => ∃ ι S d1 d2 d3 S', Good X.K ι H S ∧ Rep X.K ι H d1 o ∧ Rep X.K ι H d2 i ∧ Rep X.K ι H d3 v ∧ op d1 d2 d3 S = some S' ∧ ∀ ι' H', Keep ι H ι' H' → Good X.K ι' H' S' → Q H'
theorem sg_sub {o i : Expr} {op : D → D → D → Store → Option Store} {fo fi : DEnv → Store → R D} (hs : SetS X op) (ho : SE X Y o fo) (hi : SE X Y i fi)
    (ha : ∀ v, assign (.Subscript o i pos) X.env v = (do
      let ov ← holding [v] (eval o X.env)
      let iv ← holding [v, ov] (eval i X.env)
      standAt pos
      holding [v, ov, iv] (setItem ov iv v)
      release [v, ov, iv] []) := by intro _; rfl) : SG X Y Rep (.Subscript o i pos) [] (tgSub op fo fi) :=
  PG.imp (pg_sub ho hi hs ha) fun v σ H Q ⟨d, ι, δ, S, k, sr, g, r, q⟩ => by
    refine ⟨ι, δ, S, k, sr, g, Post.seq q fun d1 ι1 H1 S1 k1 g1 q1 => fun v1 r1 => ?_⟩
    refine ⟨ι1, δ, S1, k.trans k1, sr.mono k1, g1, Post.seq q1 fun d2 ι2 H2 S2 k2 g2 q2 => fun v2 r2 => ?_⟩
    cases e : op d1 d2 d S2 with
    | none => rw [e] at q2; exact q2.elim
    | some S3 =>
      rw [e] at q2
      refine ⟨ι2, S2, d1, d2, d, S3, g2, Rep.mono k2 _ _ r1, r2, Rep.mono (k1.trans k2) _ _ r, e, fun ι3 H3 k3 g3 => ?_⟩
      exact q2 ι3 H3 k3 g3 σ (sr.mono ((k1.trans k2).trans k3)) Out.refl
def setL : D → D → D → Store → Option Store
  | .ref n, .int k, d, S => match S[n]? with
    | some (.lst ds) => (ixN ds.length k).map fun j => S.set n (.lst (ds.set j d))
    | _ => none
  | _, _, _, _ => none
theorem set_listD : SetS X setL := by
  intro pins s σ H o i v ov iv u Q I ro ri rv ⟨ι, S, d1, d2, d3, S', g, r1, r2, r3, e, q⟩
  unfold setL at e
  split at e
  · cases r1 with
    | @ref n p hp =>
      cases r2
      split at e
      · rename_i ds hS
        obtain ⟨j, hj, e⟩ := Option.map_eq_some_iff.mp e
        subst e
        obtain ⟨xs, hx, hr⟩ := g.lst_at hp hS
        refine set_list pins s σ H _ _ _ _ _ _ _ I ro ri rv ⟨p, xs, _, j, rfl, rfl, hx, by rw [← hr.length]; exact hj, ?_⟩
        have km : Keep ι H ι (upd H p (.lst (xs.set j v))) := Keep.write g hp
        exact q ι _ km (g.write hp ⟨_, upd_same, Reps.set (Rep.mono km _ _ r3) j (Reps.mono km _ _ hr)⟩)
      · cases e
  · cases e
end

/-! ### statements -/
inductive Fl where
  | nx (δ : DEnv) | rt (d : D) | bk (δ : DEnv) | ct (δ : DEnv)
def pS (K : PySem.W.Frag) (Dn : Ends) : Fl → Ix → Hp → Store → Prop
  | .nx δ, ι, H, _ => ∀ σ, SRep K ι H σ δ → Dn.nx σ H
  | .rt d, ι, H, _ => ∀ v, Rep K ι H d v → Dn.rt v H
  | .bk δ, ι, H, _ => ∀ σ, SRep K ι H σ δ → Dn.bk σ H
  | .ct δ, ι, H, _ => ∀ σ, SRep K ι H σ δ → Dn.ct σ H
def tlS (K : PySem.W.Frag) (Y : Yc) (f : DEnv → Store → R Fl) : TS := fun Dn σ H => Lift K Y f σ H (pS K Dn)
def SS (X : Cx) (Y : Yc) (st : Stmt) (f : DEnv → Store → R Fl) : Prop := PS X st (tlS X.K Y f)
def SB (X : Cx) (Y : Yc) (st : List Stmt) (f : DEnv → Store → R Fl) : Prop := PSs X st (tlS X.K Y f)
def evNext : DEnv → Store → R Fl := fun δ S => .ok (.nx δ) S
def evBrk : DEnv → Store → R Fl := fun δ S => .ok (.bk δ) S
def evCont : DEnv → Store → R Fl := fun δ S => .ok (.ct δ) S
def evSeq (f g : DEnv → Store → R Fl) : DEnv → Store → R Fl := fun δ S => (f δ S).bind fun fl S1 => match fl with
  | .nx δ1 => g δ1 S1
  | x => .ok x S1
def evDrop (f : DEnv → Store → R D) : DEnv → Store → R Fl := fun δ S => (f δ S).bind fun _ S1 => .ok (.nx δ) S1
def evRet (f : DEnv → Store → R D) : DEnv → Store → R Fl := fun δ S => (f δ S).bind fun d S1 => .ok (.rt d) S1
def evRetN : DEnv → Store → R Fl := fun _ S => .ok (.rt .non) S
def evIfS (c : DEnv → Store → R Bool) (f g : DEnv → Store → R Fl) : DEnv → Store → R Fl := fun δ S => (c δ S).bind fun b S1 => if b = true then f δ S1 else g δ S1
def evAsg (f : DEnv → Store → R D) (tg : D → DEnv → Store → R DEnv) : DEnv → Store → R Fl := fun δ S => (f δ S).bind fun d S1 => (tg d δ S1).bind fun δ1 S2 => .ok (.nx δ1) S2
def evPar2 (i j : Nat) (fr : DEnv → Store → R (List D)) : DEnv → Store → R Fl := fun δ S => (fr δ S).bind fun ds S1 => match ds with
  | [a, b] => .ok (.nx ((δ.set i (some a)).set j (some b))) S1
  | _ => .bad
def evPar3 (i j l : Nat) (fr : DEnv → Store → R (List D)) : DEnv → Store → R Fl := fun δ S => (fr δ S).bind fun ds S1 => match ds with
  | [a, b, c] => .ok (.nx (((δ.set i (some a)).set j (some b)).set l (some c))) S1
  | _ => .bad
open Classical in
noncomputable def forGo (chk : Store → Prop) (tg : D → DEnv → Store → R DEnv) (body : DEnv → Store → R Fl) : List D → DEnv → Store → R Fl
  | [], δ, S => if chk S then .ok (.nx δ) S else .bad
  | d :: ds, δ, S => if chk S then (tg d δ S).bind fun δ1 S1 => (body δ1 S1).bind fun fl S2 => match fl with
    | .nx δ2 => forGo chk tg body ds δ2 S2
    | .ct δ2 => forGo chk tg body ds δ2 S2
    | .bk δ2 => .ok (.nx δ2) S2
    | .rt v => .ok (.rt v) S2
    else .bad
noncomputable def evFor (fi : DEnv → Store → R Itm) (tg : D → DEnv → Store → R DEnv) (body : DEnv → Store → R Fl) : DEnv → Store → R Fl := fun δ S => (fi δ S).bind fun m S1 => forGo m.chk tg body m.items δ S1
def whileN (c : DEnv → Store → R Bool) (body : DEnv → Store → R Fl) : Nat → DEnv → Store → R Fl
  | 0, _, _ => .bad
  | n + 1, δ, S => (c δ S).bind fun b S1 => if b = true then (body δ S1).bind fun fl S2 => match fl with
    | .nx δ2 => whileN c body n δ2 S2
    | .ct δ2 => whileN c body n δ2 S2
    | .bk δ2 => .ok (.nx δ2) S2
    | .rt v => .ok (.rt v) S2
    else .ok (.nx δ) S1
section
variable {X : Cx} {Y : Yc} {pos : Pos} {st : Stmt} {rest : List Stmt} {e : Expr} {f g : DEnv → Store → R Fl} {fe : DEnv → Store → R D} {fr : DEnv → Store → R (List D)} {fc : DEnv → Store → R Bool}
theorem sb_nil : SB X Y [] evNext := PSs.imp pss_nil fun Dn σ H ⟨ι, δ, S, k, sr, g, q⟩ => q ι H (Keep.refl _ _) g σ sr
theorem sb_one (h : SS X Y st f) : SB X Y [st] f := pss_one h
theorem sb_cons (h1 : SS X Y st f) (h2 : SB X Y rest g) : SB X Y (st :: rest) (evSeq f g) := PSs.imp (pss_cons h1 h2) fun Dn σ H ⟨ι, δ, S, k, sr, g0, q⟩ =>
  ⟨ι, δ, S, k, sr, g0, Post.seq q fun fl ι1 H1 S1 k1 g1 q1 => by
    cases fl with
    | nx δ1 => exact fun σ1 sr1 => ⟨ι1, δ1, S1, k.trans k1, sr1, g1, q1⟩
    | rt d => exact q1 ι1 H1 (Keep.refl _ _) g1
    | bk δ1 => exact q1 ι1 H1 (Keep.refl _ _) g1
    | ct δ1 => exact q1 ι1 H1 (Keep.refl _ _) g1⟩
theorem ss_pass : SS X Y (.Pass pos) evNext := PS.imp ps_pass fun Dn σ H ⟨ι, δ, S, k, sr, g, q⟩ => q ι H (Keep.refl _ _) g σ sr
theorem ss_break : SS X Y (.Break pos) evBrk := PS.imp ps_break fun Dn σ H ⟨ι, δ, S, k, sr, g, q⟩ => q ι H (Keep.refl _ _) g σ sr
theorem ss_continue : SS X Y (.Continue pos) evCont := PS.imp ps_continue fun Dn σ H ⟨ι, δ, S, k, sr, g, q⟩ => q ι H (Keep.refl _ _) g σ sr
theorem ss_doc {x j pos'} : SS X Y (.Expr (.Constant (.str x) j pos) pos') evNext := PS.imp ps_doc fun Dn σ H ⟨ι, δ, S, k, sr, g, q⟩ => q ι H (Keep.refl _ _) g σ sr
theorem ss_expr (he : SE X Y e fe) (hs : swapsWith e none pos.line X.env = pure false := by rfl) : SS X Y (.Expr e pos) (evDrop fe) := PS.imp (ps_expr he hs) fun Dn σ H ⟨ι, δ, S, k, sr, g, q⟩ =>
  ⟨ι, δ, S, k, sr, g, Post.seq q fun d ι1 H1 S1 k1 g1 q1 => fun v rv => q1 ι1 H1 (Keep.refl _ _) g1 σ (sr.mono k1)⟩
theorem ss_ret (he : SE X Y e fe) : SS X Y (.Return (some e) pos) (evRet fe) := PS.imp (ps_ret he) fun Dn σ H ⟨ι, δ, S, k, sr, g, q⟩ =>
  ⟨ι, δ, S, k, sr, g, Post.seq q fun d ι1 H1 S1 k1 g1 q1 => fun v rv => q1 ι1 H1 (Keep.refl _ _) g1 v rv⟩
theorem ss_retN : SS X Y (.Return none pos) evRetN := PS.imp ps_retN fun Dn σ H ⟨ι, δ, S, k, sr, g, q⟩ => q ι H (Keep.refl _ _) g _ .non
theorem ss_if {c : Expr} {a b : List Stmt} (hc : ST X Y c fc) (ha : SB X Y a f) (hb : SB X Y b g) : SS X Y (.If c a b pos) (evIfS fc f g) := PS.imp (ps_if hc ha hb) fun Dn σ H ⟨ι, δ, S, k, sr, g, q⟩ =>
  ⟨ι, δ, S, k, sr, g, Post.seq q fun d ι1 H1 S1 k1 g1 q1 => by
    cases d with
    | true => unfold pT; exact iteT ⟨ι1, δ, S1, k.trans k1, sr.mono k1, g1, q1⟩
    | false => unfold pT; exact iteF ⟨ι1, δ, S1, k.trans k1, sr.mono k1, g1, q1⟩⟩
theorem ss_asg {tg : Expr} {ws : List Nat} {ft : D → DEnv → Store → R DEnv} (he : SE X Y e fe) (hg : SG X Y Rep tg ws ft) (hs : swapsWithSole [tg] e pos.line X.env = pure false := by rfl) (hw : swappedStores [tg] e X.env = pure none := by rfl)
    (h1 : (assignEach [tg] X.env).map (·.2) = [assign tg X.env] := by rfl) : SS X Y (.Assign [tg] e pos) (evAsg fe ft) := PS.imp (ps_asg he hg hs hw h1) fun Dn σ H ⟨ι, δ, S, k, sr, g, q⟩ =>
  ⟨ι, δ, S, k, sr, g, Post.seq q fun d ι1 H1 S1 k1 g1 q1 => fun v rv => ⟨d, ι1, δ, S1, k.trans k1, sr.mono k1, g1, rv, Post.seq q1 fun δ2 ι2 H2 S2 k2 g2 q2 => fun σ2 sr2 _ => q2 ι2 H2 (Keep.refl _ _) g2 σ2 sr2⟩⟩
theorem ss_set {i : Nat} {x : Str} {pos' : Pos} (hN : X.N.Nodup) (hi : X.N[i]? = some x) (hx : Loc X.env.scope x) (hf : X.fn x = true ∨ X.env.scope.names.lookup x = some .local) (he : SE X Y e fe) (hs : swapsWith e (some (.Name x pos')) pos.line X.env = pure false := by rfl) :
    SS X Y (.Assign [.Name x pos'] e pos) (evAsg fe (tgN i)) := PS.imp (ps_set hN hi hx he hs hf) fun Dn σ H ⟨ι, δ, S, k, sr, g, q⟩ =>
  ⟨ι, δ, S, k, sr, g, Post.seq q fun d ι1 H1 S1 k1 g1 q1 => fun v rv => q1 ι1 H1 (Keep.refl _ _) g1 _ ((sr.mono k1).set rv i)⟩
theorem ss_par2 {i j : Nat} {x y : Str} {a b : Expr} {px py pt : Pos} {kt k2 pt2} (hc : X.calm = true) (hN : X.N.Nodup) (hi : X.N[i]? = some x) (hj : X.N[j]? = some y) (hij : i ≠ j)
    (hx : X.env.scope.names.lookup x = some .local) (hy : X.env.scope.names.lookup y = some .local) (ha : SA X Y [a, b] fr)
    (hw : swappedStores [.Tuple [.Name x px, .Name y py] kt pt] (.Tuple [a, b] k2 pt2) X.env = pure (some [x, y]) := by rfl)
    (hs : swapsWithSole [.Tuple [.Name x px, .Name y py] kt pt] (.Tuple [a, b] k2 pt2) pos.line X.env = pure false := by rfl) :
    SS X Y (.Assign [.Tuple [.Name x px, .Name y py] kt pt] (.Tuple [a, b] k2 pt2) pos) (evPar2 i j fr) := PS.imp (ps_par hc hN hi hj hij hx hy ha hw hs) fun Dn σ H ⟨ι, δ, S, k, sr, g, q⟩ =>
  ⟨ι, δ, S, k, sr, g, Post.seq q fun ds ι1 H1 S1 k1 g1 q1 => fun vs rs => by
    rcases rs with _ | ⟨r1, _ | ⟨r2, _ | ⟨r3, r4⟩⟩⟩
    · exact q1.elim
    · exact q1.elim
    · exact ⟨_, _, rfl, q1 ι1 H1 (Keep.refl _ _) g1 _ (((sr.mono k1).set r1 i).set r2 j)⟩
    · exact q1.elim⟩
theorem ss_par3 {i j l : Nat} {x y z : Str} {a b c : Expr} {px py pz pt : Pos} {kt k2 pt2} (hc : X.calm = true) (hN : X.N.Nodup) (hi : X.N[i]? = some x) (hj : X.N[j]? = some y) (hl : X.N[l]? = some z) (hij : i ≠ j) (hil : i ≠ l) (hjl : j ≠ l)
    (hx : X.env.scope.names.lookup x = some .local) (hy : X.env.scope.names.lookup y = some .local) (hz : X.env.scope.names.lookup z = some .local) (ha : SA X Y [a, b, c] fr)
    (hw : swappedStores [.Tuple [.Name x px, .Name y py, .Name z pz] kt pt] (.Tuple [a, b, c] k2 pt2) X.env = pure (some [x, y, z]) := by rfl)
    (hs : swapsWithSole [.Tuple [.Name x px, .Name y py, .Name z pz] kt pt] (.Tuple [a, b, c] k2 pt2) pos.line X.env = pure false := by rfl) :
    SS X Y (.Assign [.Tuple [.Name x px, .Name y py, .Name z pz] kt pt] (.Tuple [a, b, c] k2 pt2) pos) (evPar3 i j l fr) := PS.imp (ps_par3 hc hN hi hj hl hij hil hjl hx hy hz ha hw hs) fun Dn σ H ⟨ι, δ, S, k, sr, g, q⟩ =>
  ⟨ι, δ, S, k, sr, g, Post.seq q fun ds ι1 H1 S1 k1 g1 q1 => fun vs rs => by
    rcases rs with _ | ⟨r1, _ | ⟨r2, _ | ⟨r3, _ | ⟨r4, r5⟩⟩⟩⟩
    · exact q1.elim
    · exact q1.elim
    · exact q1.elim
    · exact ⟨_, _, _, rfl, q1 ι1 H1 (Keep.refl _ _) g1 _ ((((sr.mono k1).set r1 i).set r2 j).set r3 l)⟩
    · exact q1.elim⟩
/-! ### loops -/
theorem post_if {α : Type} {K : PySem.W.Frag} {EX : Str → D → Ix → Hp → Store → Prop} {ι : Ix} {H : Hp} {P : α → Ix → Hp → Store → Prop} {c : Prop} {inst : Decidable c} {r : R α} (h : Post K EX ι H P (if c then r else .bad)) : c ∧ Post K EX ι H P r := by
  by_cases hc : c
  · rw [if_pos hc] at h; exact ⟨hc, h⟩
  · rw [if_neg hc] at h; exact h.elim
theorem ss_for {ρ : Rho} {tg iter : Expr} {body : List Stmt} {ws : List Nat} {fi : DEnv → Store → R Itm} {ft : D → DEnv → Store → R DEnv} (hp : PassesOwn (model X.prog X.w) X.A X.env X.xe) (hc : X.calm = true) (hi : SI X Y ρ tg iter fi) (hg : SG X Y ρ tg ws ft) (hb : SB X Y body f)
    (hs : ∀ x, foldedSetIterable iter X.env x = pure x := by intro _; rfl) : SS X Y (.For tg iter body [] pos) (evFor fi ft f) := PS.imp (ps_for hp hc hi hg hb hs) fun Dn σ H ⟨ι, δ, S, k, sr, g, q⟩ => by
  refine ⟨ι, δ, S, k, sr, g, Post.seq q fun m ι1 H1 S1 k1 g1 q1 => fun J hJ => ?_⟩
  obtain ⟨Hd, hd0, hdm, hd⟩ := hJ
  refine ⟨fun i n σ H => n = m.items.length - i ∧ ∃ ι δ S, Hd ι H ∧ Keep Y.ι0 Y.H0 ι H ∧ SRep X.K ι H σ δ ∧ Good X.K ι H S ∧ Post X.K Y.EX ι H (pS X.K Dn) (forGo m.chk ft f (m.items.drop i) δ S), ⟨_, rfl, ι1, δ, S1, hd0, k.trans k1, sr.mono k1, g1, by simpa using q1⟩, ?_⟩
  rintro i n σ2 H2 ⟨en, ι2, δ2, S2, hd2, k2, sr2, g2, q2⟩
  by_cases hl : m.items.length ≤ i
  · rw [List.drop_eq_nil_of_le hl] at q2
    unfold forGo at q2
    obtain ⟨hchk, q2⟩ := post_if q2
    exact .inl ⟨(hd ι2 H2 S2 hd2 g2 hchk).2.2 i hl, q2 ι2 H2 (Keep.refl _ _) g2 σ2 sr2⟩
  · have hl' : i < m.items.length := by omega
    rw [List.drop_eq_getElem_cons hl'] at q2
    unfold forGo at q2
    obtain ⟨hchk, q2⟩ := post_if q2
    obtain ⟨h1, h2, h3⟩ := hd ι2 H2 S2 hd2 g2 hchk
    refine .inr ⟨h1 i hl', fun σ' H' => ∃ ι δ S, Hd ι H' ∧ Keep Y.ι0 Y.H0 ι H' ∧ SRep X.K ι H' σ' δ ∧ Good X.K ι H' S ∧ Post X.K Y.EX ι H' (pS X.K Dn) (forGo m.chk ft f (m.items.drop (i + 1)) δ S), fun σ' H' ⟨ι', δ', S', z⟩ => ⟨m.items.length - (i + 1), by omega, rfl, ι', δ', S', z⟩, fun x H' hy => ?_⟩
    obtain ⟨k3, g3, r3⟩ := h2 i x H' hy _ (List.getElem?_eq_getElem hl')
    have hd3 := hdm _ _ _ _ hd2 k3.kp
    refine ⟨_, ι2, δ2, S2, k2.trans k3, sr2.mono k3, g3, r3, Post.seq (Post.mono k3 q2) fun δ4 ι4 H4 S4 k4 g4 q4 => fun σ4 sr4 _ => ?_⟩
    have hd4 := hdm _ _ _ _ hd3 k4.kp
    refine ⟨ι4, δ4, S4, (k2.trans k3).trans k4, sr4, g4, Post.seq q4 fun fl ι5 H5 S5 k5 g5 q5 => ?_⟩
    have hd5 := hdm _ _ _ _ hd4 k5.kp
    cases fl with
    | nx δ5 => exact fun σ5 sr5 => ⟨ι5, δ5, S5, hd5, ((k2.trans k3).trans k4).trans k5, sr5, g5, q5⟩
    | ct δ5 => exact fun σ5 sr5 => ⟨ι5, δ5, S5, hd5, ((k2.trans k3).trans k4).trans k5, sr5, g5, q5⟩
    | bk δ5 => exact q5 ι5 H5 (Keep.refl _ _) g5
    | rt d => exact q5 ι5 H5 (Keep.refl _ _) g5
theorem ss_while {c : Expr} {body : List Stmt} (n : Nat) (hp : PassesOwn (model X.prog X.w) X.A X.env X.xe) (hc : ST X Y c fc) (hb : SB X Y body f) : SS X Y (.While c body [] pos) (whileN fc f n) := PS.imp (ps_while hp hc hb) fun Dn σ H ⟨ι, δ, S, k, sr, g, q⟩ => by
  refine ⟨fun m σ H => ∃ ι δ S, Keep Y.ι0 Y.H0 ι H ∧ SRep X.K ι H σ δ ∧ Good X.K ι H S ∧ Post X.K Y.EX ι H (pS X.K Dn) (whileN fc f m δ S), ⟨n, ι, δ, S, k, sr, g, q⟩, ?_⟩
  rintro m σ2 H2 ⟨ι2, δ2, S2, k2, sr2, g2, q2⟩
  cases m with
  | zero => exact q2.elim
  | succ m =>
    unfold whileN at q2
    refine ⟨ι2, δ2, S2, k2, sr2, g2, Post.seq q2 fun b ι3 H3 S3 k3 g3 q3 => ?_⟩
    unfold pT
    cases b with
    | false =>
      rw [if_neg (by decide)] at q3 ⊢
      exact q3 ι3 H3 (Keep.refl _ _) g3 σ2 (sr2.mono k3)
    | true =>
      rw [if_pos rfl] at q3 ⊢
      refine ⟨fun σ' H' => ∃ ι δ S, Keep Y.ι0 Y.H0 ι H' ∧ SRep X.K ι H' σ' δ ∧ Good X.K ι H' S ∧ Post X.K Y.EX ι H' (pS X.K Dn) (whileN fc f m δ S), fun σ' H' z => ⟨m, Nat.lt_succ_self m, z⟩, ?_⟩
      refine ⟨ι3, δ2, S3, k2.trans k3, sr2.mono k3, g3, Post.seq q3 fun fl ι5 H5 S5 k5 g5 q5 => ?_⟩
      cases fl with
      | nx δ5 => exact fun σ5 sr5 => ⟨ι5, δ5, S5, (k2.trans k3).trans k5, sr5, g5, q5⟩
      | ct δ5 => exact fun σ5 sr5 => ⟨ι5, δ5, S5, (k2.trans k3).trans k5, sr5, g5, q5⟩
      | bk δ5 => exact q5 ι5 H5 (Keep.refl _ _) g5
      | rt d => exact q5 ι5 H5 (Keep.refl _ _) g5
/-- more fuel changes nothing -/
theorem whileN_up : ∀ (n k : Nat) (δ : DEnv) (S : Store), whileN fc f n δ S ≠ .bad → whileN fc f (n + k) δ S = whileN fc f n δ S
  | 0, _, _, _, h => absurd rfl h
  | n + 1, k, δ, S, h => by
    rw [show n + 1 + k = (n + k) + 1 by omega]
    unfold whileN at h ⊢
    cases e : fc δ S with
    | exc c d S1 => rfl
    | bad => rfl
    | ok b S1 =>
      rw [e] at h
      simp only [bind_ok] at h ⊢
      cases b with
      | false => rfl
      | true =>
        simp only [if_true] at h ⊢
        cases e2 : f δ S1 with
        | exc c d S1 => rfl
        | bad => rfl
        | ok fl S2 =>
          rw [e2] at h
          simp only [bind_ok] at h ⊢
          cases fl with
          | nx δ2 => exact whileN_up n k δ2 S2 h
          | ct δ2 => exact whileN_up n k δ2 S2 h
          | bk δ2 => rfl
          | rt v => rfl
end
end DL
end
section
set_option Elab.async false
set_option linter.all false
set_option maxRecDepth 100000
set_option maxHeartbeats 4000000
/-! the data layer 9: comprehensions -/
namespace DL
open PySem PySem.Spec PyProof.Rows L2

def Ix.hide (ι : Ix) (p : Addr) : Ix := ⟨ι.v, fun b => ι.h b ∨ b = p, ι.x⟩
def Ix.bare (ι : Ix) (p : Addr) : Ix := ⟨ι.v, fun b => ι.h b ∧ b ≠ p, ι.x⟩
section
variable {K : PySem.W.Frag} {ι ι' ι1 ι2 : Ix} {H H' H1 H2 : Hp} {a p : Addr} {xs : List V} {S S' : Store}
theorem keep_hide {o : HO} (hp : H p = none) : Keep ι H (ι.hide p) (upd H p o) := ⟨⟨[], by simp [Ix.hide]⟩, fun b h => .inl h, fun b hb => by
  rcases hb with q | q | q
  · exact .inl (.inl q)
  · exact .inl (.inr q)
  · rw [q]; exact .inr hp, fun b u h _ => by rw [upd_ne (ne_of_none h hp)]; exact h, fun b u _ h => by rw [upd_ne (ne_of_none h hp)]; exact h, fun _ h => h⟩
theorem good_hide {o : HO} (g : Good K ι H S) (hp : H p = none) : Good K (ι.hide p) (upd H p o) S := ⟨g.len, g.nd, fun b hb hh => by
  rcases hh with q | q
  · exact g.dj b hb q
  · exact g.fresh hp (by rw [← q]; exact .inl hb), fun b hb => by
  rcases hb with q | q
  · obtain ⟨u, hu⟩ := g.tr b q
    exact ⟨u, by rw [upd_ne (ne_of_none hu hp)]; exact hu⟩
  · rw [q]; exact ⟨_, upd_same⟩, fun n m a h1 h2 => by
  have hne : a ≠ p := fun e => g.fresh hp (by rw [← e]; exact Ix.mem_get (ι := ι) h2)
  exact (g.obj n m a h1 h2).mono (keep_hide hp) (upd_ne hne)⟩
theorem good_hwrite {o : HO} (g : Good K ι H S) (hp : ι.h p) : Good K ι (upd H p o) S := ⟨g.len, g.nd, g.dj, fun b hb => by
  by_cases e : b = p
  · rw [e]; exact ⟨_, upd_same⟩
  · rw [upd_ne e]; exact g.tr b hb, fun n m a h1 h2 => by
  have hne : a ≠ p := fun e => g.dj a (List.mem_of_getElem? h2) (by rw [e]; exact hp)
  exact (g.obj n m a h1 h2).mono0 (Kp.write (.inr hp)) (upd_ne hne)⟩
theorem keep_hw {o : HO} (k : Keep ι H ι1 H1) (hp : H p = none) : Keep ι H ι1 (upd H1 p o) := ⟨k.pre, k.hid, k.new, fun b u h n => by rw [upd_ne (ne_of_none h hp)]; exact k.old b u h n, fun b u hb h => by rw [upd_ne (ne_of_none h hp)]; exact k.hst b u hb h, k.cur⟩
/-- fewer addresses are mutable, more are shown -/
structure Less (ι ι' : Ix) : Prop where
  pre : ∃ t, ι'.v = ι.v ++ t
  mem : ∀ b, b ∈ ι' → b ∈ ι
  cur : ι'.x = ι.x
mutual
theorem Rep.less (k : Less ι ι') : ∀ (d : D) (v : V), Rep K ι H d v → Rep K ι' H d v
  | .non, _, h => by cases h; exact .non
  | .bl b, _, h => by cases h; exact .bl b
  | .int i, _, h => by cases h; exact .int i
  | .str x, _, h => by cases h; exact .str x
  | .tup ds, _, h => by
    cases h with
    | tup hs hr => exact .tup (hs.elim (fun z => .inl ⟨fun q => z.1 (k.mem _ q), z.2⟩) .inr) (Reps.less k ds _ hr)
  | .lst ds, _, h => by
    cases h with
    | lst hs hr => exact .lst (hs.elim (fun z => .inl ⟨fun q => z.1 (k.mem _ q), z.2⟩) .inr) (Reps.less k ds _ hr)
  | .ref n, _, h => by
    cases h with
    | ref hn =>
      refine .ref ?_
      obtain ⟨t, e⟩ := k.pre
      rw [Ix.get_def] at hn ⊢
      have hl : n < ι.v.length := (List.getElem?_eq_some_iff.mp hn).1
      rw [e, List.getElem?_append_left hl]
      exact hn
  | .exn c d, _, h => by
    cases h with
    | exn h1 h2 h3 h4 => exact .exn (k.cur.trans h1) (fun q => h2 (k.mem _ q)) h3 (Rep.less k d _ h4)
theorem Reps.less (k : Less ι ι') : ∀ (ds : List D) (vs : List V), Reps K ι H ds vs → Reps K ι' H ds vs
  | [], _, h => by cases h; exact .nil
  | d :: ds, _, h => by
    cases h with
    | cons h1 h2 => exact .cons (Rep.less k d _ h1) (Reps.less k ds _ h2)
end
theorem RepM.less {m : M} (k : Less ι ι') (r : RepM K ι H a m) : RepM K ι' H a m := by
  cases m with
  | lst ds =>
    obtain ⟨xs, q, s⟩ := r
    exact ⟨xs, q, Reps.less k _ _ s⟩
  | dct _ =>
    obtain ⟨r1, r2, r3, xs, q, s⟩ := r
    exact ⟨r1, r2, r3, xs, q, Paired.mapP s fun p x z => by
      obtain ⟨z1, z2, v, z3, z4⟩ := z
      exact ⟨z1, Rep.less k _ _ z2, v, Rep.less k _ _ z3, z4⟩⟩
theorem less_bare : Less ι (ι.bare p) := ⟨⟨[], by simp [Ix.bare]⟩, fun b hb => hb.elim .inl fun z => .inr z.1, rfl⟩
theorem less_made (h : ι.h p) : Less ι (ι.bare p ++ [p]) := ⟨⟨[p], rfl⟩, fun b hb => by
  rcases Ix.mem_app.mp hb with q | q
  · exact less_bare.mem b q
  · have e : b = p := by simpa using q
    rw [e]; exact .inr h, rfl⟩
theorem good_bare (g : Good K ι H S) : Good K (ι.bare p) H S := ⟨g.len, g.nd, fun b hb hh => g.dj b hb hh.1, fun b hb => g.tr b hb.1, fun n m a h1 h2 => (g.obj n m a h1 h2).less less_bare⟩
theorem good_made (g : Good K ι H S) (hp : ι.h p) {ds : List D} {xs : List V} (hx : H p = some (.lst xs)) (hr : Reps K ι H ds xs) : Good K (ι.bare p ++ [p]) H (S ++ [.lst ds]) := by
  have gl : ι.v.length = S.length := g.len
  refine ⟨by simp [Ix.length, Ix.app_v, Ix.bare, gl], ?_, fun b hb hh => ?_, fun b hb => g.tr b hb.1, fun n m' a h1 h2 => ?_⟩
  · refine List.nodup_append.mpr ⟨g.nd, by simp, fun x hx y hy e => ?_⟩
    have : y = p := by simpa using hy
    exact g.dj x hx (by rw [e, this]; exact hp)
  · rcases List.mem_append.mp hb with q | q
    · exact g.dj b q hh.1
    · have e : b = p := by simpa using q
      exact hh.2 e
  · rw [Ix.get_def, Ix.app_v] at h2
    have h2 : (ι.v ++ [p])[n]? = some a := h2
    by_cases hn : n < S.length
    · rw [List.getElem?_append_left hn] at h1
      rw [List.getElem?_append_left (by rw [gl]; exact hn)] at h2
      exact (g.obj n m' a h1 h2).less (less_made hp)
    · rw [List.getElem?_append_right (by omega)] at h1
      rw [List.getElem?_append_right (by rw [gl]; omega)] at h2
      rw [gl] at h2
      have e0 : n - S.length = 0 := by
        have := (List.getElem?_eq_some_iff.mp h1).1
        simp at this
        omega
      rw [e0] at h1 h2
      have h1' : M.lst ds = m' := by simpa using h1
      have h2' : p = a := by simpa using h2
      rw [← h1', ← h2']
      exact ⟨xs, hx, Reps.less (less_made hp) _ _ hr⟩
theorem keep_bare (k : Keep ι H ι1 H1) (hp : H p = none) (hn : p ∉ ι) : Keep ι H (ι1.bare p) H1 := ⟨k.pre, fun b hb => ⟨k.hid b hb, fun e => hn (by rw [← e]; exact .inr hb)⟩, fun b hb => k.new b (less_bare.mem b hb), k.old, k.hst, k.cur⟩
theorem keep_made2 (k : Keep ι H ι1 H1) (hp : H p = none) (hn : p ∉ ι) (hh : ι1.h p) : Keep ι H (ι1.bare p ++ [p]) H1 := ⟨by
  obtain ⟨t, e⟩ := k.pre
  exact ⟨t ++ [p], by rw [Ix.app_v]; show ι1.v ++ [p] = _; rw [e, List.append_assoc]⟩, fun b hb => ⟨k.hid b hb, fun e => hn (by rw [← e]; exact .inr hb)⟩, fun b hb => k.new b ((less_made hh).mem b hb), k.old, k.hst, k.cur⟩
end

/-! ### what a comprehension does -/
def noX {α : Type} : R α → R α
  | .ok a S => .ok a S
  | _ => .bad
def evYes : DEnv → Store → R Bool := fun _ S => .ok true S
open Classical in
noncomputable def compGo (chk : Store → Prop) (tg : D → DEnv → Store → R DEnv) (ft : DEnv → Store → R Bool) (fe : DEnv → Store → R D) (δ : DEnv) : List D → Store → R (List D)
  | [], S => if chk S then .ok [] S else .bad
  | d :: ds, S => if chk S then (tg d δ S).bind fun δ1 S1 => (ft δ1 S1).bind fun b S2 => if b = true then (fe δ1 S2).bind fun y S3 => (compGo chk tg ft fe δ ds S3).bind fun ys S4 => .ok (y :: ys) S4 else compGo chk tg ft fe δ ds S2 else .bad
noncomputable def evComp (vs : List Nat) (fi : DEnv → Store → R Itm) (tg : D → DEnv → Store → R DEnv) (ft : DEnv → Store → R Bool) (fe : DEnv → Store → R D) : DEnv → Store → R (List D) := fun δ S => (fi δ S).bind fun m S1 =>
  (noX (compGo m.chk tg ft fe (wipeD δ vs) m.items S1)).bind fun ys S2 => if ys.length ≤ sizeLine then .ok ys S2 else .bad
open Classical in
noncomputable def compGo2 (chk : Store → Prop) (tg : D → DEnv → Store → R DEnv) (ft : DEnv → Store → R Bool) (vs1 : List Nat) (fi1 : DEnv → Store → R Itm) (tg1 : D → DEnv → Store → R DEnv) (ft1 : DEnv → Store → R Bool) (fe : DEnv → Store → R D) (δ : DEnv) : List D → Store → R (List D)
  | [], S => if chk S then .ok [] S else .bad
  | d :: ds, S => if chk S then (tg d δ S).bind fun δ1 S1 => (ft δ1 S1).bind fun b S2 => if b = true then (fi1 δ1 S2).bind fun m S3 => (compGo m.chk tg1 ft1 fe (wipeD δ1 vs1) m.items S3).bind fun ys S4 =>
      (compGo2 chk tg ft vs1 fi1 tg1 ft1 fe δ ds S4).bind fun zs S5 => .ok (ys ++ zs) S5 else compGo2 chk tg ft vs1 fi1 tg1 ft1 fe δ ds S2 else .bad
noncomputable def evComp2 (vs : List Nat) (fi : DEnv → Store → R Itm) (tg : D → DEnv → Store → R DEnv) (ft : DEnv → Store → R Bool) (vs1 : List Nat) (fi1 : DEnv → Store → R Itm) (tg1 : D → DEnv → Store → R DEnv) (ft1 : DEnv → Store → R Bool) (fe : DEnv → Store → R D) : DEnv → Store → R (List D) := fun δ S => (fi δ S).bind fun m S1 =>
  (noX (compGo2 m.chk tg ft vs1 fi1 tg1 ft1 fe (wipeD δ vs) m.items S1)).bind fun ys S2 => if ys.length ≤ sizeLine then .ok ys S2 else .bad
def mkI : List D → Store → R D := fun ys S => .ok (.lst ys) S
def mkN : List D → Store → R D := fun ys S => .ok (.ref S.length) (S ++ [.lst ys])
def evMk (mk : List D → Store → R D) (f : DEnv → Store → R (List D)) : DEnv → Store → R D := fun δ S => (f δ S).bind mk
/-- how a new list becomes a value -/
def MkOk (K : PySem.W.Frag) (mk : List D → Store → R D) : Prop := ∀ (EX : Str → D → Ix → Hp → Store → Prop) (ι1 : Ix) (H1 : Hp) (Q : VK) (ys : List D) (S2 : Store) (ιe : Ix) (He : Hp) (acc : List V) (p : Addr), Keep ι1 H1 ιe He → Good K ιe He S2 → ιe.h p → H1 p = none → p ∉ ι1 →
  He p = some (.lst acc) → Reps K ιe He ys acc → Post K EX ι1 H1 (pE K Q) (mk ys S2) → Q (.ref p) He
theorem mkI_ok {K : PySem.W.Frag} : MkOk K mkI := fun EX ι1 H1 Q ys S2 ιe He acc p k g hh hp hn hx hr q =>
  q (ιe.bare p) He (keep_bare k hp hn) (good_bare g) _ (.lst (.inl ⟨fun z => z.elim (fun z => g.dj p z hh) fun z => z.2 rfl, .inl hx⟩) (Reps.less less_bare _ _ hr))
theorem mkN_ok {K : PySem.W.Frag} : MkOk K mkN := fun EX ι1 H1 Q ys S2 ιe He acc p k g hh hp hn hx hr q =>
  q (ιe.bare p ++ [p]) He (keep_made2 k hp hn hh) (good_made g hh hx hr) _ (.ref (Ix.get_new (show (ιe.bare p).length = S2.length from g.len)))

abbrev Yc.q (Y : Yc) : Yc := ⟨Y.ι0, Y.H0, fun _ _ _ _ _ => False⟩
def SC (X : Cx) (Y : Yc) (ifs : List Expr) (ft : DEnv → Store → R Bool) : Prop := PTs X ifs (tlT X.K Y ft)
theorem PTs.imp {X : Cx} {es : List Expr} {t t' : TT} (h : PTs X es t) (i : ∀ σ H Q, t' σ H Q → t σ H Q) : PTs X es t' := ⟨fun pins s σ H Q I q => h.run pins s σ H Q I (i σ H Q q)⟩
theorem sc_nil {X : Cx} {Y : Yc} : SC X Y [] evYes := PTs.imp pts_nil fun σ H Q ⟨ι, δ, S, k, sr, g, q⟩ => q ι H (Keep.refl _ _) g
theorem sc_one {X : Cx} {Y : Yc} {c : Expr} {ft : DEnv → Store → R Bool} (h : ST X Y c ft) : SC X Y [c] ft := pts_one h

theorem compGo_cons {chk : Store → Prop} {tg : D → DEnv → Store → R DEnv} {ft : DEnv → Store → R Bool} {fe : DEnv → Store → R D} {δ : DEnv} {d : D} {ds ys : List D} {S S' : Store} (h : compGo chk tg ft fe δ (d :: ds) S = .ok ys S') :
    chk S ∧ ∃ δ1 S1 b S2, tg d δ S = .ok δ1 S1 ∧ ft δ1 S1 = .ok b S2 ∧ ((b = true ∧ ∃ y S3 ys', fe δ1 S2 = .ok y S3 ∧ compGo chk tg ft fe δ ds S3 = .ok ys' S' ∧ ys = y :: ys') ∨ (b = false ∧ compGo chk tg ft fe δ ds S2 = .ok ys S')) := by
  unfold compGo at h
  split at h
  · rename_i hc
    refine ⟨hc, ?_⟩
    cases e1 : tg d δ S with
    | exc _ _ _ => rw [e1] at h; cases h
    | bad => rw [e1] at h; cases h
    | ok δ1 S1 =>
      rw [e1, bind_ok] at h
      cases e2 : ft δ1 S1 with
      | exc _ _ _ => rw [e2] at h; cases h
      | bad => rw [e2] at h; cases h
      | ok b S2 =>
        rw [e2, bind_ok] at h
        refine ⟨δ1, S1, b, S2, rfl, e2, ?_⟩
        cases b with
        | false => exact .inr ⟨rfl, h⟩
        | true =>
          rw [if_pos rfl] at h
          cases e3 : fe δ1 S2 with
          | exc _ _ _ => rw [e3] at h; cases h
          | bad => rw [e3] at h; cases h
          | ok y S3 =>
            rw [e3, bind_ok] at h
            cases e4 : compGo chk tg ft fe δ ds S3 with
            | exc _ _ _ => rw [e4] at h; cases h
            | bad => rw [e4] at h; cases h
            | ok ys' S4 =>
              rw [e4, bind_ok] at h
              cases h
              exact .inl ⟨rfl, y, S3, ys', rfl, e4, rfl⟩
  · cases h
theorem compGo_nil {chk : Store → Prop} {tg : D → DEnv → Store → R DEnv} {ft : DEnv → Store → R Bool} {fe : DEnv → Store → R D} {δ : DEnv} {ys : List D} {S S' : Store} (h : compGo chk tg ft fe δ [] S = .ok ys S') : chk S ∧ ys = [] ∧ S' = S := by
  unfold compGo at h
  split at h
  · rename_i hc
    cases h
    exact ⟨hc, rfl, rfl⟩
  · cases h
theorem compGo2_nil {chk : Store → Prop} {tg : D → DEnv → Store → R DEnv} {ft : DEnv → Store → R Bool} {vs1 : List Nat} {fi1 : DEnv → Store → R Itm} {tg1 : D → DEnv → Store → R DEnv} {ft1 : DEnv → Store → R Bool} {fe : DEnv → Store → R D} {δ : DEnv} {ys : List D} {S S' : Store} (h : compGo2 chk tg ft vs1 fi1 tg1 ft1 fe δ [] S = .ok ys S') : chk S ∧ ys = [] ∧ S' = S := by
  unfold compGo2 at h
  split at h
  · rename_i hc
    cases h
    exact ⟨hc, rfl, rfl⟩
  · cases h
theorem compGo2_cons {chk : Store → Prop} {tg : D → DEnv → Store → R DEnv} {ft : DEnv → Store → R Bool} {vs1 : List Nat} {fi1 : DEnv → Store → R Itm} {tg1 : D → DEnv → Store → R DEnv} {ft1 : DEnv → Store → R Bool} {fe : DEnv → Store → R D} {δ : DEnv} {d : D} {ds ys : List D} {S S' : Store} (h : compGo2 chk tg ft vs1 fi1 tg1 ft1 fe δ (d :: ds) S = .ok ys S') :
    chk S ∧ ∃ δ1 S1 b S2, tg d δ S = .ok δ1 S1 ∧ ft δ1 S1 = .ok b S2 ∧ ((b = true ∧ ∃ m S3 ys1 S4 zs, fi1 δ1 S2 = .ok m S3 ∧ compGo m.chk tg1 ft1 fe (wipeD δ1 vs1) m.items S3 = .ok ys1 S4 ∧ compGo2 chk tg ft vs1 fi1 tg1 ft1 fe δ ds S4 = .ok zs S' ∧ ys = ys1 ++ zs) ∨ (b = false ∧ compGo2 chk tg ft vs1 fi1 tg1 ft1 fe δ ds S2 = .ok ys S')) := by
  unfold compGo2 at h
  split at h
  · rename_i hc
    refine ⟨hc, ?_⟩
    cases e1 : tg d δ S with
    | exc _ _ _ => rw [e1] at h; cases h
    | bad => rw [e1] at h; cases h
    | ok δ1 S1 =>
      rw [e1, bind_ok] at h
      cases e2 : ft δ1 S1 with
      | exc _ _ _ => rw [e2] at h; cases h
      | bad => rw [e2] at h; cases h
      | ok b S2 =>
        rw [e2, bind_ok] at h
        refine ⟨δ1, S1, b, S2, rfl, e2, ?_⟩
        cases b with
        | false => exact .inr ⟨rfl, h⟩
        | true =>
          rw [if_pos rfl] at h
          cases e3 : fi1 δ1 S2 with
          | exc _ _ _ => rw [e3] at h; cases h
          | bad => rw [e3] at h; cases h
          | ok m S3 =>
            rw [e3, bind_ok] at h
            cases e4 : compGo m.chk tg1 ft1 fe (wipeD δ1 vs1) m.items S3 with
            | exc _ _ _ => rw [e4] at h; cases h
            | bad => rw [e4] at h; cases h
            | ok ys' S4 =>
              rw [e4, bind_ok] at h
              cases e5 : compGo2 chk tg ft vs1 fi1 tg1 ft1 fe δ ds S4 with
              | exc _ _ _ => rw [e5] at h; cases h
              | bad => rw [e5] at h; cases h
              | ok zs S5 =>
                rw [e5, bind_ok] at h
                cases h
                exact .inl ⟨rfl, m, S3, ys', S4, zs, rfl, e4, e5, rfl⟩
  · cases h
theorem fin_noX {α : Type} {K : PySem.W.Frag} {EX : Str → D → Ix → Hp → Store → Prop} {ι : Ix} {H : Hp} {Q : VK} {mk : List D → Store → R D} {r : R (List D)} (h : Post K EX ι H (pE K Q) (((noX r).bind fun ys S2 => if ys.length ≤ sizeLine then .ok ys S2 else .bad).bind mk)) :
    ∃ ys S2, r = .ok ys S2 ∧ ys.length ≤ sizeLine ∧ Post K EX ι H (pE K Q) (mk ys S2) := by
  cases r with
  | exc _ _ _ => exact h.elim
  | bad => exact h.elim
  | ok ys S2 =>
    simp only [noX, bind_ok] at h
    split at h
    · rename_i hl
      exact ⟨ys, S2, rfl, hl, h⟩
    · exact h.elim
theorem bind_assoc {α β γ : Type} (r : R α) (f : α → Store → R β) (g : β → Store → R γ) : (r.bind f).bind g = r.bind fun a S => (f a S).bind g := by cases r <;> rfl

section
variable {K : PySem.W.Frag} {Y : Yc} {σ : L2.St} {H : Hp} {Q : VK} {ρ : Rho} {ws vs : List Nat} {fi : DEnv → Store → R Itm} {tg : D → DEnv → Store → R DEnv} {ft : DEnv → Store → R Bool} {fe : DEnv → Store → R D} {mk : List D → Store → R D}
theorem lc_lift (hmk : MkOk K mk) (hw : ∀ i ∈ ws, i ∈ vs) (h : Lift K Y (evMk mk (evComp vs fi tg ft fe)) σ H (pE K Q)) : tLc (tlI K Y ρ fi) (tlH K Y.q ρ ws tg) (tlT K Y.q ft) (tl K Y.q fe) vs σ H Q := by
  obtain ⟨ι, δ, S, k, sr, g, q⟩ := h
  unfold evMk evComp at q
  rw [bind_assoc] at q
  refine ⟨ι, δ, S, k, sr, g, Post.seq q fun m ι1 H1 S1 k1 g1 q1 => fun J hJ => fun p hp => ?_⟩
  obtain ⟨Hd, hd0, hdm, hd⟩ := hJ
  obtain ⟨zs, Se, er, hz, qe⟩ := fin_noX (α := Unit) q1
  have hpn : p ∉ ι1 := g1.fresh hp
  refine ⟨fun i n H => n = m.items.length - i ∧ ∃ ι S acc ds ys, Keep ι1 H1 ι H ∧ ι.h p ∧ Good K ι H S ∧ H p = some (.lst acc) ∧ Reps K ι H ds acc ∧ compGo m.chk tg ft fe (wipeD δ vs) (m.items.drop i) S = .ok ys Se ∧ zs = ds ++ ys,
    ⟨_, rfl, ι1.hide p, S1, [], [], zs, keep_hide hp, .inr rfl, good_hide g1 hp, upd_same, .nil, by simpa using er, rfl⟩, ?_⟩
  rintro i n H2 ⟨en, ι2, S2, acc, ds, ys, k02, hh2, g2, hx2, hr2, e2, ez⟩
  have hd2 := hdm _ _ _ _ hd0 k02.kp
  by_cases hl : m.items.length ≤ i
  · rw [List.drop_eq_nil_of_le hl] at e2
    obtain ⟨hchk, e3, e4⟩ := compGo_nil e2
    subst e3
    rw [List.append_nil] at ez
    subst ez
    exact .inl ⟨(hd ι2 H2 S2 hd2 g2 hchk).2.2 i hl, hmk Y.EX ι1 H1 Q _ Se ι2 H2 acc p k02 (by rw [e4]; exact g2) hh2 hp hpn hx2 hr2 qe⟩
  · have hl' : i < m.items.length := by omega
    rw [List.drop_eq_getElem_cons hl'] at e2
    obtain ⟨hchk, δ1, S3, b, S4, et, ef, er2⟩ := compGo_cons e2
    obtain ⟨h1, h2, h3⟩ := hd ι2 H2 S2 hd2 g2 hchk
    refine .inr ⟨h1 i hl', fun H => ∃ ι S acc ds ys, Keep ι1 H1 ι H ∧ ι.h p ∧ Good K ι H S ∧ H p = some (.lst acc) ∧ Reps K ι H ds acc ∧ compGo m.chk tg ft fe (wipeD δ vs) (m.items.drop (i + 1)) S = .ok ys Se ∧ zs = ds ++ ys,
      fun H' z => ⟨m.items.length - (i + 1), by omega, rfl, z⟩, fun x H' hy => ?_⟩
    obtain ⟨k3, g3, r3⟩ := h2 i x H' hy _ (List.getElem?_eq_getElem hl')
    have srw : SRep K ι2 H' (L2.wipe σ vs) (wipeD δ vs) := ((sr.mono k1).mono (k02.trans k3)).wipe vs
    have kY : Keep Y.ι0 Y.H0 ι2 H' := (k.trans k1).trans (k02.trans k3)
    refine ⟨m.items[i], ι2, wipeD δ vs, S2, kY, srw, g3, r3, ?_⟩
    rw [et]
    intro ι5 H5 k5 g5 σ5 sr5 o5
    refine ⟨((o5.mono hw).wipe).trans (out_wipe.wipe), ι5, δ1, S3, kY.trans k5, sr5, g5, ?_⟩
    rw [ef]
    intro ι6 H6 k6 g6
    have k26 := (k3.trans k5).trans k6
    unfold pT
    rcases er2 with ⟨eb, y, S5, ys', ey, eg, eys⟩ | ⟨eb, eg⟩
    · subst eb
      simp only [if_true]
      refine ⟨ι6, δ1, S4, (kY.trans k5).trans k6, sr5.mono k6, g6, ?_⟩
      rw [ey]
      intro ι7 H7 k7 g7 v rv
      have k27 := k26.trans k7
      have hh7 : ι7.h p := k27.hid p hh2
      have hx7 : H7 p = some (.lst acc) := k27.hst p _ hh2 hx2
      have kw : Kp ι7 H7 ι7 (upd H7 p (.lst (acc ++ [v]))) := Kp.write (.inr hh7)
      refine ⟨acc, hx7, ?_, ι7, S5, acc ++ [v], ds ++ [y], ys', keep_hw (k02.trans k27) hp, hh7, good_hwrite g7 hh7, upd_same, Reps.append (Reps.mono0 kw _ _ (Reps.mono k27 _ _ hr2)) (.cons (Rep.mono0 kw _ _ rv) .nil), eg, by rw [ez, eys, List.append_assoc]; rfl⟩
      rw [← hr2.length]
      have : zs.length = ds.length + (ys'.length + 1) := by rw [ez, eys]; simp
      omega
    · subst eb
      simp only [Bool.false_eq_true, if_false]
      have k26' := k02.trans k26
      exact ⟨ι6, S4, acc, ds, ys, k26', k26.hid p hh2, g6, k26.hst p _ hh2 hx2, Reps.mono k26 _ _ hr2, eg, ez⟩
theorem lc2_lift {vs1 ws1 : List Nat} {ρ1 : Rho} {fi1 : DEnv → Store → R Itm} {tg1 : D → DEnv → Store → R DEnv} {ft1 : DEnv → Store → R Bool} (hmk : MkOk K mk) (hw : ∀ i ∈ ws, i ∈ vs) (hw1 : ∀ i ∈ ws1, i ∈ vs1) (h : Lift K Y (evMk mk (evComp2 vs fi tg ft vs1 fi1 tg1 ft1 fe)) σ H (pE K Q)) :
    tLc2 (tlI K Y ρ fi) (tlH K Y.q ρ ws tg) (tlT K Y.q ft) (tlI K Y.q ρ1 fi1) (tlH K Y.q ρ1 ws1 tg1) (tlT K Y.q ft1) (tl K Y.q fe) vs vs1 σ H Q := by
  obtain ⟨ι, δ, S, k, sr, g, q⟩ := h
  unfold evMk evComp2 at q
  rw [bind_assoc] at q
  refine ⟨ι, δ, S, k, sr, g, Post.seq q fun m ι1 H1 S1 k1 g1 q1 => fun J hJ => fun p hp => ?_⟩
  obtain ⟨Hd, hd0, hdm, hd⟩ := hJ
  obtain ⟨zs, Se, er, hz, qe⟩ := fin_noX (α := Unit) q1
  have hpn : p ∉ ι1 := g1.fresh hp
  refine ⟨fun i n H => n = m.items.length - i ∧ ∃ ι S acc ds ys, Keep ι1 H1 ι H ∧ ι.h p ∧ Good K ι H S ∧ H p = some (.lst acc) ∧ Reps K ι H ds acc ∧ compGo2 m.chk tg ft vs1 fi1 tg1 ft1 fe (wipeD δ vs) (m.items.drop i) S = .ok ys Se ∧ zs = ds ++ ys,
    ⟨_, rfl, ι1.hide p, S1, [], [], zs, keep_hide hp, .inr rfl, good_hide g1 hp, upd_same, .nil, by simpa using er, rfl⟩, ?_⟩
  rintro i n H2 ⟨en, ι2, S2, acc, ds, ys, k02, hh2, g2, hx2, hr2, e2, ez⟩
  have hd2 := hdm _ _ _ _ hd0 k02.kp
  by_cases hl : m.items.length ≤ i
  · rw [List.drop_eq_nil_of_le hl] at e2
    obtain ⟨hchk, e3, e4⟩ := compGo2_nil e2
    subst e3
    rw [List.append_nil] at ez
    subst ez
    exact .inl ⟨(hd ι2 H2 S2 hd2 g2 hchk).2.2 i hl, hmk Y.EX ι1 H1 Q _ Se ι2 H2 acc p k02 (by rw [e4]; exact g2) hh2 hp hpn hx2 hr2 qe⟩
  · have hl' : i < m.items.length := by omega
    rw [List.drop_eq_getElem_cons hl'] at e2
    obtain ⟨hchk, δ1, S3, b, S4, et, ef, er2⟩ := compGo2_cons e2
    obtain ⟨h1, h2, h3⟩ := hd ι2 H2 S2 hd2 g2 hchk
    refine .inr ⟨h1 i hl', fun H => ∃ ι S acc ds ys, Keep ι1 H1 ι H ∧ ι.h p ∧ Good K ι H S ∧ H p = some (.lst acc) ∧ Reps K ι H ds acc ∧ compGo2 m.chk tg ft vs1 fi1 tg1 ft1 fe (wipeD δ vs) (m.items.drop (i + 1)) S = .ok ys Se ∧ zs = ds ++ ys,
      fun H' z => ⟨m.items.length - (i + 1), by omega, rfl, z⟩, fun x H' hy => ?_⟩
    obtain ⟨k3, g3, r3⟩ := h2 i x H' hy _ (List.getElem?_eq_getElem hl')
    have srw : SRep K ι2 H' (L2.wipe σ vs) (wipeD δ vs) := ((sr.mono k1).mono (k02.trans k3)).wipe vs
    have kY : Keep Y.ι0 Y.H0 ι2 H' := (k.trans k1).trans (k02.trans k3)
    refine ⟨m.items[i], ι2, wipeD δ vs, S2, kY, srw, g3, r3, ?_⟩
    rw [et]
    intro ι5 H5 k5 g5 σ5 sr5 o5
    refine ⟨((o5.mono hw).wipe).trans (out_wipe.wipe), ι5, δ1, S3, kY.trans k5, sr5, g5, ?_⟩
    rw [ef]
    intro ι6 H6 k6 g6
    have k26 := (k3.trans k5).trans k6
    unfold pT
    rcases er2 with ⟨eb, m1, S5, ys1, S6, zs1, ei, ey, eg, eys⟩ | ⟨eb, eg⟩
    · subst eb
      simp only [if_true]
      refine ⟨ι6, δ1, S4, (kY.trans k5).trans k6, sr5.mono k6, g6, ?_⟩
      rw [ei]
      intro ι7 H7 k7 g7 J1 hJ1
      obtain ⟨Hd1, hd10, hd1m, hd1⟩ := hJ1
      have k27 := k26.trans k7
      refine ⟨fun j n H => n = m1.items.length - j ∧ ∃ ι S acc ds1 ys, Keep ι1 H1 ι H ∧ Kp ι7 H7 ι H ∧ Hd1 ι H ∧ ι.h p ∧ Good K ι H S ∧ H p = some (.lst acc) ∧ Reps K ι H (ds ++ ds1) acc ∧ compGo m1.chk tg1 ft1 fe (wipeD δ1 vs1) (m1.items.drop j) S = .ok ys S6 ∧ ys1 = ds1 ++ ys,
        ⟨_, rfl, ι7, S5, acc, [], ys1, k02.trans k27, (Keep.refl _ _).kp, hd10, k27.hid p hh2, g7, k27.hst p _ hh2 hx2, by simpa using Reps.mono k27 _ _ hr2, by simpa using ey, rfl⟩, ?_⟩
      rintro j n1 H8 ⟨en1, ι8, S8, acc1, ds1, ys8, k08, kp8, hd8, hh8, g8, hx8, hr8, e8, ez8⟩
      by_cases hl1 : m1.items.length ≤ j
      · rw [List.drop_eq_nil_of_le hl1] at e8
        obtain ⟨hchk1, e3, e4⟩ := compGo_nil e8
        subst e3
        rw [List.append_nil] at ez8
        subst ez8
        exact .inl ⟨(hd1 ι8 H8 S8 hd8 g8 hchk1).2.2 j hl1, ι8, S8, acc1, ds ++ ys1, zs1, k08, hh8, g8, hx8, hr8, by rw [← e4]; exact eg, by rw [ez, eys, List.append_assoc]⟩
      · have hl1' : j < m1.items.length := by omega
        rw [List.drop_eq_getElem_cons hl1'] at e8
        obtain ⟨hchk1, δ9, S9, b1, S10, et1, ef1, er8⟩ := compGo_cons e8
        obtain ⟨h11, h12, h13⟩ := hd1 ι8 H8 S8 hd8 g8 hchk1
        refine .inr ⟨h11 j hl1', fun H => ∃ ι S acc ds1 ys, Keep ι1 H1 ι H ∧ Kp ι7 H7 ι H ∧ Hd1 ι H ∧ ι.h p ∧ Good K ι H S ∧ H p = some (.lst acc) ∧ Reps K ι H (ds ++ ds1) acc ∧ compGo m1.chk tg1 ft1 fe (wipeD δ1 vs1) (m1.items.drop (j + 1)) S = .ok ys S6 ∧ ys1 = ds1 ++ ys,
          fun H' z => ⟨m1.items.length - (j + 1), by omega, rfl, z⟩, fun x1 H9 hy1 => ?_⟩
        obtain ⟨k9, g9, r9⟩ := h12 j x1 H9 hy1 _ (List.getElem?_eq_getElem hl1')
        have sr8 : SRep K ι8 H9 (L2.wipe σ5 vs1) (wipeD δ1 vs1) := ((((sr5.mono k6).mono k7).mono0 kp8).mono k9).wipe vs1
        have kY9 : Keep Y.ι0 Y.H0 ι8 H9 := ((k.trans k1).trans k08).trans k9
        refine ⟨m1.items[j], ι8, wipeD δ1 vs1, S8, kY9, sr8, g9, r9, ?_⟩
        rw [et1]
        intro ι10 H10 k10 g10 σ10 sr10 o10
        refine ⟨((o10.mono hw1).wipe).trans (out_wipe.wipe), ι10, δ9, S9, kY9.trans k10, sr10, g10, ?_⟩
        rw [ef1]
        intro ι11 H11 k11 g11
        have k8b := (k9.trans k10).trans k11
        unfold pT
        rcases er8 with ⟨eb1, y, S12, ys', ey1, eg1, eys1⟩ | ⟨eb1, eg1⟩
        · subst eb1
          simp only [if_true]
          refine ⟨ι11, δ9, S10, (kY9.trans k10).trans k11, sr10.mono k11, g11, ?_⟩
          rw [ey1]
          intro ι12 H12 k12 g12 v rv
          have k8c := k8b.trans k12
          have hhc : ι12.h p := k8c.hid p hh8
          have hxc : H12 p = some (.lst acc1) := k8c.hst p _ hh8 hx8
          have kw : Kp ι12 H12 ι12 (upd H12 p (.lst (acc1 ++ [v]))) := Kp.write (.inr hhc)
          refine ⟨acc1, hxc, ?_, ι12, S12, acc1 ++ [v], ds1 ++ [y], ys', keep_hw (k08.trans k8c) hp, (kp8.trans k8c.kp).trans kw, hd1m _ _ _ _ hd8 (k8c.kp.trans kw), hhc, good_hwrite g12 hhc, upd_same, ?_, eg1, by rw [ez8, eys1, List.append_assoc]; rfl⟩
          · rw [← hr8.length]
            have : zs.length = (ds ++ ds1).length + (ys'.length + 1) + zs1.length := by rw [ez, eys, ez8, eys1]; simp; omega
            omega
          · rw [← List.append_assoc]
            exact Reps.append (Reps.mono0 kw _ _ (Reps.mono k8c _ _ hr8)) (.cons (Rep.mono0 kw _ _ rv) .nil)
        · subst eb1
          simp only [Bool.false_eq_true, if_false]
          exact ⟨ι11, S10, acc1, ds1, ys8, k08.trans k8b, kp8.trans k8b.kp, hd1m _ _ _ _ hd8 k8b.kp, k8b.hid p hh8, g11, k8b.hst p _ hh8 hx8, Reps.mono k8b _ _ hr8, eg1, ez8⟩
    · subst eb
      simp only [Bool.false_eq_true, if_false]
      have k26' := k02.trans k26
      exact ⟨ι6, S4, acc, ds, ys, k26', k26.hid p hh2, g6, k26.hst p _ hh2 hx2, Reps.mono k26 _ _ hr2, eg, ez⟩
end
/-! ### the rules -/
section
variable {X : Cx} {Y : Yc} {ρ ρ1 : Rho} {ws ws1 vs1 : List Nat} {fi fi1 : DEnv → Store → R Itm} {ftg ftg1 : D → DEnv → Store → R DEnv} {ft ft1 : DEnv → Store → R Bool} {fe : DEnv → Store → R D} {mk : List D → Store → R D}
  {elt tg iter tg1 iter1 : Expr} {ifs ifs1 : List Expr} {scope : Scope} {own : List (Str × Nat)} {pos spos : Pos}
/-- for every context of the block -/
abbrev Blk (X : Cx) (scope : Scope) (p : Cx → Prop) : Prop := ∀ (s : Shared) (H : Hp) (C : Addr) (cl : List (Str × Addr)) (fp : List Addr), p (X.blk s H scope (compEnvC scope cl C X.env) fp)
theorem se_lc (hmk : MkOk X.K mk) (hc : X.calm = true) (hN : X.N.Nodup) (ok : BlkOk X.N X.env.scope scope own) (hw : ∀ i ∈ ws, i ∈ own.map (·.2)) (hi : SI X Y ρ tg iter fi)
    (hg : Blk X scope fun B => SG B Y.q ρ tg ws ftg) (ht : Blk X scope fun B => SC B Y.q ifs ft) (he : Blk X scope fun B => SE B Y.q elt fe) (hs : ∀ x, foldedSetIterable iter X.env x = pure x := by intro _; rfl) :
    SE X Y (.ListComp elt [⟨tg, iter, ifs, 0⟩] scope pos) (evMk mk (evComp (own.map (·.2)) fi ftg ft fe)) := PE.imp (pe_lc (g := tlH X.K Y.q ρ ws ftg) (tt := tlT X.K Y.q ft) (te := tl X.K Y.q fe) hc hN hi ok hg ht he hs) fun σ H Q h => lc_lift hmk hw h
theorem ss_lc {i : Nat} {y : Str} {py : Pos} (hmk : MkOk X.K mk) (hc : X.calm = true) (hN : X.N.Nodup) (hy : X.N[i]? = some y) (hyl : X.env.scope.names.lookup y = some .local) (ok : BlkOk X.N X.env.scope scope own) (hw : ∀ i ∈ ws, i ∈ own.map (·.2)) (hi : SI X Y ρ tg iter fi)
    (hg : Blk X scope fun B => SG B Y.q ρ tg ws ftg) (ht : Blk X scope fun B => SC B Y.q ifs ft) (he : Blk X scope fun B => SE B Y.q elt fe)
    (hsw : swapsWith (.ListComp elt [⟨tg, iter, ifs, 0⟩] scope pos) (some (.Name y py)) spos.line X.env = pure true := by rfl) (hs : ∀ x, foldedSetIterable iter X.env x = pure x := by intro _; rfl) :
    SS X Y (.Assign [.Name y py] (.ListComp elt [⟨tg, iter, ifs, 0⟩] scope pos) spos) (evAsg (evMk mk (evComp (own.map (·.2)) fi ftg ft fe)) (tgN i)) := PS.imp (ps_setLc (g := tlH X.K Y.q ρ ws ftg) (tt := tlT X.K Y.q ft) (te := tl X.K Y.q fe) hc hN hy hyl hsw hi ok hg ht he hs) fun Dn σ H ⟨ι, δ, S, k, sr, g, q⟩ =>
  lc_lift hmk hw ⟨ι, δ, S, k, sr, g, Post.seq q fun d ι1 H1 S1 k1 g1 q1 => fun v rv => q1 ι1 H1 (Keep.refl _ _) g1 _ ((sr.mono k1).set rv i)⟩
theorem se_lc2 (hmk : MkOk X.K mk) (hc : X.calm = true) (hN : X.N.Nodup) (ok : BlkOk X.N X.env.scope scope own) (hw : ∀ i ∈ ws, i ∈ own.map (·.2)) (hv : ∀ i ∈ vs1, i ∈ own.map (·.2)) (hw1 : ∀ i ∈ ws1, i ∈ vs1) (hi : SI X Y ρ tg iter fi)
    (hg : Blk X scope fun B => SG B Y.q ρ tg ws ftg) (ht : Blk X scope fun B => SC B Y.q ifs ft) (hi1 : Blk X scope fun B => SI B Y.q ρ1 tg1 iter1 fi1) (hg1 : Blk X scope fun B => SG B Y.q ρ1 tg1 ws1 ftg1) (ht1 : Blk X scope fun B => SC B Y.q ifs1 ft1) (he : Blk X scope fun B => SE B Y.q elt fe)
    (hs : ∀ x, foldedSetIterable iter X.env x = pure x := by intro _; rfl) (hs1 : ∀ env x, foldedSetIterable iter1 env x = pure x := by intro _ _; rfl) :
    SE X Y (.ListComp elt [⟨tg, iter, ifs, 0⟩, ⟨tg1, iter1, ifs1, 0⟩] scope pos) (evMk mk (evComp2 (own.map (·.2)) fi ftg ft vs1 fi1 ftg1 ft1 fe)) := PE.imp (pe_lc2 (g := tlH X.K Y.q ρ ws ftg) (tt := tlT X.K Y.q ft) (te := tl X.K Y.q fe) (wi1 := tlI X.K Y.q ρ1 fi1) (g1 := tlH X.K Y.q ρ1 ws1 ftg1) (tt1 := tlT X.K Y.q ft1) hc hN hi ok hv hg ht hi1 hg1 ht1 he hs hs1) fun σ H Q h => lc2_lift hmk hw hw1 h
theorem ss_lc2 {i : Nat} {y : Str} {py : Pos} (hmk : MkOk X.K mk) (hc : X.calm = true) (hN : X.N.Nodup) (hy : X.N[i]? = some y) (hyl : X.env.scope.names.lookup y = some .local) (ok : BlkOk X.N X.env.scope scope own) (hw : ∀ i ∈ ws, i ∈ own.map (·.2)) (hv : ∀ i ∈ vs1, i ∈ own.map (·.2)) (hw1 : ∀ i ∈ ws1, i ∈ vs1) (hi : SI X Y ρ tg iter fi)
    (hg : Blk X scope fun B => SG B Y.q ρ tg ws ftg) (ht : Blk X scope fun B => SC B Y.q ifs ft) (hi1 : Blk X scope fun B => SI B Y.q ρ1 tg1 iter1 fi1) (hg1 : Blk X scope fun B => SG B Y.q ρ1 tg1 ws1 ftg1) (ht1 : Blk X scope fun B => SC B Y.q ifs1 ft1) (he : Blk X scope fun B => SE B Y.q elt fe)
    (hsw : swapsWith (.ListComp elt [⟨tg, iter, ifs, 0⟩, ⟨tg1, iter1, ifs1, 0⟩] scope pos) (some (.Name y py)) spos.line X.env = pure true := by rfl) (hs : ∀ x, foldedSetIterable iter X.env x = pure x := by intro _; rfl) (hs1 : ∀ env x, foldedSetIterable iter1 env x = pure x := by intro _ _; rfl) :
    SS X Y (.Assign [.Name y py] (.ListComp elt [⟨tg, iter, ifs, 0⟩, ⟨tg1, iter1, ifs1, 0⟩] scope pos) spos) (evAsg (evMk mk (evComp2 (own.map (·.2)) fi ftg ft vs1 fi1 ftg1 ft1 fe)) (tgN i)) := PS.imp (ps_setLc2 (g := tlH X.K Y.q ρ ws ftg) (tt := tlT X.K Y.q ft) (te := tl X.K Y.q fe) (wi1 := tlI X.K Y.q ρ1 fi1) (g1 := tlH X.K Y.q ρ1 ws1 ftg1) (tt1 := tlT X.K Y.q ft1) hc hN hy hyl hsw hi ok hv hg ht hi1 hg1 ht1 he hs hs1) fun Dn σ H ⟨ι, δ, S, k, sr, g, q⟩ =>
  lc2_lift hmk hw hw1 ⟨ι, δ, S, k, sr, g, Post.seq q fun d ι1 H1 S1 k1 g1 q1 => fun v rv => q1 ι1 H1 (Keep.refl _ _) g1 _ ((sr.mono k1).set rv i)⟩
end
end DL
end
section
set_option Elab.async false
set_option linter.all false
set_option maxRecDepth 100000
set_option maxHeartbeats 4000000
/-! the data layer 10: defs and calls -/
namespace DL
open PySem PySem.Spec PyProof.Rows L2

/-! ### trees whose references are below k -/
mutual
def clD (k : Nat) : D → Bool
  | .tup xs => clDs k xs
  | .lst xs => clDs k xs
  | .ref n => decide (n < k)
  | .exn _ d => clD k d
  | _ => true
def clDs (k : Nat) : List D → Bool
  | [] => true
  | d :: ds => clD k d && clDs k ds
end
def clM (k : Nat) : M → Bool
  | .lst ds => clDs k ds
  | .dct kvs => kvs.all fun p => clD k p.2
theorem clDs_all {k : Nat} : ∀ {ds : List D}, clDs k ds = true ↔ ∀ d ∈ ds, clD k d = true
  | [] => by simp [clDs]
  | d :: ds => by simp [clDs, clDs_all (ds := ds)]
def Ix.gc (ι : Ix) (k : Nat) : Ix := ⟨ι.v.take k, fun b => ι.h b ∨ b ∈ ι.v.drop k, ι.x⟩
section
variable {K : PySem.W.Frag} {ι ι' ι1 ι2 : Ix} {H H' H1 H2 : Hp} {a p : Addr} {xs : List V} {S S' : Store} {k : Nat}
theorem gc_mem {b : Addr} : b ∈ ι.gc k ↔ b ∈ ι := by
  show (b ∈ ι.v.take k ∨ ι.h b ∨ b ∈ ι.v.drop k) ↔ (b ∈ ι.v ∨ ι.h b)
  have e : b ∈ ι.v ↔ b ∈ ι.v.take k ∨ b ∈ ι.v.drop k := by
    rw [← List.mem_append, List.take_append_drop]
  rw [e]
  constructor
  · rintro (h | h | h)
    · exact .inl (.inl h)
    · exact .inr h
    · exact .inl (.inr h)
  · rintro ((h | h) | h)
    · exact .inl h
    · exact .inr (.inr h)
    · exact .inr (.inl h)
mutual
theorem Rep.gc : ∀ (d : D) (v : V), clD k d = true → Rep K ι H d v → Rep K (ι.gc k) H d v
  | .non, _, _, h => by cases h; exact .non
  | .bl b, _, _, h => by cases h; exact .bl b
  | .int i, _, _, h => by cases h; exact .int i
  | .str x, _, _, h => by cases h; exact .str x
  | .tup ds, _, c, h => by
    cases h with
    | tup hs hr => exact .tup (hs.elim (fun z => .inl ⟨fun q => z.1 (gc_mem.mp q), z.2⟩) .inr) (Reps.gc ds _ c hr)
  | .lst ds, _, c, h => by
    cases h with
    | lst hs hr => exact .lst (hs.elim (fun z => .inl ⟨fun q => z.1 (gc_mem.mp q), z.2⟩) .inr) (Reps.gc ds _ c hr)
  | .ref n, _, c, h => by
    have c' : decide (n < k) = true := c
    cases h with
    | ref hn =>
      refine .ref ?_
      rw [Ix.get_def] at hn ⊢
      show (ι.v.take k)[n]? = _
      rw [List.getElem?_take_of_lt (of_decide_eq_true c')]
      exact hn
  | .exn e d, _, c, h => by
    cases h with
    | exn h1 h2 h3 h4 => exact .exn h1 (fun q => h2 (gc_mem.mp q)) h3 (Rep.gc d _ c h4)
theorem Reps.gc : ∀ (ds : List D) (vs : List V), clDs k ds = true → Reps K ι H ds vs → Reps K (ι.gc k) H ds vs
  | [], _, _, h => by cases h; exact .nil
  | d :: ds, _, c, h => by
    have c' : (clD k d && clDs k ds) = true := c
    rw [Bool.and_eq_true] at c'
    cases h with
    | cons h1 h2 => exact .cons (Rep.gc d _ c'.1 h1) (Reps.gc ds _ c'.2 h2)
end
mutual
theorem Rep.cl : ∀ (d : D) (v : V), Rep K ι H d v → clD ι.length d = true
  | .non, _, _ => rfl
  | .bl b, _, _ => rfl
  | .int i, _, _ => rfl
  | .str x, _, _ => rfl
  | .tup ds, _, h => by
    cases h with
    | tup hs hr => exact Reps.cl ds _ hr
  | .lst ds, _, h => by
    cases h with
    | lst hs hr => exact Reps.cl ds _ hr
  | .ref n, _, h => by
    cases h with
    | ref hn => exact decide_eq_true (List.getElem?_eq_some_iff.mp hn).1
  | .exn e d, _, h => by
    cases h with
    | exn h1 h2 h3 h4 => exact Rep.cl d _ h4
theorem Reps.cl : ∀ (ds : List D) (vs : List V), Reps K ι H ds vs → clDs ι.length ds = true
  | [], _, _ => rfl
  | d :: ds, _, h => by
    cases h with
    | cons h1 h2 =>
      show (clD ι.length d && clDs ι.length ds) = true
      rw [Rep.cl d _ h1, Reps.cl ds _ h2]
      rfl
end
theorem clDs_ints : ∀ ns : List Int, clDs k (ns.map D.int) = true
  | [] => rfl
  | n :: ns => by
    show (clD k (.int n) && clDs k (ns.map D.int)) = true
    rw [clDs_ints ns]
    rfl
theorem cl_keyD (q : DKx.PK) : clD k (keyD q) = true := by
  show (clD k (.int q.1) && (clD k (.tup (q.2.map D.int)) && true)) = true
  rw [show clD k (.tup (q.2.map D.int)) = clDs k (q.2.map D.int) from rfl, clDs_ints]
  rfl
theorem Paired.memL {α β : Type} {F : α → β → Prop} : ∀ {l₁ : List α} {l₂ : List β}, Paired F l₁ l₂ → ∀ a ∈ l₁, ∃ b, F a b
  | _, _, .nil, a, h => nomatch h
  | _, _, .cons r t, a, h => by
    rcases List.mem_cons.mp h with e | e
    · rw [e]; exact ⟨_, r⟩
    · exact Paired.memL t a e
theorem Paired.mapM {α β : Type} {F G : α → β → Prop} : ∀ {l₁ : List α} {l₂ : List β}, Paired F l₁ l₂ → (∀ a ∈ l₁, ∀ b, F a b → G a b) → Paired G l₁ l₂
  | _, _, .nil, _ => .nil
  | _, _, .cons r t, f => .cons (f _ (List.mem_cons_self ..) _ r) (Paired.mapM t fun a h b z => f a (List.mem_cons_of_mem _ h) b z)
theorem RepM.gc {m : M} (c : clM k m = true) (r : RepM K ι H a m) : RepM K (ι.gc k) H a m := by
  cases m with
  | lst ds =>
    obtain ⟨xs, q, s⟩ := r
    exact ⟨xs, q, Reps.gc _ _ c s⟩
  | dct kvs =>
    obtain ⟨r1, r2, r3, xs, q, s⟩ := r
    refine ⟨r1, r2, r3, xs, q, Paired.mapM s fun p hp x z => ?_⟩
    obtain ⟨z1, z2, v, z3, z4⟩ := z
    exact ⟨z1, Rep.gc _ _ (cl_keyD _) z2, v, Rep.gc _ _ (List.all_eq_true.mp c p hp) z3, z4⟩
theorem RepM.cl {m : M} (r : RepM K ι H a m) : clM ι.length m = true := by
  cases m with
  | lst ds =>
    obtain ⟨xs, q, s⟩ := r
    exact Reps.cl _ _ s
  | dct kvs =>
    obtain ⟨r1, r2, r3, xs, q, s⟩ := r
    refine List.all_eq_true.mpr fun p hp => ?_
    obtain ⟨x, z1, z2, v, z3, z4⟩ := Paired.memL s p hp
    exact Rep.cl _ _ z3
/-- what a def leaves behind -/
def gcOk (S : Store) (d : D) (S1 : Store) : Prop := clD S.length d = true ∧ ∀ n m, n < S.length → S1[n]? = some m → S[n]? = some m ∨ clM S.length m = true
theorem keep_gc (k : Keep ι H ι1 H1) : Keep ι H (ι1.gc ι.length) H1 := by
  obtain ⟨t, e⟩ := k.pre
  refine ⟨⟨[], ?_⟩, fun b hb => .inl (k.hid b hb), fun b hb => k.new b (gc_mem.mp hb), k.old, k.hst, k.cur⟩
  show ι1.v.take ι.v.length = _
  rw [e, List.take_left, List.append_nil]
theorem good_gc {d : D} (g0 : Good K ι H S) (k : Keep ι H ι1 H1) (g : Good K ι1 H1 S') (c : gcOk S d S') : Good K (ι1.gc ι.length) H1 (S'.take S.length) := by
  have hl : ι.length = S.length := g0.len
  have hle : ι.length ≤ ι1.v.length := k.len
  refine ⟨?_, g.nd.sublist (List.take_sublist _ _), fun b hb hh => ?_, fun b hb => ?_, fun n m a h1 h2 => ?_⟩
  · have g1 : ι1.v.length = S'.length := g.len
    show (ι1.v.take ι.length).length = _
    rw [List.length_take, List.length_take, hl, g1]
  · rcases hh with hh | hh
    · exact g.dj b (List.mem_of_mem_take hb) hh
    · have nd := g.nd
      rw [← List.take_append_drop ι.length ι1.v] at nd
      exact (List.nodup_append.mp nd).2.2 b hb b hh rfl
  · rcases hb with q | q
    · exact g.tr b q
    · exact g.tracked (.inl (List.mem_of_mem_drop q))
  · have h2 : (ι1.v.take ι.length)[n]? = some a := h2
    have hn : n < ι.length := by
      have := (List.getElem?_eq_some_iff.mp h2).1
      rw [List.length_take] at this
      omega
    rw [List.getElem?_take_of_lt hn] at h2
    rw [List.getElem?_take_of_lt (by omega)] at h1
    have r := g.obj n m a h1 h2
    refine r.gc ?_
    rcases c.2 n m (by omega) h1 with q | q
    · have ha : ι[n]? = some ι.v[n] := List.getElem?_eq_getElem hn
      exact (g0.obj n m _ q ha).cl
    · rw [hl]; exact q
end

section
variable {K : PySem.W.Frag} {ι ι1 : Ix} {H H1 : Hp} {a : Addr} {S S1 : Store} {n : Nat}
theorem new_at (k : Keep ι H ι1 H1) (g1 : Good K ι1 H1 S1) (hn : ι.length ≤ n) (ha : ι1[n]? = some a) : H a = none ∧ a ∉ ι ∧ a ∈ ι1.v.drop ι.length := by
  rw [Ix.get_def] at ha
  have hd : a ∈ ι1.v.drop ι.length := by
    have e : (ι1.v.drop ι.length)[n - ι.length]? = some a := by
      rw [List.getElem?_drop, show ι.length + (n - ι.length) = n by omega]
      exact ha
    exact List.mem_of_getElem? e
  have hv : a ∈ ι1.v := List.mem_of_getElem? ha
  obtain ⟨t, e⟩ := k.pre
  have ht : ι1.v.take ι.length = ι.v := by rw [e]; exact List.take_left
  have nin : a ∉ ι := by
    rintro (q | q)
    · have nd := g1.nd
      rw [← List.take_append_drop ι.length ι1.v] at nd
      exact (List.nodup_append.mp nd).2.2 a (by rw [ht]; exact q) a hd rfl
    · exact g1.dj a hv (k.hid a q)
  exact ⟨(k.new a (.inl hv)).resolve_left nin, nin, hd⟩
end

/-! ### exceptions -/
def XRep (K : PySem.W.Frag) (mg : Str → Option Value) (ι : Ix) (H : Hp) (c : Str) (d : D) (cls : Value) (dd : Option Addr) : Prop :=
  ∃ C a v, mg c = some (.ref C) ∧ cls = .ref C ∧ dd = some a ∧ a ∉ ι ∧ H a = some (.xd [("what", v)]) ∧ Rep K ι H d v
def exE (K : PySem.W.Frag) (mg : Str → Option Value) (E : XK) : Str → D → Ix → Hp → Store → Prop := fun c d ι H _ => ∀ cls dd, XRep K mg ι H c d cls dd → E cls dd H
theorem XRep.gc {K : PySem.W.Frag} {mg : Str → Option Value} {ι : Ix} {H : Hp} {c : Str} {d : D} {cls : Value} {dd : Option Addr} {k : Nat} (hc : clD k d = true) (x : XRep K mg ι H c d cls dd) : XRep K mg (ι.gc k) H c d cls dd := by
  obtain ⟨C, a, v, h1, h2, h3, h4, h5, h6⟩ := x
  exact ⟨C, a, v, h1, h2, h3, fun z => h4 (gc_mem.mp z), h5, Rep.gc _ _ hc h6⟩
structure Air (X : Cx) (Y : Yc) : Prop where
  ex : ∃ E0 : XK, Takes X (fun cls d _ H => E0 cls d H) ∧ ∀ c d ι H S, Keep Y.ι0 Y.H0 ι H → Good X.K ι H S → Y.EX c d ι H S → exE X.K X.mg E0 c d ι H S
theorem air_blk {X : Cx} {Y : Yc} : Air X Y.q := ⟨fun _ _ _ => False, takes0, fun _ _ _ _ _ _ _ h => h.elim⟩

/-! ### defs -/
/-- what comes back: a thing that has stood | a new list that will not change | a new list -/
inductive Md where
  | pl | fz | nw
open Classical in
noncomputable def gcV (S : Store) (d : D) (S1 : Store) : Md → R D
  | .pl => if gcOk S d S1 then .ok d (S1.take S.length) else .bad
  | .fz => match d with
    | .ref n => match S1[n]? with
      | some (.lst ds) => if S.length ≤ n ∧ gcOk S (.lst ds) S1 then .ok (.lst ds) (S1.take S.length) else .bad
      | _ => .bad
    | d => if gcOk S d S1 then .ok d (S1.take S.length) else .bad
  | .nw => match d with
    | .ref n => match S1[n]? with
      | some (.lst ds) => if S.length ≤ n ∧ gcOk S (.lst ds) S1 then .ok (.ref S.length) (S1.take S.length ++ [.lst ds]) else .bad
      | _ => .bad
    | _ => .bad
open Classical in
noncomputable def gcR (md : Md) (S : Store) : R D → R D
  | .ok d S1 => gcV S d S1 md
  | .exc c d S1 => if gcOk S d S1 then .exc c d (S1.take S.length) else .bad
  | .bad => .bad
theorem gcV_post {K : PySem.W.Frag} {EX : Str → D → Ix → Hp → Store → Prop} {ι ι1 : Ix} {H H1 : Hp} {S S1 : Store} {Q : VK} {d : D} {md : Md} (g0 : Good K ι H S) (q : Post K EX ι H (pE K Q) (gcV S d S1 md)) (k : Keep ι H ι1 H1) (g1 : Good K ι1 H1 S1) (v : V) (rv : Rep K ι1 H1 d v) : Q v H1 := by
  have hl : ι.length = S.length := g0.len
  cases md with
  | pl =>
    simp only [gcV] at q
    split at q
    · rename_i hc
      refine q _ _ (keep_gc k) (good_gc g0 k g1 hc) v (Rep.gc (k := ι.length) _ _ ?_ rv)
      rw [hl]; exact hc.1
    · exact q.elim
  | fz =>
    simp only [gcV] at q
    split at q
    · rename_i n
      split at q
      · rename_i ds hS
        split at q
        · rename_i hc
          cases rv with
          | @ref _ a ha =>
            obtain ⟨h1, h2, h3⟩ := new_at k g1 (by rw [hl]; exact hc.1) ha
            obtain ⟨xs, hx, hr⟩ := g1.lst_at ha hS
            have gg := good_gc g0 k g1 hc.2
            have hh : (ι1.gc ι.length).h a := .inr h3
            have hcl : clDs ι.length ds = true := by rw [hl]; exact hc.2.1
            refine q ((ι1.gc ι.length).bare a) H1 (keep_bare (keep_gc k) h1 h2) (good_bare gg) _ (.lst (.inl ⟨fun z => z.elim (fun z => gg.dj a z hh) fun z => z.2 rfl, .inl hx⟩) (Reps.less less_bare _ _ (Reps.gc _ _ hcl hr)))
        · exact q.elim
      · exact q.elim
    · split at q
      · rename_i hc
        refine q _ _ (keep_gc k) (good_gc g0 k g1 hc) v (Rep.gc (k := ι.length) _ _ ?_ rv)
        rw [hl]; exact hc.1
      · exact q.elim
  | nw =>
    simp only [gcV] at q
    split at q
    · rename_i n
      split at q
      · rename_i ds hS
        split at q
        · rename_i hc
          cases rv with
          | @ref _ a ha =>
            obtain ⟨h1, h2, h3⟩ := new_at k g1 (by rw [hl]; exact hc.1) ha
            obtain ⟨xs, hx, hr⟩ := g1.lst_at ha hS
            have gg := good_gc g0 k g1 hc.2
            have hh : (ι1.gc ι.length).h a := .inr h3
            have hcl : clDs ι.length ds = true := by rw [hl]; exact hc.2.1
            have lk : ((ι1.gc ι.length).bare a).length = S.length := by
              have z := gg.len
              rw [List.length_take] at z
              have z1 : ι1.v.length = S1.length := g1.len
              have z2 := k.len
              unfold Ix.length at z2
              show (ι1.gc ι.length).length = _
              rw [z]
              have z3 : ι.v.length = S.length := hl
              omega
            refine q ((ι1.gc ι.length).bare a ++ [a]) H1 (keep_made2 (keep_gc k) h1 h2 hh) (good_made gg hh hx (Reps.gc _ _ hcl hr)) _ (.ref (Ix.get_new lk))
        · exact q.elim
      · exact q.elim
    · exact q.elim
def startD (nN : Nat) (ds : List D) : DEnv := ds.map some ++ List.replicate (nN - ds.length) none
noncomputable def fnR (md : Md) (np nN : Nat) (body : DEnv → Store → R Fl) : List D → Store → R D := fun ds S => if ds.length = np then gcR md S ((body (startD nN ds) S).bind fun fl S1 => match fl with
    | .nx _ => .ok .non S1
    | .rt d => .ok d S1
    | _ => .bad) else .bad
def liftSp (K : PySem.W.Frag) (mg : Str → Option Value) (c : List D → Store → R D) : Sp := fun vs H Q E => ∃ ι S ds, Good K ι H S ∧ Reps K ι H ds vs ∧ Post K (exE K mg E) ι H (pE K Q) (c ds S)
structure Has (P : Program) (w : World) (K : PySem.W.Frag) (mg : Str → Option Value) (base : Heap) (k : Nat) (x : Str) (c : List D → Store → R D) : Prop where
  ex : ∃ f fd ps, FnOk P w K mg base (L2.CX P w) k f fd ps (liftSp K mg c) ∧ mg x = some (.ref f) ∧ PySem.W.keepIn K (.ref f) = true ∧ Binds K fd ps []
theorem Has.up {P : Program} {w : World} {K : PySem.W.Frag} {mg : Str → Option Value} {base : Heap} {k j : Nat} {x : Str} {c : List D → Store → R D} (h : Has P w K mg base k x c) (hk : k ≤ j) : Has P w K mg base j x c := by
  obtain ⟨f, fd, ps, F, h1, h2, h3⟩ := h.ex
  exact ⟨f, fd, ps, F.mono hk, h1, h2, h3⟩
theorem srep_start {K : PySem.W.Frag} {ι : Ix} {H : Hp} {N : List Str} {ds : List D} {vs : List V} (r : Reps K ι H ds vs) : SRep K ι H (L2.start N vs) (startD N.length ds) := by
  unfold L2.start startD
  refine ⟨by simp [r.length], fun i d e => ?_⟩
  by_cases hi : i < ds.length
  · rw [List.getElem?_append_left (by simpa using hi), List.getElem?_map] at e
    obtain ⟨d', e1, e2⟩ := Option.map_eq_some_iff.mp e
    cases e2
    obtain ⟨v, hv, rv⟩ := r.get e1
    refine ⟨v, ?_, rv⟩
    rw [List.getElem?_append_left (by simpa [← r.length] using hi), List.getElem?_map, hv]
    rfl
  · rw [List.getElem?_append_right (by simpa using hi), List.getElem?_replicate] at e
    split at e
    · cases e
    · cases e
section
variable {P : Program} {w : World} {K : PySem.W.Frag} {mg : Str → Option Value} {base : Heap}
/-- the body's context -/
abbrev BX (P : Program) (w : World) (K : PySem.W.Frag) (mg : Str → Option Value) (base : Heap) (N : List Str) (x : Str) (scope : Scope) (f : Addr) (cdv : Value) (A : Around) (outer : List Env) (s : Shared) (H : Hp) (E : XK) : Cx := cxOf (L2.CX P w) P w K mg base N x scope f cdv A outer s H E
theorem air_body {N : List Str} {x : Str} {scope : Scope} {f : Addr} {cdv : Value} {A : Around} {outer : List Env} {s : Shared} {H : Hp} {E : XK} {ι0 : Ix} {H0 : Hp} : Air (BX P w K mg base N x scope f cdv A outer s H E) ⟨ι0, H0, exE K mg E⟩ :=
  ⟨E, takes_of rfl rfl rfl rfl, fun _ _ _ _ _ _ _ h => h⟩
theorem body_lift {md : Md} {np : Nat} {N : List Str} {body : DEnv → Store → R Fl} {ι : Ix} {H : Hp} {S : Store} {ds : List D} {vs : List V} {Q : VK} {E : XK} (g : Good K ι H S) (r : Reps K ι H ds vs) (q : Post K (exE K mg E) ι H (pE K Q) (fnR md np N.length body ds S)) :
    tlS K ⟨ι, H, exE K mg E⟩ body { nx := fun _ H' => Q .non H', rt := Q } (L2.start N vs) H := by
  refine ⟨ι, startD N.length ds, S, Keep.refl _ _, srep_start r, g, ?_⟩
  unfold fnR at q
  split at q
  · have hl : ι.length = S.length := g.len
    cases e : body (startD N.length ds) S with
    | bad => rw [e] at q; exact q.elim
    | exc c d S1 =>
      rw [e] at q
      simp only [bind_exc, gcR] at q
      split at q
      · rename_i hc
        intro ι1 H1 k1 g1 cls dd x
        have q' := q _ _ (keep_gc k1) (good_gc g k1 g1 hc)
        refine q' cls dd (x.gc (k := ι.length) ?_)
        rw [hl]; exact hc.1
      · exact q.elim
    | ok fl S1 =>
      rw [e, bind_ok] at q
      cases fl with
      | nx δ =>
        simp only [gcR] at q
        exact fun ι1 H1 k1 g1 σ1 _ => gcV_post g q k1 g1 _ .non
      | rt d =>
        simp only [gcR] at q
        exact fun ι1 H1 k1 g1 v rv => gcV_post g q k1 g1 v rv
      | bk δ => exact q.elim
      | ct δ => exact q.elim
  · exact q.elim
/-- THE RULE for a def -/
theorem fnok_of (md : Md) {np : Nat} {x : Str} {params : Arguments} {stmts : List Stmt} {scope : Scope} {f : Addr} {fd : FuncData} {N ps : List Str} {k : Nat} {body : DEnv → Store → R Fl} (F : FunD K x x params stmts scope [] [] f fd) (S : FnScope N ps scope) (hn : ps.length = np)
    (h : ∀ (cdv : Value) (A : Around) (outer : List Env) (s : Shared) (H : Hp) (E : XK) (Y : Yc), Room k (BX P w K mg base N x scope f cdv A outer s H E).A → Air (BX P w K mg base N x scope f cdv A outer s H E) Y → SB (BX P w K mg base N x scope f cdv A outer s H E) Y stmts body) :
    FnOk P w K mg base (L2.CX P w) (k + 1) f fd ps (liftSp K mg (fnR md np N.length body)) := by
  refine F.ok S (fun vs H Q E hsp => ?_) (fun cdv A outer s H vs Q E hr hsp => ?_)
  · obtain ⟨ι, S, ds, g, r, q⟩ := hsp
    rw [← r.length, hn]
    unfold fnR at q
    split at q
    · assumption
    · exact q.elim
  · obtain ⟨ι, S, ds, g, r, q⟩ := hsp
    exact ⟨_, h cdv A outer s H E ⟨ι, H, exE K mg E⟩ hr air_body, body_lift g r q⟩
theorem has_of (md : Md) {np : Nat} {x : Str} {params : Arguments} {stmts : List Stmt} {scope : Scope} {f : Addr} {fd : FuncData} {N ps : List Str} {k : Nat} {body : DEnv → Store → R Fl} (F : FunD K x x params stmts scope [] [] f fd) (hm : mg x = some (.ref f)) (S : FnScope N ps scope) (hn : ps.length = np)
    (hb : ∀ (kV doc pm : Value) (an : Option Addr) (cdv ct : Value) (us : List Value), us.length = ps.length → bindArgs (PySem.W.fnOf x x params stmts scope .none kV doc pm an cdv ct) ⟨us, []⟩ = pure (ps.zip us))
    (h : ∀ (cdv : Value) (A : Around) (outer : List Env) (s : Shared) (H : Hp) (E : XK) (Y : Yc), Room k (BX P w K mg base N x scope f cdv A outer s H E).A → Air (BX P w K mg base N x scope f cdv A outer s H E) Y → SB (BX P w K mg base N x scope f cdv A outer s H E) Y stmts body) :
    Has P w K mg base (k + 1) x (fnR md np N.length body) :=
  ⟨f, fd, ps, fnok_of md F S hn h, hm, F.kp, F.bindsN hb⟩
/-- a def that is never run -/
theorem has_never {x : Str} {params : Arguments} {stmts : List Stmt} {scope : Scope} {f : Addr} {fd : FuncData} {ps : List Str} {k : Nat} (F : FunD K x x params stmts scope [] [] f fd) (hm : mg x = some (.ref f))
    (hb : ∀ (kV doc pm : Value) (an : Option Addr) (cdv ct : Value) (us : List Value), us.length = ps.length → bindArgs (PySem.W.fnOf x x params stmts scope .none kV doc pm an cdv ct) ⟨us, []⟩ = pure (ps.zip us)) :
    Has P w K mg base k x (fun _ _ => .bad) :=
  ⟨f, fd, ps, ⟨fun vs H Q E ⟨_, _, _, _, _, q⟩ => q.elim, fun _ _ _ _ _ _ _ _ _ _ _ _ _ ⟨_, _, _, _, _, q⟩ => q.elim⟩, hm, F.kp, F.bindsN hb⟩
end
/-! ### calls -/
def evCall (c : List D → Store → R D) (fr : DEnv → Store → R (List D)) : DEnv → Store → R D := fun δ S => (fr δ S).bind fun ds S1 => c ds S1
section
variable {X : Cx} {Y : Yc} {x : Str} {k j : Nat} {p pos : Pos} {e : Expr} {es : List Expr} {c : List D → Store → R D} {fr : DEnv → Store → R (List D)}
theorem Post.exw {α : Type} {K : PySem.W.Frag} {EX EX' : Str → D → Ix → Hp → Store → Prop} {ι : Ix} {H : Hp} {P : α → Ix → Hp → Store → Prop} {r : R α} (h : Post K EX ι H P r) (i : ∀ c d ι' H' S, Keep ι H ι' H' → Good K ι' H' S → EX c d ι' H' S → EX' c d ι' H' S) : Post K EX' ι H P r := by
  cases r with
  | ok a S => exact h
  | exc c d S => exact fun ι' H' k g => i c d ι' H' S k g (h ι' H' k g)
  | bad => exact h
theorem se_call (h : Has X.prog X.w X.K X.mg X.base k x c) (hr : Room j X.A) (hk : k ≤ j) (air : Air X Y) (hg : Gl X x) (ha : SA X Y (e :: es) fr) (hdb : (x == ("__debug__" : Str)) = false := by decide)
    (he : starEach (e :: es) X.env = (false, eval e X.env) :: starEach es X.env := by rfl) (hpl : (backTo pos (starEach es X.env)).any (·.1) = false := by rfl) : SE X Y (.Call (.Name x p) (e :: es) [] pos) (evCall c fr) := by
  obtain ⟨f, fd, ps, F, h1, h2, h3⟩ := h.ex
  obtain ⟨E0, tk, hE⟩ := air.ex
  refine PE.imp (pe_call F (hr.mono hk) hg h1 h2 h3 .nil (passes_call tk fun _ _ _ _ z => z) ha hdb he hpl) fun σ H Q ⟨ι, δ, S, k0, sr, g, q⟩ => ?_
  refine ⟨ι, δ, S, k0, sr, g, Post.seq q fun ds ι1 H1 S1 k1 g1 q1 => fun vs rvs => ?_⟩
  show liftSp X.K X.mg c (vs ++ []) H1 Q E0
  rw [List.append_nil]
  exact ⟨ι1, S1, ds, g1, rvs, q1.exw fun c d ι2 H2 S2 k2 g2 z => hE c d ι2 H2 S2 ((k0.trans k1).trans k2) g2 z⟩
end
end DL
end
section
set_option Elab.async false
set_option linter.all false
set_option maxRecDepth 100000
set_option maxHeartbeats 4000000
/-! the data layer 11: dicts; short words -/
namespace DL
open PySem PySem.Spec PyProof.Rows L2

def keyOf : D → Option DKx.PK
  | .tup [.int i, .tup ds] => (intsOf ds).map fun ns => (i, ns)
  | _ => none
theorem keyOf_keyD (k : DKx.PK) : keyOf (keyD k) = some k := by
  unfold keyD keyOf
  simp [intsOf_map]
theorem keyD_of {d : D} {k : DKx.PK} (h : keyOf d = some k) : d = keyD k := by
  unfold keyOf at h
  split at h
  · rename_i i ds
    obtain ⟨ns, e, rfl⟩ := Option.map_eq_some_iff.mp h
    rw [intsOf_eq e]
    rfl
  · cases h
section
variable {X : Cx} {Y : Yc} {pins : List (Addr × Obj)} {s : Shared} {σ : L2.St} {H : Hp} {Q : VK} {ι : Ix} {S : Store}
theorem items_are {ns : List Int} {us : List Value} (h : Vals (ns.map V.int) us) : ItemsAre (intKind X.prog X.w) ns us := by
  induction ns generalizing us with
  | nil => cases h; exact .nil
  | cons n ns ih =>
    cases h with
    | cons h1 h2 =>
      obtain ⟨t, rfl⟩ := h1
      exact .cons (by simp [intKind, Value.isInt]) (ih h2)
theorem pk_of (I : Inv X pins σ H s) {k : DKx.PK} {a : Addr} (r : Rep X.K ι H (keyD k) (.ref a)) : DKx.IsPK X.prog X.w s.heap k a := by
  unfold keyD at r
  cases r with
  | @tup _ xs _ hs hr =>
    obtain ⟨its, rv, ⟨o, ho, hc, n, hd⟩, _⟩ := I.tuple hs.sq
    obtain ⟨v1, v2, rfl, r1, r2⟩ := hr.two
    cases r1
    cases r2 with
    | @tup b ys _ hs2 hr2 =>
      obtain ⟨its2, rv2, ⟨o2, ho2, hc2, n2, hd2⟩, _⟩ := I.tuple hs2.sq
      have e := hr2.ints
      subst e
      rcases rv with _ | ⟨q1, _ | ⟨q2, _ | ⟨_, _⟩⟩⟩
      obtain ⟨t, rfl⟩ := q1
      cases q2
      exact ⟨o, _, n, _, b, ho, hc, hd, rfl, by simp [Value.isInt], o2, _, n2, ho2, hc2, hd2, by simpa using items_are rv2⟩
theorem dxt_at {P : Program} {w : World} {h : Heap} {p : Addr} {xs : List (DKx.PK × Addr × Value)} (hok : HOk P w H h) (e : H p = some (dxt p xs)) : ∃ (o : Obj) (es : Array DictEntry) (ep : Nat), h.get? p = some o ∧ o.ExactDict ∧ o.data = .dict es ep ∧ es.toList = xs.map entPK := by
  have x : ObjOk P w H h p (.ext fun h => ∃ (o : Obj) (es : Array DictEntry) (ep : Nat), h.get? p = some o ∧ o.ExactDict ∧ o.data = .dict es ep ∧ es.toList = xs.map entPK) := hok p _ e
  exact x.1
theorem dxt_ok {P : Program} {w : World} {h : Heap} {p : Addr} {xs : List (DKx.PK × Addr × Value)} (h1 : ∃ (o : Obj) (es : Array DictEntry) (ep : Nat), h.get? p = some o ∧ o.ExactDict ∧ o.data = .dict es ep ∧ es.toList = xs.map entPK) : ObjOk P w H h p (dxt p xs) := by
  obtain ⟨o, es, ep, e, r⟩ := h1
  exact ⟨⟨o, es, ep, e, r⟩, ⟨o, e⟩, fun g1 g2 ⟨o', es', ep', e', r'⟩ k => ⟨o', es', ep', k _ e', r'⟩⟩
theorem Paired.keys {K : PySem.W.Frag} : ∀ {kvs : List (DKx.PK × D)} {xs : List (DKx.PK × Addr × Value)}, Paired (Ent K ι H) kvs xs → kvs.map (·.1) = xs.map (·.1)
  | _, _, .nil => rfl
  | _, _, .cons r t => by
    rw [List.map_cons, List.map_cons, Paired.keys t, r.1]
theorem Paired.memR {α β : Type} {F : α → β → Prop} : ∀ {l₁ : List α} {l₂ : List β}, Paired F l₁ l₂ → ∀ b ∈ l₂, ∃ a, F a b
  | _, _, .nil, a, h => nomatch h
  | _, _, .cons r t, a, h => by
    rcases List.mem_cons.mp h with e | e
    · rw [e]; exact ⟨_, r⟩
    · exact Paired.memR t a e
theorem Paired.snoc {α β : Type} {F : α → β → Prop} : ∀ {l₁ : List α} {l₂ : List β} {a : α} {b : β}, Paired F l₁ l₂ → F a b → Paired F (l₁ ++ [a]) (l₂ ++ [b])
  | _, _, _, _, .nil, r => .cons r .nil
  | _, _, _, _, .cons r t, q => .cons r (Paired.snoc t q)
theorem dict_at (I : Inv X pins σ H s) (g : Good X.K ι H S) {n : Nat} {p : Addr} {kvs : List (DKx.PK × D)} (hp : ι[n]? = some p) (hS : S[n]? = some (.dct kvs)) :
    (p == sysModules) = false ∧ kvs.length ≤ sizeLine ∧ ∃ xs, H p = some (dxt p xs) ∧ Paired (Ent X.K ι H) kvs xs ∧ s.heap.DictOfH (DKx.pkKind X.prog X.w) p xs := by
  obtain ⟨r1, r2, r3, xs, q, r⟩ := g.obj n _ p hS hp
  obtain ⟨o, es, ep, e1, e2, e3, e4⟩ := dxt_at I.hok q
  refine ⟨r1, r2, xs, q, r, o, es, ep, e1, e2, e3, e4, fun x hx => ?_, by rw [← Paired.keys r]; exact r3⟩
  obtain ⟨kv, z1, z2, _⟩ := Paired.memR r x hx
  rw [← z1]
  exact pk_of I z2
theorem atKey_mem {xs : List (DKx.PK × Addr × Value)} {k : DKx.PK} : (atKey xs k).isSome = decide (k ∈ xs.map (·.1)) := by
  induction xs with
  | nil => simp [atKey]
  | cons x xs ih =>
    unfold atKey at ih ⊢
    rw [List.find?_cons]
    by_cases h : x.1 = k
    · simp [h]
    · simp only [h, decide_false, List.map_cons, List.mem_cons]
      rw [ih]
      have h' : ¬ k = x.1 := fun e => h e.symm
      simp [h']
def inDc (neg : Bool) : D → D → Store → Option (D × Store)
  | k, .ref n, S => match S[n]?, keyOf k with
    | some (.dct kvs), some q => some (.bl (neg ^^ decide (q ∈ kvs.map (·.1))), S)
    | _, _ => none
  | _, _, _ => none
theorem op_inDc (hu : X.A.units + 64 < cLine) : OpS X (compareOp .In) (inDc false) := by
  intro pins s σ H x y v u Q I rv ru h
  obtain ⟨ι, S, d1, d2, d, S', g, r1, r2, e, q⟩ := h
  unfold inDc at e
  split at e
  · split at e
    · rename_i n _ kvs k hS hk
      simp only [Option.some.injEq, Prod.mk.injEq] at e
      obtain ⟨rfl, rfl⟩ := e
      have e1 := keyD_of hk
      subst e1
      cases r2 with
      | @ref _ p hp =>
        obtain ⟨z1, z2, xs, z3, z4, z5⟩ := dict_at I g hp hS
        have hx : ∃ a, x = .ref a := by
          cases r1 with
          | tup _ _ => exact ⟨_, rfl⟩
        obtain ⟨a, rfl⟩ := hx
        cases (show v = Value.ref a from rv)
        cases (show u = Value.ref p from ru)
        have hr : (DKx.pkKind X.prog X.w).room X.A.in1 := by
          show X.A.units + _ + 8 < cLine
          omega
        refine wpAny_in_heap hr (pk_of I r1) z1 z5 ?_
        rw [atKey_mem, ← Paired.keys z4]
        rw [Bool.false_xor] at q
        have qq : Q (.bl (decide (k ∈ kvs.map (·.1)))) H := q0 g q (.bl _)
        refine ⟨.bl (decide (k ∈ kvs.map (·.1))), H, I.tok _, ?_, qq⟩
        show Value.bool _ = Value.bool _
        rfl
    · cases e
  · cases e
theorem op_notInDc (hu : X.A.units + 64 < cLine) : OpS X (compareOp .NotIn) (inDc true) := by
  intro pins s σ H x y v u Q I rv ru h
  obtain ⟨ι, S, d1, d2, d, S', g, r1, r2, e, q⟩ := h
  unfold inDc at e
  split at e
  · split at e
    · rename_i n _ kvs k hS hk
      simp only [Option.some.injEq, Prod.mk.injEq] at e
      obtain ⟨rfl, rfl⟩ := e
      have e1 := keyD_of hk
      subst e1
      cases r2 with
      | @ref _ p hp =>
        obtain ⟨z1, z2, xs, z3, z4, z5⟩ := dict_at I g hp hS
        have hx : ∃ a, x = .ref a := by
          cases r1 with
          | tup _ _ => exact ⟨_, rfl⟩
        obtain ⟨a, rfl⟩ := hx
        cases (show v = Value.ref a from rv)
        cases (show u = Value.ref p from ru)
        have hr : (DKx.pkKind X.prog X.w).room X.A.in1 := by
          show X.A.units + _ + 8 < cLine
          omega
        refine wpAny_notIn_heap hr (pk_of I r1) z1 z5 ?_
        rw [atKey_mem, ← Paired.keys z4]
        rw [Bool.true_xor] at q
        have qq : Q (.bl (!decide (k ∈ kvs.map (·.1)))) H := q0 g q (.bl _)
        refine ⟨.bl (!decide (k ∈ kvs.map (·.1))), H, I.tok _, ?_, qq⟩
        show Value.bool _ = Value.bool _
        rfl
    · cases e
  · cases e
def setDc : D → D → D → Store → Option Store
  | .ref n, k, d, S => match S[n]?, keyOf k with
    | some (.dct kvs), some q => if q ∉ kvs.map (·.1) ∧ kvs.length < sizeLine then some (S.set n (.dct (kvs ++ [(q, d)]))) else none
    | _, _ => none
  | _, _, _, _ => none
theorem set_dictD (hu : X.A.units + 64 < cLine) : SetS X setDc := by
  intro pins s σ H o i v ov iv u Q I ro ri rv ⟨ι, S, d1, d2, d3, S', g, r1, r2, r3, e, q⟩
  unfold setDc at e
  split at e
  · split at e
    · rename_i n _ kvs k hS hk
      split at e
      · rename_i hc
        have e' := Option.some.inj e
        subst e'
        have e1 := keyD_of hk
        subst e1
        cases r1 with
        | @ref _ p hp =>
          obtain ⟨z1, z2, xs, z3, z4, z5⟩ := dict_at I g hp hS
          have hx : ∃ a, i = .ref a := by
            cases r2 with
            | tup _ _ => exact ⟨_, rfl⟩
          obtain ⟨a, rfl⟩ := hx
          cases (show ov = Value.ref p from ro)
          cases (show iv = Value.ref a from ri)
          have hr : (DKx.pkKind X.prog X.w).room X.A.in1 := by
            show X.A.units + _ + 8 < cLine
            omega
          have hl : kvs.length = xs.length := Paired.length z4
          have hat : atKey xs k = none := by
            have h0 := atKey_mem (xs := xs) (k := k)
            rw [← Paired.keys z4, decide_eq_false hc.1] at h0
            cases hz : atKey xs k with
            | none => rfl
            | some _ => rw [hz] at h0; cases h0
          refine wpAny_setItem_heap (hsz := by rw [← hl]; exact z2) hr (pk_of I r2) z5 fun h' dd hs => ?_
          rw [storedH_new hat] at dd
          obtain ⟨o', es, ep, w1, w2, w3, w4, w5, w6⟩ := dd
          have I' : Inv X pins σ (upd H p (dxt p (xs ++ [(k, a, u)]))) { s with heap := h', toks := s.toks + (DKx.pkKind X.prog X.w).draws k } :=
            d_write I (by rw [z3]; exact True.intro) hs ⟨o', w1⟩ (dxt_ok ⟨o', es, ep, w1, w2, w3, w4⟩)
          refine ⟨_, I', ?_⟩
          have km : Keep ι H ι (upd H p (dxt p (xs ++ [(k, a, u)]))) := Keep.write g hp
          refine q ι _ km (g.write hp ⟨z1, ?_, ?_, _, upd_same, ?_⟩)
          · rw [List.length_append]
            have := hc.2
            simp only [List.length_cons, List.length_nil]
            omega
          · obtain ⟨_, _, nd, _⟩ := g.obj _ _ p hS hp
            rw [List.map_append, List.nodup_append]
            refine ⟨nd, by simp, fun x hx y hy e => hc.1 ?_⟩
            have : y = k := by simpa using hy
            rw [← this, ← e]
            exact hx
          · refine Paired.snoc (Paired.mapP z4 fun p x z => ?_) ⟨rfl, Rep.mono km _ _ r2, v, Rep.mono km _ _ r3, rv⟩
            obtain ⟨y1, y2, v', y3, y4⟩ := z
            exact ⟨y1, Rep.mono km _ _ y2, v', Rep.mono km _ _ y3, y4⟩
      · cases e
    · cases e
  · cases e
def bLenD : List D → Store → Option (D × Store)
  | [.ref n], S => match S[n]? with
    | some (.dct kvs) => some (.int (kvs.length : Nat), S)
    | _ => none
  | _, _ => none
theorem call_lenDc : CallR X (.builtin "len") (rC X.K bLenD) := by
  intro pins s σ H xs us Q I rs ⟨ι, S, ds, d, S', g, rv, e, q⟩
  unfold bLenD at e
  split at e
  · split at e
    · rename_i n kvs hS
      simp only [Option.some.injEq, Prod.mk.injEq] at e
      obtain ⟨rfl, rfl⟩ := e
      obtain ⟨v, rfl, r⟩ := rv.one
      cases r with
      | @ref _ p hp =>
        obtain ⟨z1, z2, ys, z3, z4, z5⟩ := dict_at I g hp hS
        obtain ⟨u, rfl, rx⟩ := vals1 rs
        obtain rfl : u = .ref p := rx
        have hl : kvs.length = ys.length := Paired.length z4
        refine call_len_dictH z1 z5 (by rw [← hl]; rw [sizeLine_eq] at z2; omega) ?_
        rw [← hl]
        exact ⟨.int ((kvs.length : Nat) : Int), H, I.tok _, ⟨_, rfl⟩, q0 g q (.int _)⟩
    · cases e
  · cases e
def evNewD : DEnv → Store → R D := fun _ S => .ok (.ref S.length) (S ++ [.dct []])
theorem se_newD {pos : Pos} : SE X Y (.Dict [] [] pos) evNewD := ⟨fun pins s σ H Q I ⟨ι, δ, S, k, sr, g, q⟩ => by
  have hn : H s.heap.objs.size = none := I.hok.fresh (Nat.le_refl _)
  have I' := I.laid (a := s.heap.objs.size) (o := dxt s.heap.objs.size []) (t' := s.toks) (h' := s.heap.push { cls := .type "dict", data := .dict #[] }) (fun _ _ q => Heap.get?_push_of_some _ q) (Nat.le_refl _) (dxt_ok ⟨_, #[], 0, Heap.get?_push_size _ rfl, ⟨rfl, rfl, rfl⟩, rfl, rfl⟩)
  refine wpAny_Dict_empty ⟨.ref s.heap.objs.size, _, I', rfl, ?_⟩
  exact q (ι ++ [s.heap.objs.size]) _ (Keep.made hn) (g.made hn ⟨beq_eq_false_iff_ne.mpr (Ne.symm (Nat.ne_of_lt I.big)), Nat.zero_le _, List.nodup_nil, [], upd_same, .nil⟩) _ (.ref (Ix.get_new g.len))⟩

/-! ### short words -/
theorem se_v (i : Nat) {x : Str} {pos : Pos} (hN : X.N[i]? = some x := by rfl) (hv : Vis X.env.scope x := by first | exact Or.inl rfl | exact Or.inr (Or.inl rfl) | exact Or.inr (Or.inr rfl)) (hd : (x == ("__debug__" : Str)) = false := by decide)
    (hcd : (x == ("__classdict__" : Str)) = false := by decide) : SE X Y (.Name x pos) (evVar i) := se_var (pe_var hN hv hd hcd)
theorem se_gi {x : Str} {n : Int} {pos : Pos} (h : ∃ t, X.mg x = some (.int n t)) (hg : Gl X x := by rfl) (hd : (x == ("__debug__" : Str)) = false := by decide) : SE X Y (.Name x pos) (evC (.int n)) := by
  obtain ⟨t, h⟩ := h
  exact se_const (pe_glob hg h (v := .int n) ⟨t, rfl⟩ hd) fun _ _ => .int n
theorem se_gs {x z : Str} {pos : Pos} (h : ∃ t, X.mg x = some (.str z t)) (hg : Gl X x := by rfl) (hd : (x == ("__debug__" : Str)) = false := by decide) : SE X Y (.Name x pos) (evC (.str z)) := by
  obtain ⟨t, h⟩ := h
  exact se_const (pe_glob hg h (v := .str z) ⟨t, rfl⟩ hd) fun _ _ => .str z
/-- a tuple of texts that stands behind the top -/
structure GTup (K : PySem.W.Frag) (mg : Str → Option Value) (x : Str) (zs : List Str) : Prop where
  ex : ∃ a, mg x = some (.ref a) ∧ KT K a (zs.map V.str)
theorem reps_strs {K : PySem.W.Frag} : ∀ zs : List Str, Reps K ι H (zs.map D.str) (zs.map V.str)
  | [] => .nil
  | z :: zs => .cons (.str z) (reps_strs zs)
theorem se_gt {x : Str} {zs : List Str} {pos : Pos} (h : GTup X.K X.mg x zs) (hg : Gl X x := by rfl) (hd : (x == ("__debug__" : Str)) = false := by decide) : SE X Y (.Name x pos) (evC (.tup (zs.map D.str))) := by
  obtain ⟨a, h1, h2⟩ := h.ex
  exact se_const (pe_glob hg h1 (v := .ref a) rfl hd) fun _ _ => .tup (.inr h2) (reps_strs zs)
def dNeg : D → Option D
  | .int i => some (.int (-i))
  | _ => none
theorem un_negD : UnR X (unaryOp .USub) (fun x H Q => ∃ ι d d', Rep X.K ι H d x ∧ dNeg d = some d' ∧ ∀ v, Rep X.K ι H d' v → Q v H) := by
  intro pins s σ H x v Q I rv h
  obtain ⟨ι, d, d', r, e, q⟩ := h
  unfold dNeg at e
  split at e
  · cases r
    cases e
    exact un_neg pins s σ H _ v Q I rv ⟨_, rfl, q _ (.int _)⟩
  · cases e
theorem se_neg {e : Expr} {fa : DEnv → Store → R D} {pos : Pos} (ha : SE X Y e fa) : SE X Y (.UnaryOp .USub e pos) (evUn dNeg fa) := se_un un_negD ha
theorem sg_n (i : Nat) {x : Str} {pos : Pos} (hN : X.N.Nodup) (hi : X.N[i]? = some x := by rfl) (hx : Loc X.env.scope x := by first | exact Or.inl rfl | exact Or.inr rfl) (hf : X.fn x = true ∨ X.env.scope.names.lookup x = some .local := by first | exact Or.inl rfl | exact Or.inr rfl) : SG X Y Rep (.Name x pos) [i] (tgN i) := sg_name hN hi hx hf
end
end DL
end
section
set_option Elab.async false
set_option linter.all false
set_option maxRecDepth 100000
set_option maxHeartbeats 4000000
/-! an own exception over ValueError whose __init__(self, what) says super().__init__(what) and self.what = what -/
namespace DXi
open PySem PySem.W PySem.Calls PySem.Spec PyProof.Rows L2

abbrev supBody (p0 p1 ap p2 p3 p4 p5 p6 p7 p8 : Pos) : List Stmt :=
  [.Expr (.Call (.Attribute (.Call (.Name "super" p0) [] [] p1) "__init__" ap) [.Name "what" p2] [] p3) p4, .Assign [.Attribute (.Name "self" p5) "what" p6] (.Name "what" p7) p8]
/-- the def, its class D -/
structure SupI (P : Program) (K : Frag) (D fI : Addr) (fd : FuncData) (scope : Scope) (body : List Stmt) : Prop where
  fn : ∃ oc od qual params dV kV doc pm an cda ct cc osl cl cld csl ccl cdd vs ccs file tf ar, fd = ksFn "__init__" qual params body scope dV kV doc pm an (.ref cda) ct cc ∧ K.lookup fI = some ⟨oc, od, .func fd, osl⟩ ∧ codeIn K (.ref cda) qual = true ∧ K.lookup cc = some ⟨cl, cld, .cell (some (.ref D)), csl⟩ ∧
    K.lookup cda = some ⟨ccl, cdd, .fields vs, ccs⟩ ∧ vs[2]? = some (.str file tf) ∧ ((P.main.file : Str) == file) = true ∧ (params.posonlyargs ++ params.args).head? = some ar ∧ ar.arg = "self"
  hD : ∃ cd, clsIn K D = some cd
  sup : nsIn K mainGlobals "super" = some none
  htop : (P.main.scope.names.lookup ("super" : Str)).isSome = false
  any : nsIn K cStatics "thirdparty.any" = some none
/-- a class under D -/
structure SupC (K : Frag) (C D : Addr) : Prop where
  oex : OexC K C
  subD : mroIn K C (.ref D) = some true
  sm : ks_superIn K C D "__init__" = some (some (.builtin "ValueError.__init__"))
  sVE : subIn K (.ref C) (.type "ValueError") = some true
  no : findIn K (.ref C) "what" = some none
def spI (K : Frag) (D : Addr) : Sp := fun vs H Q _ => ∃ a C y, vs = [.ref a, y] ∧ H a = some (exo a C none) ∧ SupC K C D ∧ ∀ dx, H dx = none → dx ≠ a → Q .non (upd (upd H dx (exd dx [("what", y)])) a (exo a C (some dx)))

section
variable {prog : Program} {w : World} {A : Around} {E : Value → Shared → Prop} {g : Array GenState} {d : Drawn} {t : Nat} {os : OsState}
/-- the wrapper called: the exception's args are laid anew -/
theorem call_mw {h : Heap} {u x t0 C : Addr} {rest : List Value} {nm q : Str} {N : Addr} {bs bm : List Value} {hdct : Bool} {sn : List Str} {sub : List Value} {ab : Bool} {col : Option Bool} {dd : Option Addr} {k0 k1 k2 k3 k5 : Option Value} {Q : Value → Shared → Prop}
    (hC : h.get? C = some (excClassObj nm q C N bs bm hdct sn sub ab col dd k0 k1 k2 k3 k5 "ValueError.__new__")) (hu : h.get? u = some (kxs_mw "ValueError.__init__" x)) (he : h.get? x = some (excObj C t0 none .none)) (hz : rest.length ≤ sizeLine)
    (hq : ∀ h' t1, (∀ b o, b ≠ x → h.get? b = some o → h'.get? b = some o) → h'.get? x = some (excObj C t1 none .none) → Q .none ⟨h', g, d, t, os⟩) :
    wpAny (model prog w) A (call (.ref u) rest) Q E ⟨h, g, d, t, os⟩ := by
  refine wpAny_call (codeAny_of_tree ?_)
  show wpAny _ A.in1 (callAny (.ref u) ⟨rest, []⟩) _ _ _
  simp only [callAny]
  refine wpAny_bind (wpAny_load hu ?_)
  simp only [kxs_mw, show (Value.type "method-wrapper" == Value.type "method" || Value.type "method-wrapper" == Value.type "builtin_function_or_method" || Value.type "method-wrapper" == Value.type "method-wrapper") = true by decide, if_true]
  refine KFB.if_so (by decide) ?_
  refine wpAny_bind (check_bound_init F.excBase_ValueError.toExcCallFacts hC he rfl ?_)
  refine wpAny_bind (wpAny_pure (wpAny_pure ?_))
  refine ⟨plainId_quiet F.excBase_ValueError.init.plain _, codeAny_builtin F.excBase_ValueError.initEntry ?_⟩
  exact exc_init_tree (cls := .ref C) (t0 := t0) (dv := none) (c2 := .none) (c3 := .none) (b4 := .bool false) he hz fun h' k e' _ => hq h' _ k e'
end

section
variable {P : Program} {w : World} {K : Frag} {mg : Str → Option Value} {base : Heap} {CX : CXT} {D fI : Addr} {fd : FuncData} {scope : Scope} {p0 p1 ap p2 p3 p4 p5 p6 p7 p8 : Pos}
theorem init_ok (T : SupI P K D fI fd scope (supBody p0 p1 ap p2 p3 p4 p5 p6 p7 p8)) (hks : scope.names.lookup ("super" : Str) = some .globalImplicit) (hkc : scope.names.lookup ("__class__" : Str) = some .free) (hkself : scope.names.lookup ("self" : Str) = some .local) (hkwhat : scope.names.lookup ("what" : Str) = some .local)
    (hcell : ∀ x ∈ scope.names, x.2 ≠ .cell) (hco : scope.isCoroutine = false) (hgen : scope.isGenerator = false) (hk : scope.kind = .function) (hboot : bootBuiltins "super" = some (.type "super")) {pl : Env → Sem Bool}
    (hcall : ∀ env, eval (.Call (.Attribute (.Call (.Name "super" p0) [] [] p1) "__init__" ap) [.Name "what" p2] [] p3) env = (do
      let ov ← attributeBase (.Call (.Name "super" p0) [] [] p1) "__init__" env (eval (.Call (.Name "super" p0) [] [] p1) env)
      standAt ap.atName
      let (f, first) ← holding [ov] (getMethod ov "__init__" (pl env))
      callWith p3 f first (backTo p3 (starEach [.Name "what" p2] env)) [])) : FnOk P w K mg base CX 1 fI fd ["self", "what"] (spI K D) := by
  refine ⟨fun vs H Q E ⟨a, C, y, ev, _⟩ => by rw [ev]; rfl, fun A outer s H args us vs Q E hr e0 hb rv hsp => ?_⟩
  obtain ⟨x, C, y, rfl, hx, SC, hq⟩ := hsp
  obtain ⟨oc, od, qual, params, dV, kV, doc, pm, an, cda, ct, cc, osl, cl, cld, csl, ccl, cdd, vs', ccs, file, tf, ar, rfl, hf, hcode, hcc, hcda, hvs, hfile, hp, har⟩ := T.fn
  obtain ⟨ux, uy, rfl, r1, r2⟩ : ∃ u1 u2, us = [u1, u2] ∧ RelV (.ref x) u1 ∧ RelV y u2 := by
    cases rv with
    | cons p q =>
      cases q with
      | cons p' q' =>
        cases q'
        exact ⟨_, _, rfl, p, p'⟩
  obtain rfl : ux = Value.ref x := r1
  have KX : K.In s.heap := e0.mod.kin.keeps fun b o e => (e0.bs b o e).1
  have lim : s.heap.NoLimit := e0.mod.nolimit.keeps fun b o e => (e0.bs b o e).1
  have glob : s.heap.Ns mainGlobals mg := e0.mod.glob.keeps fun b o e => (e0.bs b o e).1
  obtain ⟨mb, hmb, hmb2⟩ := e0.mod.blt
  have blt : s.heap.Ns builtinsNs mb := hmb.keeps fun b o e => (e0.bs b o e).1
  obtain ⟨t1, hxo⟩ := exo_at e0.hok hx
  obtain ⟨cdD, hD⟩ := T.hD
  refine ks_codeAny_call_defAt (fd := ksFn "__init__" qual params (supBody p0 p1 ap p2 p3 p4 p5 p6 p7 p8) scope dV kV doc pm an (.ref cda) ct cc) (body := supBody p0 p1 ap p2 p3 p4 p5 p6 p7 p8) (binds := [("self", .ref x), ("what", uy)]) hr.depth (KX _ _ hf) rfl lim (codeRec_of KX hcode) rfl hb hcell
    (fun z hz => ?_) (fun h₁ hns hk₁ => ?_) hco hgen hk
  · rcases List.mem_cons.mp hz with e | hz
    · rw [e]; exact hkself
    · rcases List.mem_cons.mp hz with e | hz
      · rw [e]; exact hkwhat
      · cases hz
  generalize hL : s.heap.objs.size = L at hns hk₁ ⊢
  show _root_.PySem.wpAt (model P w) (A.deeper (ksEnv qual scope L fI (.ref cda) cc)) (.func (supBody p0 p1 ap p2 p3 p4 p5 p6 p7 p8) (ksEnv qual scope L fI (.ref cda) cc)) (execs (supBody p0 p1 ap p2 p3 p4 p5 p6 p7 p8) (ksEnv qual scope L fI (.ref cda) cc)) _ _ _
  generalize hA' : A.deeper (ksEnv qual scope L fI (.ref cda) cc) = A'
  have X1 : K.In h₁ := KX.keeps hk₁
  have hx1 := hk₁ _ _ hxo
  obtain ⟨hp0, g, d, t, os⟩ := s
  simp only at hL hk₁ KX lim glob blt hxo
  have g1 : h₁.Ns mainGlobals mg := glob.keeps hk₁
  have b1 : h₁.Ns builtinsNs mb := blt.keeps hk₁
  have mself : (fun z => ([("self", Value.ref x), ("what", uy)] : List (Str × Value)).reverse.lookup z) "self" = some (Value.ref x) := by rfl
  have mwhat : (fun z => ([("self", Value.ref x), ("what", uy)] : List (Str × Value)).reverse.lookup z) "what" = some uy := by rfl
  -- self.what = what, then out
  have second : ∀ (h2 : Heap) (tk t2 : Nat), (∀ b o, b ≠ x → h₁.get? b = some o → h2.get? b = some o) → (t2 = t2) → h2.get? x = some (excObj C tk none .none) →
      wpAny (model P w) A' (execs [.Assign [.Attribute (.Name "self" p5) "what" p6] (.Name "what" p7) p8] (ksEnv qual scope L fI (.ref cda) cc))
        (fun fl s' => CR CX outer P w H ⟨hp0, g, d, t, os⟩ Q E (.ok (.ret (match fl with | .ret v => v | _ => .none))) s') (fun _ _ => False) ⟨h2, g, d, t2, os⟩ := by
    intro h2 tk t2 k2 _ hx2
    have xL : L ≠ x := fun z => by
      have y := Heap.lt_size hxo
      rw [← z, ← hL] at y
      exact absurd y (Nat.lt_irrefl _)
    obtain ⟨oL, esL, epL, eL, rL⟩ := hns
    have hns2 : h2.Ns L (fun z => ([("self", Value.ref x), ("what", uy)] : List (Str × Value)).reverse.lookup z) := ⟨oL, esL, epL, k2 _ _ xL eL, rL⟩
    have nK : ∀ b o, K.lookup b = some o → b ≠ x := fun b o e z => by
      have y := KX b o e
      have y2 := e0.mod.kin b o e
      have y3 := (e0.bs b o y2).2
      rw [z, hx] at y3
      cases y3
    have X2 : K.In h2 := fun b o e => k2 b o (nK b o e) (X1 b o e)
    obtain ⟨nm, q, N, bs, bm, sn, sub, ab, col, dd, k0, k1, k3, k4, k5, hC, hbm⟩ := SC.oex.cls
    have hcl : clsIn K C = some { name := nm, bases := bs, mro := .ref C :: bm, ns := N, qualname := q, hasDict := true, slotNames := sn, subclasses := sub, abstract := ab, collection := col, hasDel := false } := by unfold clsIn; rw [hC] <;> rfl
    refine wpAny_execs_cons (plainObj_wpAny_Assign_Attribute ?_)
    refine wpAny_Name (wpAny_loadName_local hk hkwhat hns2 mwhat ?_) (by decide)
    refine wpAny_Name (wpAny_loadName_local hk hkself hns2 mself ?_) (by decide)
    refine set_plain X2 (ox := { cls := .ref C, dict := none, data := .fields #[.ref tk, .none, .none, .none, .bool false, .none] }) (od := none) ⟨hx2, rfl, rfl, trivial⟩ SC.oex.sa ?_
    refine PySem.HandSPX.exc_osa X2 hx2 hcl (show PySem.HandSPX.refsVE (.ref C :: bm) = true from hbm) rfl SC.no (fun h' tk' dx k dn dne hx' hn => ?_)
    refine wpAny_execs_nil ?_
    have sz : hp0.objs.size ≤ dx := by
      have y : L < h2.objs.size := Heap.lt_size (k2 _ _ xL eL)
      have y2 : h2.objs.size ≤ dx := dn
      omega
    have hnd : H dx = none := e0.hok.fresh sz
    have nd : ∀ {b : Addr} {o : Obj}, hp0.get? b = some o → b ≠ dx := fun {b o} q => Nat.ne_of_lt (Nat.lt_of_lt_of_le (Heap.lt_size q) sz)
    have na : ∀ {b : Addr}, H b = none → b ≠ x := fun {b} n z => by
      rw [z, hx] at n
      cases n
    have kall : ∀ b o, b ≠ x → hp0.get? b = some o → h'.get? b = some o := fun b o n e => k b o n (k2 b o n (hk₁ b o e))
    refine ⟨.non, _, rfl, e0.bare, ⟨fun b o q n _ _ => kall b o (na n) q, fun b o q n _ _ => ⟨o.slots, kall b o (na n) q⟩, fun b o q n _ => by rw [upd_ne (na n), upd_ne (nd q)]; exact n, fun b o q _ => ?_,
      fun b xs q => by rw [upd_ne (at_ne hx q exo_tup), upd_ne (ne_of_none q hnd)]; exact q, fun b o v q => by rw [upd_ne (at_ne hx q exo_frz), upd_ne (ne_of_none q hnd)]; exact q,
      fun b ps q => ⟨#[], by rw [upd_ne (at_ne hx q exo_tbl), upd_ne (ne_of_none q hnd), q]; simp⟩⟩, fun b o q => ?_, rfl, hq dx hnd dne⟩
    · by_cases hb : b = x
      · exact ⟨_, by rw [hb]; exact hx'⟩
      · exact ⟨o, kall b o hb q⟩
    · by_cases hb : b = x
      · subst hb
        rw [upd_same] at q
        cases q
        exact exo_ok hx'
      · rw [upd_ne hb] at q
        by_cases hd' : b = dx
        · subst hd'
          rw [upd_same] at q
          cases q
          exact exd_ok hn (relO_put (fs := []) r2 fun g => True.intro)
        · rw [upd_ne hd'] at q
          exact (e0.hok b o q).stay (fun c v hc z => kall c v (by
              rcases hc with hc | hc
              · rw [hc]
                exact hb
              · exact at_ne hx hc exo_own) z)
            (fun c hc => by rw [upd_ne (at_ne hx hc exo_own), upd_ne (ne_of_none hc hnd)]; exact hc) (fun c xs hc => by rw [upd_ne (at_ne hx hc exo_tup), upd_ne (ne_of_none hc hnd)]; exact hc)
  refine ks_wpAt_execs_cons (ks_wpAt_Expr_any (ks_wpAt_MethodCall (ks_wpAt_super_base (env := ksEnv qual scope L fI (.ref cda) cc) hks hkc (by decide) rfl (X1 _ _ hf) rfl hp rfl (X1 _ _ hcda) rfl hvs hfile T.htop ?_) (hcall _)) (by simp [interactive, hk]))
  refine ks_loadName_global hk hks (loadGlobal_builtin (env := ksEnv qual scope L fI (.ref cda) cc) g1 (mg_none_of KX glob T.sup) b1 ((hmb2 _ (by decide +kernel)).trans hboot) ⟨rfl, ?_⟩)
  refine wpAny_loadName_free hk hkc rfl ⟨_, X1 _ _ hcc, rfl⟩ ?_
  rw [har]
  refine wpAny_loadName_local hk hkself hns mself ?_
  obtain ⟨oD, hD1, hD2⟩ : ∃ oD, h₁.get? D = some oD ∧ oD.data = .cls cdD := by
    unfold clsIn at hD
    split at hD
    · rename_i c d cd' sl ho
      cases hD
      exact ⟨_, X1 _ _ ho, rfl⟩
    · cases hD
  refine ks_wpAny_isType_cls hD1 hD2 ⟨rfl, ?_⟩
  refine ks_wpAny_call_super hD1 hD2 hx1 rfl (fun c e => nomatch e) (looks_mroIn X1 SC.subD) (fun h2 hso k2 => ?_)
  obtain ⟨nm, q, N, bs, bm, sn, sub, ab, col, dd, k0, k1, k3, k4, k5, hC, hbm⟩ := SC.oex.cls
  have hcl : clsIn K C = some { name := nm, bases := bs, mro := .ref C :: bm, ns := N, qualname := q, hasDict := true, slotNames := sn, subclasses := sub, abstract := ab, collection := col, hasDel := false } := by unfold clsIn; rw [hC] <;> rfl
  have X2 : K.In h2 := X1.keeps k2
  have hx2 := k2 _ _ hx1
  have I2 : InstAt h2 x { cls := .ref C, dict := none, data := .fields #[.ref t1, .none, .none, .none, .bool false, .none] } C none := ⟨hx2, rfl, rfl, trivial⟩
  have hsm := SC.sm
  unfold ks_superIn at hsm
  rw [hcl] at hsm
  refine kxs_getMethod kxs_ValueError hso (looks_opaque X2 T.any) (l₀ := .ref C :: bm) (fun A Q E s k q => wpAny_bind ((looks_clsIn X2 hcl) A _ E s k (wpAny_pure q))) rfl X2 hsm (I2.type.andThen (looks_subIn X2 SC.sVE)) (ks_ne X2 I2 hcl) (by decide) ?_
  have k3' : ∀ b o, h2.get? b = some o → (h2.push (kxs_mw "ValueError.__init__" x)).get? b = some o := fun b o e => Heap.get?_push_of_some _ e
  have X3 : K.In (h2.push (kxs_mw "ValueError.__init__" x)) := X2.keeps k3'
  have hx3 := k3' _ _ hx2
  have hu : (h2.push (kxs_mw "ValueError.__init__" x)).get? h2.objs.size = some (kxs_mw "ValueError.__init__" x) := Heap.get?_push_at rfl rfl
  have hns3 : (h2.push (kxs_mw "ValueError.__init__" x)).Ns L (fun z => ([("self", Value.ref x), ("what", uy)] : List (Str × Value)).reverse.lookup z) := hns.keeps fun b o e => k3' b o (k2 b o e)
  refine kxs_callWith (i := "ValueError.__init__") (x := x) rfl (evalArgs_plain ?_)
  refine Calls.spliced_cons (wpAny_Name (wpAny_loadName_local hk hkwhat hns3 mwhat ?_) (by decide))
  refine Calls.spliced_nil ⟨hu, ?_⟩
  refine call_mw (X3 _ _ hC) hu hx3 (by rw [sizeLine_eq]; show 1 ≤ 16777216; decide) fun h4 t4 k4' hx4 => ?_
  refine wpAt_of_wpAny (wpAny_mono (second h4 t4 _ (fun b o n e => k4' b o n (k3' b o (k2 b o e))) rfl hx4) (fun fl s' z => z) fun _ _ z => z.elim)
end
end DXi
end
section
set_option Elab.async false
set_option linter.all false
set_option maxRecDepth 100000
set_option maxHeartbeats 4000000
/-! the data layer 12: raising -/
namespace DL
open PySem PySem.Spec PyProof.Rows L2
theorem ty_append : typeOf (.builtin "list.append") = pure (.type "method_descriptor") := by show builtinType _ = _; rw [builtinType_eq_fast]; kernel_rfl
theorem ty_extend : typeOf (.builtin "list.extend") = pure (.type "method_descriptor") := by show builtinType _ = _; rw [builtinType_eq_fast]; kernel_rfl
theorem ty_index : typeOf (.builtin "list.index") = pure (.type "method_descriptor") := by show builtinType _ = _; rw [builtinType_eq_fast]; kernel_rfl
theorem ty_tindex : typeOf (.builtin "tuple.index") = pure (.type "method_descriptor") := by show builtinType _ = _; rw [builtinType_eq_fast]; kernel_rfl
theorem room65 {k : Nat} {A : Around} (r : Room k A) : A.units + 65 < cLine := by have := r.un; omega
/-- an own exception class, by its name -/
structure ExC (P : Program) (w : World) (K : PySem.W.Frag) (mg : Str → Option Value) (base : Heap) (x : Str) : Prop where
  ex : ∃ C fI fd D, mg x = some (.ref C) ∧ DXi.SupC K C D ∧ PySem.W.findIn K (.ref C) "__init__" = some (some (.ref fI)) ∧ PySem.W.typeIn K (.ref fI) = some (.type "function") ∧
    FnOk P w K mg base (L2.CX P w) 1 fI fd ["self", "what"] (DXi.spI K D) ∧ Binds K fd ["self", "what"] []
def evRaise (c : Str) (fr : DEnv → Store → R (List D)) : DEnv → Store → R Fl := fun δ S => (fr δ S).bind fun ds S1 => match ds with
  | [d] => .exc c d S1
  | _ => .bad
def evIteT (c fa fb : DEnv → Store → R Bool) : DEnv → Store → R Bool := fun δ S => (c δ S).bind fun b S1 => if b = true then fa δ S1 else fb δ S1
section
variable {X : Cx} {Y : Yc}
theorem st_ifE {c a b : Expr} {pos : Pos} {fc fa fb : DEnv → Store → R Bool} (hc : ST X Y c fc) (ha : ST X Y a fa) (hb : ST X Y b fb) : ST X Y (.IfExp c a b pos) (evIteT fc fa fb) := by
  refine ⟨fun pins s σ H Q I ⟨ι, δ, S, k, sr, g, q⟩ => ?_⟩
  rw [arm_isTrue_IfExp]
  refine wpAny_bind (thn (hc.run pins s σ H (fun d H1 => if d = true then tlT X.K Y fa σ H1 Q else tlT X.K Y fb σ H1 Q) I ⟨ι, δ, S, k, sr, g, Post.seq q fun d ι1 H1 S1 k1 g1 q1 => ?_⟩) fun d s1 ⟨H1, I1, q1⟩ => ?_)
  · cases d with
    | true => unfold pT; exact iteT ⟨ι1, δ, S1, k.trans k1, sr.mono k1, g1, q1⟩
    | false => unfold pT; exact iteF ⟨ι1, δ, S1, k.trans k1, sr.mono k1, g1, q1⟩
  · cases d with
    | true => exact ha.run pins s1 σ H1 Q I1 q1
    | false => exact hb.run pins s1 σ H1 Q I1 q1
theorem ss_raiseD {x : Str} {p1 p2 pos : Pos} {e : Expr} {fr : DEnv → Store → R (List D)} {j : Nat} (T : ExC X.prog X.w X.K X.mg X.base x) (hr : Room j X.A) (hk : 2 ≤ j) (air : Air X Y) (hc : X.calm = true) (hg : Gl X x) (ha : SA X Y [e] fr)
    (hdb : (x == ("__debug__" : Str)) = false := by decide) (he : starEach [e] X.env = (false, eval e X.env) :: starEach [] X.env := by rfl) (hpl : (backTo p2 (starEach [] X.env)).any (·.1) = false := by rfl) :
    SS X Y (.Raise (some (.Call (.Name x p1) [e] [] p2)) none pos) (evRaise x fr) := by
  obtain ⟨C, fI, fd, Dc, hm, SC, iC, tI, F1, hb⟩ := T.ex
  obtain ⟨E0, tk, hE⟩ := air.ex
  have hp := pmk_oex (sp := DXi.spI X.K Dc) (p := p1) (pos := p2) SC.oex iC tI F1 (hr.mono hk) hb .nil passL hg hm ha hdb he hpl
  refine PS.imp (ps_raise hc tk hp) fun Dn σ H ⟨ι, δ, S, k, sr, g, q⟩ => ?_
  refine ⟨ι, δ, S, k, sr, g, Post.seq q fun ds ι1 H1 S1 k1 g1 q1 => fun vs rvs => ?_⟩
  rcases rvs with _ | ⟨r1, _ | ⟨r2, r3⟩⟩
  · exact q1.elim
  · rename_i d v
    refine ⟨by show 1 ≤ 1000; decide, fun a ha' => ⟨a, C, v, rfl, upd_same, SC, fun dx hdx hne => ⟨rfl, dx, [("what", v)], upd_same, ?_, ?_, ?_⟩⟩⟩
    · show upd _ _ _ _ = _
      rw [upd_ne hne, upd_same]
    · rw [upd_ne hne] at hdx; exact hdx
    · have h1 : H1 dx = none := by rw [upd_ne hne] at hdx; exact hdx
      have eH : upd (del (upd (upd (upd H1 a (exo a C none)) dx (exd dx [("what", v)])) a (exo a C (some dx))) a) dx (.xd [("what", v)]) = upd H1 dx (.xd [("what", v)]) := by
        funext b
        by_cases h2 : b = dx
        · rw [h2, upd_same, upd_same]
        · rw [upd_ne h2, upd_ne h2]
          by_cases h3 : b = a
          · rw [h3, del_same, ha']
          · rw [del_ne h3, upd_ne h3, upd_ne h2, upd_ne h3]
      have kk : Keep ι1 H1 ι1 (upd H1 dx (.xd [("what", v)])) := Keep.laid h1
      have z := hE _ _ _ _ _ ((k.trans k1).trans kk) (g1.laid h1) (q1 ι1 _ kk (g1.laid h1))
      show E0 (.ref C) (some dx) _
      rw [eH]
      exact z _ _ ⟨C, dx, v, hm, rfl, rfl, g1.fresh h1, upd_same, Rep.mono kk _ _ r1⟩
  · exact q1.elim
end
end DL
end
section
set_option Elab.async false
set_option linter.all false
set_option maxRecDepth 100000
set_option maxHeartbeats 4000000
/-! try with several clauses, each 'except X as n' with the same n; isinstance of an exception that has its dict -/
namespace DTx
open PySem PySem.W PySem.Spec PySem.Calls PyProof.Rows
section
variable {prog : Program} {w : World} {A : Around} {E : Value → Shared → Prop} {s : Shared} {K : Frag} {x D : Addr} {ox oD : Obj}
theorem kin_classD {Q : Option Value → Shared → Prop} (hga : findIn K (.ref D) "__getattribute__" = some (some (.builtin "BaseException.__getattribute__"))) (hgt : findIn K (.ref D) "__getattr__" = some none) (hsub : subIn K (.ref D) (.type "BaseException") = some true)
    (hdct : hasDictIn K D = true) (ha : findIn K (.ref D) "__class__" = some (some (.builtin "object.__class__")))
    (hn : specialIn K (.builtin "object.__class__") "__get__" = some (some (.builtin "getset_descriptor.__get__"))) (htk : takesIn K (.builtin "object.__class__") = some true) (hm : mroIn K D (.type "object") = some true)
    (X : K.In s.heap) (I : InstAt s.heap x ox D (some oD)) (h : Q (some (.ref D)) { s with toks := s.toks + 1 }) : wpAny (model prog w) A (getAttr? (.ref x) "__class__") Q E s := by
  have hf : findObj K D (some oD) "__class__" = some (.bind (.builtin "getset_descriptor.__get__") (.builtin "object.__class__")) := findObj_data (by obtain ⟨cd, hc, _⟩ := any_some hdct; rw [hc]; rfl) ha hn htk
  obtain ⟨hp, g, d, t, os⟩ := s
  have L0 := I.type (M := model prog w)
  have L1 := looks_findIn (M := model prog w) X hga
  have L2 := looks_findIn (M := model prog w) X hgt
  have L3 := looks_find (M := model prog w) X I hf
  have sub : Looks (model prog w) hp (isInstance (.ref x) (.type "BaseException")) true := L0.andThen (looks_subIn X hsub)
  have hx0 : (false && onTheHeap (Value.builtin "BaseException.__getattribute__")) = false := rfl
  have hx2 : (Value.builtin "BaseException.__getattribute__" == Value.builtin "object.__getattribute__") = false := by decide +kernel
  have hx1 : (onTheHeap (Value.ref D) && Value.builtin "BaseException.__getattribute__" == Value.builtin "object.__getattribute__") = false := by rw [hx2]; rfl
  unfold getAttr? getAttrBy? getAttrBy
  refine wpAny_bind (wpAny_mkText (wpAny_bind (wpAny_attempt (wpAny_holding (wpAny_bind (L0.at (wpAny_bind (L1.at ?_))))))))
  show wpAny _ _ (if (onTheHeap (Value.ref D) && Value.builtin "BaseException.__getattribute__" == Value.builtin "object.__getattribute__") = true then _ else _) _ _ _
  rw [hx1, if_neg Bool.false_ne_true]
  unfold getAttrByItsOwn hookBefore
  refine wpAny_bind ?_
  rw [if_pos (show onTheHeap (Value.ref D) = true from rfl)]
  refine L2.at ?_
  refine wpAny_bind (wpAny_attempt (wpAny_holding ?_))
  unfold callGetattribute
  rw [hx0, if_neg Bool.false_ne_true]
  unfold boundAndCalled
  rw [PySem.F.excAttr_ValueError.ga.bind (.ref x)]
  refine wpAny_bind (wpAny_pure ?_)
  show wpAny _ _ (call (.builtin "BaseException.__getattribute__") [.ref x, .str "__class__" t]) _ _ _
  refine wpAny_call (codeAny_call_builtin PySem.F.excAttr_ValueError.ga.plain PySem.F.entry_bexc_ga ?_)
  refine @check_slot (model prog w) _ _ ⟨hp, g, d, t + 1, os⟩ "BaseException.__getattribute__" "BaseException" "__getattribute__" (.ref x) [.str "__class__" t] [] _ (by decide +kernel) (by decide +kernel) sub (PySem.F.args_bexc_ga (.ref x) (.str "__class__" t)) ?_
  unfold Builtin.«object.__getattribute__»
  refine wpAny_bind (wpAny_of_eq (a := ((Value.ref x : Value), [Value.str "__class__" t])) (by first | rfl | (simp only [slotArgs]; rfl)) ?_)
  refine wpAny_bind (wpAny_pure (wpAny_bind (L0.at (wpAny_bind (L3.at ?_)))))
  show wpAny _ _ (holding [Value.builtin "object.__class__"] (call (.builtin "getset_descriptor.__get__") [.builtin "object.__class__", .ref x, .ref D]) >>= ret) _ _ _
  refine wpAny_bind (wpAny_holding (wpAny_call (class_get (s := ⟨hp, g, d, t + 1, os⟩) (ox := ox) (od := some oD) X I hm ?_)))
  refine wpAny_pure ?_
  show wpAny _ _ (handedOut (.ref D)) _ _ _
  rw [handedOut_of (v := .ref D) rfl]
  first
    | exact wpAny_pure (wpAny_pure h)
    | exact wpAny_pure h
    | exact wpAny_pure (wpAny_bind (wpAny_pure (wpAny_pure h)))
theorem kitx_excD (hga : findIn K (.ref D) "__getattribute__" = some (some (.builtin "BaseException.__getattribute__"))) (hgt : findIn K (.ref D) "__getattr__" = some none) (hsub : subIn K (.ref D) (.type "BaseException") = some true) (hdct : hasDictIn K D = true) (ha : findIn K (.ref D) "__class__" = some (some (.builtin "object.__class__")))
    (hn : specialIn K (.builtin "object.__class__") "__get__" = some (some (.builtin "getset_descriptor.__get__"))) (htk : takesIn K (.builtin "object.__class__") = some true) (hm : mroIn K D (.type "object") = some true) :
    KitX K (.ref x) (.ref D) (fun h => InstAt h x ox D (some oD)) where
  ty := fun _ _ _ I => I.type
  it := fun _ _ X _ => by
    obtain ⟨cdD, hcD, _⟩ := any_some hdct
    unfold clsIn at hcD
    split at hcD
    · rename_i c' d' cd' sl' ho
      intro A' Q' E' s' k q
      unfold isType loadHead
      exact wpAny_bind (wpAny_loadPart (k _ _ (X _ _ ho)) (wpAny_pure q))
    · cases hcD
  ne := fun h tp dd its n sl X htp => by
    obtain ⟨cdD, hcD, _⟩ := any_some hdct
    refine Bool.eq_false_iff.mpr fun q => ?_
    have e : D = tp := Value.ref.inj (beq_iff_eq.mp q)
    subst e
    unfold clsIn at hcD
    split at hcD
    · rename_i c' d' cd' sl' ho
      have z := (X _ _ ho).symm.trans htp
      cases z
    · cases hcD
  ca := fun X I k => kin_classD hga hgt hsub hdct ha hn htk hm X I k
end
end DTx
namespace DTx
open PySem PySem.Spec PyProof.Rows L2
def rIsD (K : PySem.W.Frag) (D a dd : Addr) : List V → Hp → VK → Prop := fun xs H Q => ∃ (c : V) (cv : Value) (b : Bool) (fs : List (Str × V)), xs = [.ref a, c] ∧ H dd = some (.xd fs) ∧ (∀ u, RelV c u → u = cv) ∧ PySem.W.kitOne K (.ref D) cv = some b ∧ Q (.bl b) H
theorem call_isD {X : Cx} {a D dd : Addr} {oe : Obj} {pn : List (Addr × Obj)} (C : ExcC X.K D) (hz : Zc (.ref D) (some dd) oe) (hf : ∃ vs, oe.data = .fields vs) : CallR (X.suite a ((a, oe) :: pn)) (.builtin "isinstance") (rIsD X.K D a dd) := by
  intro pins s σ H xs us Q I r h
  obtain ⟨c, cv, b, fs, rfl, hdd, hcv, e, q⟩ := h
  cases r with
  | cons rx rr =>
    cases rr with
    | cons rt rr =>
      cases rr
      cases rx
      have ec := hcv _ rt
      subst ec
      obtain ⟨hget, _⟩ := I.pin (a, oe) (List.mem_append.mpr (.inl List.mem_cons_self))
      obtain ⟨vs, hv⟩ := hf
      have hx : ObjOk X.prog X.w H s.heap dd (.xd fs) := I.hok dd _ hdd
      obtain ⟨mA, hns, hr⟩ := hx
      obtain ⟨od, ho, hl⟩ := lookIn_ns hns
      have J : PySem.W.InstAt s.heap a oe D (some od) := ⟨hget, hz.1, by unfold PySem.W.notCls; rw [hv] <;> rfl, by rw [hz.2]; exact ho⟩
      exact PySem.W.kia_one (kitx_excD C.hg C.hk C.hs C.hd C.ha C.hn C.ht C.hm) I.kIn J e (fun z => nomatch z) fun tk => ⟨.bl b, H, I.kept (t' := tk) fun _ _ z => z, rfl, q⟩

/-! ### several clauses, each with 'as n' -/
def wAsMany (K : PySem.W.Frag) (i : Nat) (Wout : WX) (D : Ends) : List (Value × (Addr → Value → Option Addr → TS)) → WX
  | [] => Wout
  | (c, ts) :: r => fun cls d σ H => ∃ b, PySem.W.exmOne K cls c = some b ∧
      (b = true → ∀ a, H a = none → ts a cls d { nx := fun σ' H' => D.nx (σ'.set i none) H', rt := D.rt, bk := fun σ' H' => D.bk (σ'.set i none) H', ct := fun σ' H' => D.ct (σ'.set i none) H' } (σ.set i (some (.ref a))) H) ∧ (b = false → wAsMany K i Wout D r cls d σ H)
inductive HdsAs (X : Cx) (n : Str) : List ExceptHandler → List (Value × (Addr → Value → Option Addr → TS)) → Prop
  | nil : HdsAs X n [] []
  | cons {x : Str} {c : Value} {ts : Addr → Value → Option Addr → TS} {b₀ : Stmt} {suite : List Stmt} {np pos' : Pos} {hds : List ExceptHandler} {l : List (Value × (Addr → Value → Option Addr → TS))} (hc : Names X x c)
      (hsu : ∀ (a : Addr) (oe : Obj) (cls : Value) (d : Option Addr) (pn : List (Addr × Obj)), Zc cls d oe → (∃ vs, oe.data = .fields vs) → PSs (X.suite a ((a, oe) :: pn)) (b₀ :: suite) (ts a cls d)) (r : HdsAs X n hds l) :
      HdsAs X n (.ExceptHandler (some (.Name x np)) (some n) (b₀ :: suite) pos' :: hds) ((c, ts) :: l)
section
variable {X : Cx} {n : Str} {i : Nat} {body : List Stmt} {h₀ : ExceptHandler} {hds : List ExceptHandler} {l : List (Value × (Addr → Value → Option Addr → TS))} {pos : Pos} {tb : WX → TS} {Wout : WX}
theorem ps_try_asMany (hs : X.stack = X.env :: X.outer) (hf : X.env.frame = some X.env.locals) (hN : X.N.Nodup) (hi : X.N[i]? = some n) (hln : X.env.kindOf n = some .local) (tk : Takes X Wout)
    (hb : ∀ (W : WX) (pn : List (Addr × Obj)) (xe : Value → Shared → Prop), Takes (X.tr pn xe) W → PassesOwn (model X.prog X.w) X.A X.env xe → PSs (X.tr pn xe) body (tb W))
    (hh : HdsAs X n (h₀ :: hds) l) : PS X (.Try body (h₀ :: hds) [] [] pos) (fun D σ H => tb (wAsMany X.K i Wout D l) D σ H) := by
  refine ⟨fun pins s σ H D I h => ?_⟩
  have ok := I.ok
  have hfr : X.A.frames = some (X.env :: X.outer) := by rw [ok.frames, hs]
  have hloc : Loc X.env.scope n := .inl hln
  refine wpAny_Try_except ?_
  refine wpAny_mono ((hb (wAsMany X.K i Wout D l) (X.pn ++ pins) (fun e s₁ => wpAny (model X.prog X.w) X.A (noteFrame e X.env) (fun _ s₂ => wpAny (model X.prog X.w) X.A (setFlight e none) (fun _ s₃ =>
    wpAny (model X.prog X.w) X.A (handleBy e X.env (h₀ :: hds)) (SP X pins D) X.xe s₃) X.xe s₂) X.xe s₁) (fun u s' xx => ?_) PassesOwn.looking).run [] s σ H D (I.toTry _) h) (fun f s1 hsp => ?_) (fun e s1 he => he)
  · obtain ⟨a, B, sI, pins', σ', H', cls, d, rfl, J', nb, up, sky, na, os, ag, w⟩ := xx
    have J : Inv X pins σ' H' sI := J'.ofTry ok
    have sky' : Sky B (X.env :: X.outer) a (Zc cls d) X.env.locals s'.heap := by rw [← hs]; exact sky
    show wpAny (model X.prog X.w) X.A (noteFrame (.ref a) X.env) _ _ _
    refine Sky.land Zc.steady hfr hf sky' fun h3 fl3 up3 => ?_
    have J3 : Inv X pins σ' H' { s' with heap := h3 } := J.landed nb fl3.1 (up.trans up3) os ag
    obtain ⟨oe3, vs3, he3, hz3, hd3⟩ := fl3.there
    have notFr : ∀ {h : Heap} {o : Obj} {vs : Array Value}, h.FunFrames B (X.env :: X.outer) → h.get? a = some o → o.data = .fields vs → a ∉ frs (X.env :: X.outer) := fun {h o vs} ff e dd hm => by
      obtain ⟨_, o', e', hnf⟩ := ff.mem hm
      rw [e] at e'; cases e'
      exact hnf _ dd
    have nfr := notFr fl3.2.2.1 he3 hd3
    have nL : a ≠ X.env.locals := fun z => nfr (List.mem_filterMap.mpr ⟨X.env, List.mem_cons_self, by rw [hf, z]⟩)
    have nF : a ∉ X.fs := fun hm => by
      obtain ⟨e, he, q⟩ := List.mem_filterMap.mp hm
      exact nfr (List.mem_filterMap.mpr ⟨e, List.mem_cons_of_mem _ he, q⟩)
    have S3 := J3.suite he3 hd3 na nL nF
    have go : ∀ {hds' : List ExceptHandler} {l' : List (Value × (Addr → Value → Option Addr → TS))}, HdsAs X n hds' l' → wAsMany X.K i Wout D l' cls d σ' H' →
        wpAny (model X.prog X.w) X.A (handleBy (.ref a) X.env hds') (SP X pins D) X.xe { s' with heap := h3 } := by
      intro hds' l' hk
      induction hk with
      | nil =>
        intro w
        refine wpAny_handleBy_nil ?_
        obtain ⟨k1, k2, k3, oe, vs, T, oT, ts', he, hz, hd, h1, hr⟩ := id fl3
        unfold PySem.passOn
        refine wpAny_bind (wpAny_field he hd h1 ?_)
        rw [if_neg (show ¬ ((Value.ref T == Value.none) = true) from by simp)]
        have fin : wpAny (model X.prog X.w) X.A (setFlight (.ref a) X.env.frame) (fun _ s4 => wpAny (model X.prog X.w) X.A (throw (.ref a) : Sem Flow) (SP X pins D) X.xe s4) X.xe { s' with heap := h3 } := by
          rw [hf]
          refine HandSPX.setFlight_upZ fl3 fun h4 hh4 up4 => wpAny_throw (tk _ _ ?_)
          exact ⟨a, B, sI, pins, σ', H', cls, d, rfl, J, nb, (up.trans up3).trans up4, .inr (.inr (by rw [hs]; exact hh4)), na, os, ag, w⟩
        first
          | exact wpAny_bind (wpAny_pure (wpAny_bind fin))
          | exact wpAny_bind fin
      | @cons x c ts b₀ suite np pos' hds2 l2 hc hsu r ih =>
        intro w
        obtain ⟨b, hb1, hyes, hno⟩ := w
        refine wpAny_handleBy_cons (codeAny_handlers_test ?_) (by intro q; cases q)
        have LT : PySem.W.Looks (model X.prog X.w) h3 (typeOf (.ref a)) cls := fun A Q E s k q => wpAny_typeOf_ref (k _ _ he3) (by rw [hz3.1]; exact q)
        have LM := PySem.W.exm_one (M := model X.prog X.w) (J3.kIn) LT hb1
        have test : ∀ {Q : Value → Shared → Prop} {E : Value → Shared → Prop}, Q c { s' with heap := h3 } → wpAny (model X.prog X.w) (X.A.mark (some (.ref a))) (eval (.Name x np) X.env) Q E { s' with heap := h3 } := fun {Q E} q => by
          obtain ⟨hg, hdbg, hm | ⟨hm, hv, hnn⟩⟩ := hc
          · exact ld_glob (X := X.suite a ((a, oe3) :: (X.pn ++ pins))) S3 hg hm q hdbg
          · exact ld_blt (X := X.suite a ((a, oe3) :: (X.pn ++ pins))) S3 hg hm hv q hnn hdbg
        refine test (LM.here ?_)
        cases b with
        | true =>
          refine codeAny_handlers_suite_as ?_
          refine HandSPX.lands_againZ fl3 fun h4 fl4 up4 => ?_
          have J4 : Inv X pins σ' H' { s' with heap := h4 } := J.landed nb fl4.1 ((up.trans up3).trans up4) os ag
          obtain ⟨oe4, vs4, he4, hz4, hd4⟩ := fl4.there
          have S4 := J4.suite he4 hd4 na nL nF
          refine store_ok (X := X.suite a ((a, oe4) :: (X.pn ++ pins))) (v := .ref a) S4 hN hi hloc rfl (fun s5 S5 => ?_) (.inr hln)
          refine wpAny_mono ((hsu a oe4 cls d (X.pn ++ pins) hz4 ⟨_, hd4⟩).run [] s5 _ H' _ S5 (hyes rfl a na)) (fun f s6 hsp => ?_) (fun _ _ z => False.elim z)
          have end_ : ∀ {σ6 : L2.St} {H6 : Hp} {Q : Shared → Prop}, Inv (X.suite a ((a, oe4) :: (X.pn ++ pins))) [] σ6 H6 s6 → (∀ s7, Inv X pins (σ6.set i none) H6 s7 → Q s7) →
              wpAny (model X.prog X.w) X.A (do bindName X.env n .none; unbindBehindTheSuite X.env n pos') (fun _ s7 => Q s7) X.xe s6 := fun {σ6 H6 Q} S6 hq => gone_ok (S6.unsuite ok) hN hi hln hq
          cases f with
          | next =>
            obtain ⟨σ6, H6, S6, q6⟩ := hsp
            exact end_ S6 fun s7 J7 => ⟨_, _, J7, q6⟩
          | brk =>
            obtain ⟨σ6, H6, S6, q6⟩ := hsp
            exact end_ S6 fun s7 J7 => ⟨_, _, J7, q6⟩
          | cont =>
            obtain ⟨σ6, H6, S6, q6⟩ := hsp
            exact end_ S6 fun s7 J7 => ⟨_, _, J7, q6⟩
          | ret u =>
            obtain ⟨v6, σ6, H6, S6, r6, q6⟩ := hsp
            exact end_ S6 fun s7 J7 => ⟨_, _, _, J7, r6, q6⟩
        | false =>
          show wpAny _ X.A (handleBy (.ref a) X.env hds2) _ _ _
          exact ih (hno rfl)
    exact go hh w
  · cases f with
    | next =>
      obtain ⟨σ', H', J', q⟩ := hsp
      exact wpAny_execs_nil ⟨σ', H', J'.ofTry ok, q⟩
    | brk =>
      obtain ⟨σ', H', J', q⟩ := hsp
      exact ⟨σ', H', J'.ofTry ok, q⟩
    | cont =>
      obtain ⟨σ', H', J', q⟩ := hsp
      exact ⟨σ', H', J'.ofTry ok, q⟩
    | ret u =>
      obtain ⟨v, σ', H', J', r, q⟩ := hsp
      exact ⟨v, σ', H', J'.ofTry ok, r, q⟩
end
end DTx
end
section
set_option Elab.async false
set_option linter.all false
set_option maxRecDepth 100000
set_option maxHeartbeats 4000000
/-! the data layer 13: try, what a clause holds -/
namespace DL
open PySem PySem.Spec PyProof.Rows L2

/-- the own exception classes: each with those that it is one of -/
structure ETab (K : PySem.W.Frag) (mg : Str → Option Value) (tab : List (Str × List Str)) : Prop where
  at_ : ∀ p ∈ tab, ∃ C, mg p.1 = some (.ref C) ∧ XfC K C ∧ PySem.W.findIn K (.ref C) "what" = some none ∧ ExcC K C ∧
    ∀ q ∈ tab, ∃ Hq, mg q.1 = some (.ref Hq) ∧ PySem.W.exmOne K (.ref C) (.ref Hq) = some (p.2.contains q.1) ∧ PySem.W.kitOne K (.ref C) (.ref Hq) = some (p.2.contains q.1)
def inT (tab : List (Str × List Str)) (c : Str) : Option (List Str) := (tab.find? fun p => decide (p.1 = c)).map (·.2)
def subT (tab : List (Str × List Str)) (c h : Str) : Option Bool := if (inT tab h).isSome = true then (inT tab c).map (·.contains h) else none
theorem inT_mem {tab : List (Str × List Str)} {c : Str} {l : List Str} (h : inT tab c = some l) : (c, l) ∈ tab := by
  obtain ⟨p, e, rfl⟩ := Option.map_eq_some_iff.mp h
  have h1 := List.mem_of_find?_eq_some e
  have h2 := of_decide_eq_true (List.find?_some (p := fun p : Str × List Str => decide (p.1 = c)) e)
  rw [← h2]
  exact h1
theorem subT_of {tab : List (Str × List Str)} {c h : Str} {b : Bool} (e : subT tab c h = some b) : ∃ l lh, (c, l) ∈ tab ∧ (h, lh) ∈ tab ∧ b = l.contains h := by
  unfold subT at e
  split at e
  · rename_i hs
    obtain ⟨lh, e2⟩ := Option.isSome_iff_exists.mp hs
    obtain ⟨l, e1, rfl⟩ := Option.map_eq_some_iff.mp e
    exact ⟨l, lh, inT_mem e1, inT_mem e2, rfl⟩
  · cases e
theorem ETab.mg_at {K : PySem.W.Frag} {mg : Str → Option Value} {tab : List (Str × List Str)} {x : Str} (T : ETab K mg tab) (h : (inT tab x).isSome = true) : ∃ C, mg x = some (.ref C) := by
  obtain ⟨l, e⟩ := Option.isSome_iff_exists.mp h
  obtain ⟨C, hC, _⟩ := T.at_ _ (inT_mem e)
  exact ⟨C, hC⟩
mutual
def noE : D → Bool
  | .tup xs => noEs xs
  | .lst xs => noEs xs
  | .exn _ _ => false
  | _ => true
def noEs : List D → Bool
  | [] => true
  | d :: ds => noE d && noEs ds
end
def noEM : M → Bool
  | .lst ds => noEs ds
  | .dct kvs => kvs.all fun p => noE p.2
def Ix.held (ι : Ix) (x : Option (Addr × Str × Addr)) : Ix := ⟨ι.v, ι.h, x⟩
section
variable {K : PySem.W.Frag} {ι : Ix} {H : Hp} {a : Addr} {x : Option (Addr × Str × Addr)} {S : Store}
mutual
theorem Rep.held : ∀ (d : D) (v : V), noE d = true → Rep K ι H d v → Rep K (ι.held x) H d v
  | .non, _, _, h => by cases h; exact .non
  | .bl b, _, _, h => by cases h; exact .bl b
  | .int i, _, _, h => by cases h; exact .int i
  | .str x, _, _, h => by cases h; exact .str x
  | .tup ds, _, c, h => by
    cases h with
    | tup hs hr => exact .tup hs (Reps.held ds _ c hr)
  | .lst ds, _, c, h => by
    cases h with
    | lst hs hr => exact .lst hs (Reps.held ds _ c hr)
  | .ref n, _, _, h => by
    cases h with
    | ref hn => exact .ref hn
  | .exn e d, _, c, _ => by simp [noE] at c
theorem Reps.held : ∀ (ds : List D) (vs : List V), noEs ds = true → Reps K ι H ds vs → Reps K (ι.held x) H ds vs
  | [], _, _, h => by cases h; exact .nil
  | d :: ds, _, c, h => by
    have c' : (noE d && noEs ds) = true := c
    rw [Bool.and_eq_true] at c'
    cases h with
    | cons h1 h2 => exact .cons (Rep.held d _ c'.1 h1) (Reps.held ds _ c'.2 h2)
end
theorem noEs_ints : ∀ ns : List Int, noEs (ns.map D.int) = true
  | [] => rfl
  | n :: ns => by
    show (noE (.int n) && noEs (ns.map D.int)) = true
    rw [noEs_ints ns]
    rfl
theorem noE_keyD (q : DKx.PK) : noE (keyD q) = true := by
  show (noE (.int q.1) && (noE (.tup (q.2.map D.int)) && true)) = true
  rw [show noE (.tup (q.2.map D.int)) = noEs (q.2.map D.int) from rfl, noEs_ints]
  rfl
theorem RepM.held {m : M} (c : noEM m = true) (r : RepM K ι H a m) : RepM K (ι.held x) H a m := by
  cases m with
  | lst ds =>
    obtain ⟨xs, q, s⟩ := r
    exact ⟨xs, q, Reps.held _ _ c s⟩
  | dct kvs =>
    obtain ⟨r1, r2, r3, xs, q, s⟩ := r
    refine ⟨r1, r2, r3, xs, q, Paired.mapM s fun p hp y z => ?_⟩
    obtain ⟨z1, z2, v, z3, z4⟩ := z
    exact ⟨z1, Rep.held _ _ (noE_keyD _) z2, v, Rep.held _ _ (List.all_eq_true.mp c p hp) z3, z4⟩
theorem good_held (g : Good K ι H S) (c : S.all noEM = true) : Good K (ι.held x) H S := ⟨g.len, g.nd, g.dj, g.tr, fun n m a h1 h2 => (g.obj n m a h1 h2).held (List.all_eq_true.mp c m (List.mem_of_getElem? h1))⟩
theorem keep_unheld {ι2 : Ix} {H2 : Hp} (k : Keep (ι.held x) H ι2 H2) : Keep ι H (ι2.held ι.x) H2 := ⟨k.pre, k.hid, k.new, k.old, k.hst, fun _ h => h⟩
theorem srep_none {σ : L2.St} {n : Nat} (h : σ.length = n) : SRep K ι H σ (List.replicate n none) := ⟨by simp [h], fun i d e => by
  rw [List.getElem?_replicate] at e
  split at e <;> cases e⟩
end

/-! ### what try does -/
def evHd (nN i : Nat) (f : DEnv → Store → R Fl) (c : Str) (d : D) (S : Store) : R Fl :=
  if noE d = true ∧ S.all noEM = true then match f ((List.replicate nN none).set i (some (.exn c d))) S with
    | .ok (.rt v) S2 => if noE v = true ∧ S2.all noEM = true then .ok (.rt v) S2 else .bad
    | .ok (.nx δ) S2 => if δ.length = nN ∧ S2.all noEM = true then .ok (.nx (List.replicate nN none)) S2 else .bad
    | _ => .bad
  else .bad
def evHds (tab : List (Str × List Str)) (nN i : Nat) : List (Str × (DEnv → Store → R Fl)) → Str → D → Store → R Fl
  | [], c, d, S => .exc c d S
  | (h, f) :: r, c, d, S => match subT tab c h with
    | some true => evHd nN i f c d S
    | some false => evHds tab nN i r c d S
    | none => .bad
def evTry (tab : List (Str × List Str)) (nN i : Nat) (fb : DEnv → Store → R Fl) (hs : List (Str × (DEnv → Store → R Fl))) : DEnv → Store → R Fl := fun δ S => match fb δ S with
  | .exc c d S1 => evHds tab nN i hs c d S1
  | r => r
/-- within a clause's suite -/
structure Held (tab : List (Str × List Str)) (X : Cx) (a : Addr) (oe : Obj) (Y : Yc) : Prop where
  ex : ∃ cn l C dd, (cn, l) ∈ tab ∧ X.mg cn = some (.ref C) ∧ Zc (.ref C) (some dd) oe ∧ (∃ vs, oe.data = .fields vs) ∧ Y.ι0.x = some (a, cn, dd)
def HSu (tab : List (Str × List Str)) (X : Cx) (suite : List Stmt) (f : DEnv → Store → R Fl) : Prop := ∀ (a : Addr) (oe : Obj) (pn : List (Addr × Obj)) (Y : Yc), Held tab X a oe Y → SB (X.suite a ((a, oe) :: pn)) Y suite f
inductive SHs (tab : List (Str × List Str)) (X : Cx) (n : Str) : List ExceptHandler → List (Str × (DEnv → Store → R Fl)) → Prop
  | nil : SHs tab X n [] []
  | cons {x : Str} {b₀ : Stmt} {suite : List Stmt} {np pos' : Pos} {hds : List ExceptHandler} {f : DEnv → Store → R Fl} {l : List (Str × (DEnv → Store → R Fl))} (hg : Gl X x) (hdb : (x == ("__debug__" : Str)) = false) (hm : ∃ C, X.mg x = some (.ref C)) (hs : HSu tab X (b₀ :: suite) f) (r : SHs tab X n hds l) :
      SHs tab X n (.ExceptHandler (some (.Name x np)) (some n) (b₀ :: suite) pos' :: hds) ((x, f) :: l)
section
variable {X : Cx} {Y : Yc} {tab : List (Str × List Str)} {n : Str} {i : Nat}
def hTs (tab : List (Str × List Str)) (X : Cx) (f : DEnv → Store → R Fl) : Addr → Value → Option Addr → TS := fun a cls d Dn σ H => ∃ cn l C dd Y', (cn, l) ∈ tab ∧ X.mg cn = some (.ref C) ∧ cls = .ref C ∧ d = some dd ∧ Y'.ι0.x = some (a, cn, dd) ∧ tlS X.K Y' f Dn σ H
def hL (tab : List (Str × List Str)) (X : Cx) (l : List (Str × (DEnv → Store → R Fl))) : List (Value × (Addr → Value → Option Addr → TS)) := l.map fun p => ((X.mg p.1).getD .none, hTs tab X p.2)
theorem hds_as {hds : List ExceptHandler} {l : List (Str × (DEnv → Store → R Fl))} (h : SHs tab X n hds l) : DTx.HdsAs X n hds (hL tab X l) := by
  induction h with
  | nil => exact .nil
  | @cons x b₀ suite np pos' hds f l hg hdb hm hs r ih =>
    obtain ⟨C, hm⟩ := hm
    refine DTx.HdsAs.cons ⟨hg, hdb, .inl (by rw [hm]; rfl)⟩ (fun a oe cls d pn hz hf => ?_) ih
    refine ⟨fun pins s σ H Dn I ⟨cn, l, C', dd, Y', h1, h2, h3, h4, h5, h6⟩ => ?_⟩
    subst h3 h4
    exact (hs a oe pn Y' ⟨cn, l, C', dd, h1, h2, hz, hf, h5⟩).run pins s σ H Dn I h6
theorem ss_try {body : List Stmt} {h₀ : ExceptHandler} {hds : List ExceptHandler} {l : List (Str × (DEnv → Store → R Fl))} {fb : DEnv → Store → R Fl} {pos : Pos} (nN : Nat) (T : ETab X.K X.mg tab) (air : Air X Y) (hs : X.stack = X.env :: X.outer) (hf : X.env.frame = some X.env.locals) (hN : X.N.Nodup) (hi : X.N[i]? = some n) (hln : X.env.kindOf n = some .local) (hn : X.N.length = nN)
    (hb : ∀ (pn : List (Addr × Obj)) (xe : Value → Shared → Prop) (Y' : Yc), Air (X.tr pn xe) Y' → PassesOwn (model X.prog X.w) X.A X.env xe → SB (X.tr pn xe) Y' body fb)
    (hh : SHs tab X n (h₀ :: hds) l) : SS X Y (.Try body (h₀ :: hds) [] [] pos) (evTry tab nN i fb l) := by
  obtain ⟨E0, tk, hE⟩ := air.ex
  have base := DTx.ps_try_asMany (pos := pos) (i := i) (n := n) (Wout := fun cls d _ H => E0 cls d H) (tb := fun W Dn σ H => ∃ Y' : Yc, (∀ c d ι H S, Keep Y'.ι0 Y'.H0 ι H → Good X.K ι H S → Y'.EX c d ι H S → exE X.K X.mg (fun cls d H => ∀ σ : L2.St, σ.length = nN → W cls d σ H) c d ι H S) ∧ tlS X.K Y' fb Dn σ H)
    hs hf hN hi hln tk (fun W pn xe tkW po => ⟨fun pins s σ H Dn I ⟨Y', hY, hl⟩ => (hb pn xe Y' ⟨_, fun u s' ⟨a, B, sI, pins, σ, H, cls, d, e, I, nb, up, sky, na, os, ag, w⟩ => tkW u s' ⟨a, B, sI, pins, σ, H, cls, d, e, I, nb, up, sky, na, os, ag, w σ (I.len.trans hn)⟩, hY⟩ po).run pins s σ H Dn I hl⟩) (hds_as hh)
  refine PS.imp base fun Dn σ H ⟨ι, δ, S, k, sr, g, q⟩ => ?_
  refine ⟨⟨ι, H, fun c d ι1 H1 S1 => Post X.K Y.EX ι1 H1 (pS X.K Dn) (evHds tab nN i l c d S1)⟩, fun c d ι1 H1 S1 k1 g1 q1 cls dd x => ?_, ι, δ, S, Keep.refl _ _, sr, g, ?_⟩
  · obtain ⟨C, a', v, hm, rfl, rfl, hna, hx, hrep⟩ := x
    intro σ' hl'
    have key : ∀ l' : List (Str × (DEnv → Store → R Fl)), Post X.K Y.EX ι1 H1 (pS X.K Dn) (evHds tab nN i l' c d S1) → DTx.wAsMany X.K i (fun cls d _ H => E0 cls d H) Dn (hL tab X l') (.ref C) (some a') σ' H1 := by
     intro l'
     induction l' with
     | nil => exact fun q1 => hE c d ι1 H1 S1 (k.trans k1) g1 (q1 ι1 H1 (Keep.refl _ _) g1) _ _ ⟨C, a', v, hm, rfl, rfl, hna, hx, hrep⟩
     | cons p r ih =>
       obtain ⟨h, f⟩ := p
       intro q1
       unfold evHds at q1
       cases es : subT tab c h with
       | none => rw [es] at q1; exact q1.elim
       | some b =>
         rw [es] at q1
         obtain ⟨lc, lh, m1, m2, eb⟩ := subT_of es
         obtain ⟨C', hm', _, _, _, hq⟩ := T.at_ _ m1
         have eC : C' = C := by
           have z := hm'.symm.trans hm
           cases z
           rfl
         subst eC
         obtain ⟨Hq, hmq, hex, _⟩ := hq _ m2
         refine ⟨b, ?_, fun hb' a ha => ?_, fun hb' => ?_⟩
         · rw [hmq, eb]
           exact hex
         · subst hb'
           simp only [evHd] at q1
           split at q1
           · rename_i hc
             refine ⟨c, lc, C', a', ⟨ι1.held (some (a, c, a')), H1, fun _ _ _ _ _ => False⟩, m1, hm, rfl, rfl, rfl, ι1.held (some (a, c, a')), _, S1, Keep.refl _ _, SRep.set (ι := ι1.held (some (a, c, a'))) (srep_none hl') (.exn rfl hna hx (Rep.held _ _ hc.1 hrep)) i, good_held g1 hc.2, ?_⟩
             cases ef : f ((List.replicate nN none).set i (some (.exn c d))) S1 with
             | bad => rw [ef] at q1; exact q1.elim
             | exc _ _ _ => rw [ef] at q1; exact q1.elim
             | ok fl S2 =>
               rw [ef] at q1
               cases fl with
               | rt w =>
                 simp only at q1
                 split at q1
                 · rename_i hc2
                   simp only [ef]
                   intro ι2 H2 k2 g2 v2 r2
                   exact q1 _ _ (keep_unheld k2) (good_held g2 hc2.2) v2 (Rep.held _ _ hc2.1 r2)
                 · exact q1.elim
               | nx δ2 =>
                 simp only at q1
                 split at q1
                 · rename_i hc2
                   simp only [ef]
                   intro ι2 H2 k2 g2 σ2 sr2
                   exact q1 _ _ (keep_unheld k2) (good_held g2 hc2.2) _ (srep_none (by rw [List.length_set, sr2.1]; exact hc2.1))
                 · exact q1.elim
               | bk _ => exact q1.elim
               | ct _ => exact q1.elim
           · exact q1.elim
         · subst hb'
           exact ih q1
    exact key l q1
  · unfold evTry at q
    cases e : fb δ S with
    | ok fl S1 => rw [e] at q; exact q
    | bad => rw [e] at q; exact q.elim
    | exc c d S1 =>
      rw [e] at q
      exact fun ι1 H1 k1 g1 => Post.mono k1 q
/-! ### what a clause's suite says of what it holds -/
def evWhat (fe : DEnv → Store → R D) : DEnv → Store → R D := fun δ S => (fe δ S).bind fun d S1 => match d with
  | .exn _ p => .ok p S1
  | _ => .bad
def evIsE (tab : List (Str × List Str)) (h : Str) (fe : DEnv → Store → R D) : DEnv → Store → R D := fun δ S => (fe δ S).bind fun d S1 => match d with
  | .exn c _ => ofO ((subT tab c h).map fun b => (.bl b, S1))
  | _ => .bad
theorem se_what {a : Addr} {oe : Obj} {pn : List (Addr × Obj)} {e : Expr} {fe : DEnv → Store → R D} {pos : Pos} (T : ETab X.K X.mg tab) (h : Held tab X a oe Y) (he : SE (X.suite a ((a, oe) :: pn)) Y e fe) (hb : attributeBase e "what" X.env (eval e X.env) = eval e X.env := by rfl) :
    SE (X.suite a ((a, oe) :: pn)) Y (.Attribute e "what" pos) (evWhat fe) := by
  obtain ⟨cn, l, C, dd, m1, hm, hz, hf, hx0⟩ := h.ex
  obtain ⟨C', hm', xf, nw, _⟩ := T.at_ _ m1
  have eC : C' = C := by
    have z := hm'.symm.trans hm
    cases z
    rfl
  subst eC
  refine PE.imp (pe_xf (d := some dd) xf nw hz hf he hb) fun σ H Q ⟨ι, δ, S, k, sr, g, q⟩ => ?_
  refine ⟨ι, δ, S, k, sr, g, Post.seq q fun d1 ι1 H1 S1 k1 g1 q1 => fun v rv => ?_⟩
  cases rv with
  | @exn c p a2 d2 v2 h1 h2 h3 h4 =>
    have hx := (k.trans k1).cur _ hx0
    rw [hx] at h1
    have z := Option.some.inj h1
    simp only [Prod.mk.injEq] at z
    obtain ⟨rfl, rfl, rfl⟩ := z
    exact ⟨rfl, rfl, _, _, v2, rfl, h3, rfl, q1 ι1 H1 (Keep.refl _ _) g1 v2 h4⟩
  | _ => exact q1.elim
theorem se_isE {a : Addr} {oe : Obj} {pn : List (Addr × Obj)} {e : Expr} {y : Str} {fe : DEnv → Store → R D} {p p2 pos : Pos} (T : ETab X.K X.mg tab) (h : Held tab X a oe Y) (hm0 : X.mg "isinstance" = none) (hy : (inT tab y).isSome = true) (he : SE (X.suite a ((a, oe) :: pn)) Y e fe) (hg : Gl X "isinstance" := by rfl) (hgT : Gl X y := by rfl)
    (hs : starEach [e, .Name y p2] X.env = (false, eval e X.env) :: starEach [.Name y p2] X.env := by rfl) (hdb : (y == ("__debug__" : Str)) = false := by decide) :
    SE (X.suite a ((a, oe) :: pn)) Y (.Call (.Name "isinstance" p) [e, .Name y p2] [] pos) (evIsE tab y fe) := by
  obtain ⟨cn, l, C, dd, m1, hm, hz, hf, hx0⟩ := h.ex
  obtain ⟨C', hm', xf, nw, ec, hq⟩ := T.at_ _ m1
  have eC : C' = C := by
    have z := hm'.symm.trans hm
    cases z
    rfl
  subst eC
  obtain ⟨ly, ey⟩ := Option.isSome_iff_exists.mp hy
  obtain ⟨Hq, hmq, _, _⟩ := hq _ (inT_mem ey)
  refine PE.imp (pe_callB (X := X.suite a ((a, oe) :: pn)) (DTx.call_isD (dd := dd) ec hz hf) hg hm0 (by decide +kernel) (pa_cons he (pa_cons (pe_glob (X := X.suite a ((a, oe) :: pn)) (v := .ref Hq) hgT hmq rfl hdb) pa_nil rfl) hs) (by decide) (by decide) hs rfl) fun σ H Q ⟨ι, δ, S, k, sr, g, q⟩ => ?_
  refine ⟨ι, δ, S, k, sr, g, Post.seq q fun d1 ι1 H1 S1 k1 g1 q1 => fun v rv => ?_⟩
  cases rv with
  | @exn c p a2 d2 v2 h1 h2 h3 h4 =>
    have hx := (k.trans k1).cur _ hx0
    rw [hx] at h1
    have z := Option.some.inj h1
    simp only [Prod.mk.injEq] at z
    obtain ⟨rfl, rfl, rfl⟩ := z
    simp only at q1
    cases es : subT tab cn y with
    | none => rw [es] at q1; exact q1.elim
    | some b =>
      rw [es] at q1
      obtain ⟨lc, lh, n1, n2, eb⟩ := subT_of es
      obtain ⟨C2, hm2, _, _, _, hq2⟩ := T.at_ _ n1
      have eC : C2 = C' := by
        have z := hm2.symm.trans hm
        cases z
        rfl
      subst eC
      obtain ⟨H2q, hm2q, _, hk⟩ := hq2 _ n2
      have eH : H2q = Hq := by
        have z := hm2q.symm.trans hmq
        cases z
        rfl
      subst eH
      refine ⟨.ref H2q, .ref H2q, b, _, rfl, h3, fun u hu => hu, by rw [eb]; exact hk, q1 ι1 H1 (Keep.refl _ _) g1 _ (.bl b)⟩
  | _ => exact q1.elim
end
end DL
end
section
set_option Elab.async false
set_option linter.all false
set_option maxRecDepth 100000
set_option maxHeartbeats 4000000
/-! the data layer's head: a Hook with the own exceptions' facts; the end -/
namespace DLH
open PySem PySem.W PySem.Spec PyProof.Rows L2 He
def asK (g : Addr → Option Obj) : Nat → List Addr
  | 0 => [mainGlobals, cStatics]
  | n + 1 => growD g (asK g n)
abbrev IV : Type := Option (Str × Str × Arguments × FuncBody × Scope × Addr × Addr × Value)
def initObs (K : Frag) (root : Str) : IV := match K.lookup (fAd K (root, some "__init__")) with
  | some ⟨_, _, .func fd, _⟩ => some (fd.name, fd.qualname, fd.params, fd.body, fd.scope, fd.globals, fd.builtins, fd.defaults)
  | _ => none
abbrev AlK : Type := AlD × Bool × IV
def obsK (n : Nat) (fa : List Fa) (fn : List DefD) (ex : Frag → Bool) (root : Str) (g : Addr → Option Obj) : AlK := (obsD fa fn (frG g (asK g n)), ex (frG g (asK g n)), initObs (frG g (asK g n)) root)
def SaysK (fa : List Fa) (fn : List DefD) (ex : Frag → Bool) (root : Str) (iv : IV) (K : Frag) : Prop := SaysD fa fn K ∧ ex K = true ∧ initObs K root = iv
def hookK (n : Nat) (fa : List Fa) (fn : List DefD) (ex : Frag → Bool) (root : Str) (iv : IV) : Hook where
  α := AlK
  obs := fun s => obsK n fa fn ex root s.heap.get?
  val := fun _ => (valD fn, true, iv)
  says := fun _ h => ∃ K : Frag, K.In h ∧ SaysK fa fn ex root iv K
  of := fun _ _ e => ⟨_, frG_in, congrArg (fun z : AlK => z.1) e, congrArg (fun z : AlK => z.2.1) e, congrArg (fun z : AlK => z.2.2) e⟩
  keeps := fun _ _ _ ⟨K, hK, c⟩ k => ⟨K, Frag.In.keeps hK k, c⟩
theorem obsK_eq {n : Nat} {fa : List Fa} {fn : List DefD} {ex : Frag → Bool} {root : Str} {iv : IV} {g : Addr → Option Obj} {s : Shared} (h : ∀ a, g a = s.heap.get? a) : obsK n fa fn ex root g = (hookK n fa fn ex root iv).obs s := by
  have e : g = s.heap.get? := funext h
  rw [e] <;> rfl
/-! ### what the Bools say -/
def oexB (K : Frag) (C : Addr) : Bool := (match K.lookup C with
  | some ⟨.type t, _, .cls cd, sl⟩ => decide (t = "type") && (match cd.mro, sl.toList with
    | .ref C' :: bm, [_, _, _, _, some (.builtin n), _] => decide (C' = C) && (decide (n = "ValueError.__new__") && (cd.hasDict && (!cd.hasDel && PySem.HandSPX.refsVE bm)))
    | _, _ => false)
  | _ => false) && (decide (findIn K (.ref C) "__setattr__" = some (some (.builtin "object.__setattr__"))) && (decide (subIn K (.ref C) (.type "BaseException") = some true) && (decide (typeIn K (.ref C) = some (.type "type")) && keepIn K (.ref C))))
theorem oexB_ok {K : Frag} {C : Addr} (h : oexB K C = true) : OexC K C := by
  obtain ⟨h1, h⟩ := ba h
  obtain ⟨h2, h⟩ := ba h
  obtain ⟨h3, h⟩ := ba h
  obtain ⟨h4, h5⟩ := ba h
  refine ⟨?_, of_decide_eq_true h2, of_decide_eq_true h3, of_decide_eq_true h4, h5⟩
  split at h1
  · rename_i t dd cd sl ho
    obtain ⟨ht, h1⟩ := ba h1
    split at h1
    · rename_i C' bm k0 k1 k2 k3 n k5 hm hs
      obtain ⟨e1, h1⟩ := ba h1
      obtain ⟨e2, h1⟩ := ba h1
      obtain ⟨e3, h1⟩ := ba h1
      obtain ⟨e4, e5⟩ := ba h1
      have e1 := of_decide_eq_true e1
      have e2 := of_decide_eq_true e2
      have ht := of_decide_eq_true ht
      subst e1 e2 ht
      obtain ⟨nm, bs, mro, ns, qn, hd, sn, sub, ab, col, del⟩ := cd
      dsimp only at hm e3 e4
      have e4' : del = false := by simpa using e4
      subst hm e3 e4'
      have hsl : sl = #[k0, k1, k2, k3, some (.builtin "ValueError.__new__"), k5] := by
        obtain ⟨l⟩ := sl
        simp only at hs
        rw [hs]
      subst hsl
      exact ⟨nm, qn, ns, bs, bm, sn, sub, ab, col, dd, k0, k1, k2, k3, k5, ho, e5⟩
    · cases h1
  · cases h1
def supCB (K : Frag) (C D : Addr) : Bool := oexB K C && (decide (mroIn K C (.ref D) = some true) && (decide (ks_superIn K C D "__init__" = some (some (.builtin "ValueError.__init__"))) && (decide (subIn K (.ref C) (.type "ValueError") = some true) && decide (findIn K (.ref C) "what" = some none))))
theorem supCB_ok {K : Frag} {C D : Addr} (h : supCB K C D = true) : DXi.SupC K C D := by
  obtain ⟨h1, h⟩ := ba h
  obtain ⟨h2, h⟩ := ba h
  obtain ⟨h3, h⟩ := ba h
  obtain ⟨h4, h5⟩ := ba h
  exact ⟨oexB_ok h1, of_decide_eq_true h2, of_decide_eq_true h3, of_decide_eq_true h4, of_decide_eq_true h5⟩
def supIB (P : Program) (K : Frag) (root : Str) : Bool := (match K.lookup (fAd K (root, some "__init__")) with
  | some ⟨_, _, .func fd, _⟩ => (match fd.closure, fd.code with
    | [(n, cc)], .ref cda => decide (n = "__class__") && (codeIn K (.ref cda) fd.qualname && ((match K.lookup cc with
      | some ⟨_, _, .cell (some (.ref D)), _⟩ => decide (D = ga K root)
      | _ => false) && (match K.lookup cda with
      | some ⟨_, _, .fields vs, _⟩ => (match vs[2]? with
        | some (Value.str file _) => (P.main.file : Str) == file
        | _ => false)
      | _ => false)))
    | _, _ => false)
  | _ => false) && ((clsIn K (ga K root)).isSome && (decide (nsIn K mainGlobals "super" = some none) && (!(P.main.scope.names.lookup ("super" : Str)).isSome && decide (nsIn K cStatics "thirdparty.any" = some none))))
theorem supIB_ok {P : Program} {K : Frag} {root : Str} {qual : Str} {params : Arguments} {body : List Stmt} {scope : Scope} {ar : Arg} (h : supIB P K root = true) (hi : initObs K root = (some (("__init__" : Str), qual, params, FuncBody.stmts body, scope, mainGlobals, builtinsNs, Value.none) : IV)) (hp : (params.posonlyargs ++ params.args).head? = some ar) (ha : ar.arg = "self") :
    ∃ fd, DXi.SupI P K (ga K root) (fAd K (root, some "__init__")) fd scope body ∧ ∃ kV doc pm an cda ct cc, fd = ksFn "__init__" qual params body scope .none kV doc pm an (.ref cda) ct cc := by
  obtain ⟨h1, h⟩ := ba h
  obtain ⟨h2, h⟩ := ba h
  obtain ⟨h3, h⟩ := ba h
  obtain ⟨h4, h5⟩ := ba h
  unfold initObs at hi
  split at h1
  · rename_i oc od fd osl ho
    rw [ho] at hi
    split at h1
    · rename_i n cc cda hcl hcd
      obtain ⟨e1, h1⟩ := ba h1
      obtain ⟨e2, h1⟩ := ba h1
      obtain ⟨e3, e4⟩ := ba h1
      have e1 := of_decide_eq_true e1
      subst e1
      split at e3
      · rename_i cl cld D csl hcc
        have e3 := of_decide_eq_true e3
        subst e3
        split at e4
        · rename_i ccl cdd vs ccs hcda
          split at e4
          · rename_i file tf hvs
            obtain ⟨n1, n2, n3, n4, n5, n6, n7, n8, n9, n10, n11, n12, n13, n14, n15⟩ := fd
            simp only [Option.some.injEq, Prod.mk.injEq] at hi
            obtain ⟨z1, z2, z3, z4, z5, z6, z7, z8⟩ := hi
            dsimp only at hcl hcd e2
            subst z1 z2 z3 z4 z5 z6 z7 z8 hcl hcd
            refine ⟨_, ⟨⟨oc, od, n2, n3, .none, n9, n10, n11, n12, cda, n14, cc, osl, cl, cld, csl, ccl, cdd, vs, ccs, file, tf, ar, rfl, ho, e2, hcc, hcda, hvs, e4, hp, ha⟩, ?_, of_decide_eq_true h3, by simpa using h4, of_decide_eq_true h5⟩, n9, n10, n11, n12, cda, n14, cc, rfl⟩
            exact Option.isSome_iff_exists.mp h2
          · cases e4
        · cases e4
      · cases e3
    · cases h1
  · cases h1
def excCB (K : Frag) (D : Addr) : Bool := decide (findIn K (.ref D) "__getattribute__" = some (some (.builtin "BaseException.__getattribute__"))) && (decide (findIn K (.ref D) "__getattr__" = some none) && (decide (subIn K (.ref D) (.type "BaseException") = some true) && (hasDictIn K D && (decide (findIn K (.ref D) "__class__" = some (some (.builtin "object.__class__"))) &&
  (decide (specialIn K (.builtin "object.__class__") "__get__" = some (some (.builtin "getset_descriptor.__get__"))) && (decide (takesIn K (.builtin "object.__class__") = some true) && decide (mroIn K D (.type "object") = some true)))))))
theorem excCB_ok {K : Frag} {D : Addr} (h : excCB K D = true) : ExcC K D := by
  obtain ⟨h1, h⟩ := ba h
  obtain ⟨h2, h⟩ := ba h
  obtain ⟨h3, h⟩ := ba h
  obtain ⟨h4, h⟩ := ba h
  obtain ⟨h5, h⟩ := ba h
  obtain ⟨h6, h⟩ := ba h
  obtain ⟨h7, h8⟩ := ba h
  exact ⟨of_decide_eq_true h1, of_decide_eq_true h2, of_decide_eq_true h3, h4, of_decide_eq_true h5, of_decide_eq_true h6, of_decide_eq_true h7, of_decide_eq_true h8⟩
/-- the own classes: each under the root, caught as tab says -/
def tabB (K : Frag) (root : Str) (tab : List (Str × List Str)) : Bool := tab.all fun p => decide (nsIn K mainGlobals p.1 = some (some (.ref (ga K p.1)))) && (supCB K (ga K p.1) (ga K root) && (xfB K (ga K p.1) && (excCB K (ga K p.1) && (decide (findIn K (.ref (ga K p.1)) "__init__" = some (some (.ref (fAd K (root, some "__init__"))))) &&
  (tab.all fun q => decide (exmOne K (.ref (ga K p.1)) (.ref (ga K q.1)) = some (p.2.contains q.1)) && decide (kitOne K (.ref (ga K p.1)) (.ref (ga K q.1)) = some (p.2.contains q.1)))))))
theorem tabB_ok {K : Frag} {h : Heap} {mg : Str → Option Value} {root : Str} {tab : List (Str × List Str)} (X : K.In h) (G : h.Ns mainGlobals mg) (t : tabB K root tab = true) : DL.ETab K mg tab := ⟨fun p hp => by
  have z := List.all_eq_true.mp t p hp
  obtain ⟨h1, z⟩ := ba z
  obtain ⟨h2, z⟩ := ba z
  obtain ⟨h3, z⟩ := ba z
  obtain ⟨h4, z⟩ := ba z
  obtain ⟨h5, h6⟩ := ba z
  refine ⟨ga K p.1, mg_of X G (of_decide_eq_true h1), xfB_ok h3, (supCB_ok h2).no, excCB_ok h4, fun q hq => ?_⟩
  have y := List.all_eq_true.mp t q hq
  obtain ⟨y1, _⟩ := ba y
  obtain ⟨e1, e2⟩ := ba (List.all_eq_true.mp h6 q hq)
  exact ⟨ga K q.1, mg_of X G (of_decide_eq_true y1), of_decide_eq_true e1, of_decide_eq_true e2⟩⟩
theorem exC_ok {P : Program} {w : World} {K : Frag} {h base : Heap} {mg : Str → Option Value} {root x : Str} {l : List Str} {tab : List (Str × List Str)} {fd : FuncData} (X : K.In h) (G : h.Ns mainGlobals mg) (t : tabB K root tab = true) (hp : (x, l) ∈ tab) (tI : typeIn K (.ref (fAd K (root, some "__init__"))) = some (.type "function"))
    (F : FnOk P w K mg base (L2.CX P w) 1 (fAd K (root, some "__init__")) fd ["self", "what"] (DXi.spI K (ga K root))) (b : Binds K fd ["self", "what"] []) : DL.ExC P w K mg base x := by
  have z := List.all_eq_true.mp t _ hp
  obtain ⟨h1, z⟩ := ba z
  obtain ⟨h2, z⟩ := ba z
  obtain ⟨h3, z⟩ := ba z
  obtain ⟨h4, z⟩ := ba z
  obtain ⟨h5, h6⟩ := ba z
  exact ⟨ga K x, _, fd, ga K root, mg_of X G (of_decide_eq_true h1), supCB_ok h2, of_decide_eq_true h5, tI, F, b⟩
/-- a tuple of texts -/
def gtupB (K : Frag) (x : Str) (zs : List Str) : Bool := decide (nsIn K mainGlobals x = some (some (.ref (ga K x)))) && (match K.lookup (ga K x) with
  | some ⟨.type c, none, .seq its _, _⟩ => decide (c = "tuple") && (decide (its.size ≤ sizeLine) && relAll (zs.map V.str) its.toList)
  | _ => false)
theorem gtupB_ok {K : Frag} {h : Heap} {mg : Str → Option Value} {x : Str} {zs : List Str} (X : K.In h) (G : h.Ns mainGlobals mg) (t : gtupB K x zs = true) : DL.GTup K mg x zs := by
  obtain ⟨h1, h2⟩ := ba t
  refine ⟨ga K x, mg_of X G (of_decide_eq_true h1), ?_⟩
  split at h2
  · rename_i c its n sl ho
    obtain ⟨e1, h2⟩ := ba h2
    obtain ⟨e2, e3⟩ := ba h2
    have e1 := of_decide_eq_true e1
    subst e1
    exact ⟨_, its, n, ho, rfl, rfl, rfl, of_decide_eq_true e2, relAll_ok e3⟩
  · cases h2
/-! ### the end: the script's items within a number of bits -/
theorem walk_ofEB {l : OpenLaw} {n k : Nat} {q : Program} {loose : List Str} {XP : (Str → Option Value) → Heap → Prop} {YP : World → Heap → Prop} {d : DefRec} {CX : World → CXT} {x : Str}
    (hn : l.most = some n) (hn2 : n ≤ sizeLine) (hdf : d.params.defaults = []) (hr : Room k callerA)
    (F : ∀ (w : World) (mg : Str → Option Value) (fa : Addr) (h : Heap), YP w h → h.Ns mainGlobals mg → mg d.name = some (.ref fa) →
      ∃ (K : Frag) (fd : FuncData) (sp : Sp), K.In h ∧ (∀ (s : Shared) (u : Value), BindsTo s fd ⟨[u], []⟩ [(x, u)]) ∧
        (∀ (H : Hp) (a : Addr) (ns : List Int), ns.length ≤ n → (∀ z ∈ ns, Builtin.Int.intBits z ≤ 1048576) → Only H → SqL K H a (ns.map V.int) → sp [.ref a] H (fun v _ => v = .bl true) fun _ _ _ => False) ∧
        ∀ base : Heap, K.In base → base.Ns mainGlobals mg → FnOk l.prog w K mg base (CX w) k fa fd [x] sp)
    (hCX : ∀ (w : World) (H : Hp) (s : Shared) (e : Value) (s' : Shared), CX w [] H s (fun _ _ _ => False) e s' → False) :
    WalkO q loose XP YP l.row.toRowW d [] (fun f vs => PySem.call f vs) := by
  refine Att.attach_callB hn hdf fun w s₀ s₁ mg mb fa o pm cd doc a vs ns G Y ho hd hcd hmg hobj hints hlen hbits hg => ?_
  obtain ⟨K, fd, sp, KX, hb, hsp, hF⟩ := F w mg fa _ Y G.T.g hmg
  exact law_call KX G.T.g G.T.b G.T.builtins G.T.nolimit hg hobj hints (Nat.le_trans hlen hn2) hr hF hb (fun H hO hS => hsp H a ns hlen hbits hO hS) fun H e s' => hCX w H s₁ e s'
end DLH
end
section
set_option Elab.async false
set_option linter.all false
set_option maxRecDepth 100000
set_option maxHeartbeats 4000000
/-! the text's places, the facts -/
namespace K84
open PySem PySem.Spec PyProof.Rows L2 DL
def top (i : Nat) : Stmt := PySem.Challenge.pw_agedlaws_k84_codes_that_come_round.main.body.getD i (.Pass ⟨0, 0, 0, 0⟩)
def xtab : List (Str × List Str) := [("Refused", ["Refused"]), ("BadGround", ["BadGround", "Refused"]), ("BadState", ["BadState", "Refused"]), ("BadCode", ["BadCode", "Refused"])]
structure Fx (P : Program) (w : World) (K : PySem.W.Frag) (mg : Str → Option Value) (base : Heap) : Prop where
  f_FIGURES : ∃ t, mg "FIGURES" = some (.str "0123456789" t)
  f_LETTERS : ∃ t, mg "LETTERS" = some (.str "abcdefghijklmnopqrstuvwxyz" t)
  f_MOST_CELLS : ∃ t, mg "MOST_CELLS" = some (.int 4 t)
  f_MOST_CODE : ∃ t, mg "MOST_CODE" = some (.int 2000 t)
  f_MOST_EXITS : ∃ t, mg "MOST_EXITS" = some (.int 4 t)
  f_MOST_KINDS : ∃ t, mg "MOST_KINDS" = some (.int 3 t)
  f_MOST_NAME : ∃ t, mg "MOST_NAME" = some (.int 12 t)
  f_MOST_NUMBER : ∃ t, mg "MOST_NUMBER" = some (.int 99 t)
  f_MOST_NUMBER_DEEP : ∃ t, mg "MOST_NUMBER_DEEP" = some (.int 6 t)
  f_MOST_PRICE : ∃ t, mg "MOST_PRICE" = some (.int 99 t)
  f_MOST_SIZE : ∃ t, mg "MOST_SIZE" = some (.int 8 t)
  f_MOST_STATES : ∃ t, mg "MOST_STATES" = some (.int 64 t)
  f_RESERVED : GTup K mg "RESERVED" ["cells", "deeds", "exits", "if", "else", "while", "catch", "exit", "and", "or", "not", "law"]
  f_all : mg "all" = none
  f_any : mg "any" = none
  f_bool : mg "bool" = none
  f_enumerate : mg "enumerate" = none
  f_int : mg "int" = none
  f_isinstance : mg "isinstance" = none
  f_len : mg "len" = none
  f_max : mg "max" = none
  f_range : mg "range" = none
  f_str : mg "str" = none
  f_sum : mg "sum" = none
  f_tuple : mg "tuple" = none
  f_zip : mg "zip" = none
  d_is_whole : ∃ f fd, FunD K "is_whole" "is_whole" (defArgs (top 16)) (defBody (top 16)) (defScope (top 16)) [] [] f fd ∧ mg "is_whole" = some (.ref f)
  d_is_name : ∃ f fd, FunD K "is_name" "is_name" (defArgs (top 17)) (defBody (top 17)) (defScope (top 17)) [] [] f fd ∧ mg "is_name" = some (.ref f)
  d_is_priced : ∃ f fd, FunD K "is_priced" "is_priced" (defArgs (top 18)) (defBody (top 18)) (defScope (top 18)) [] [] f fd ∧ mg "is_priced" = some (.ref f)
  d_first_bad : ∃ f fd, FunD K "first_bad" "first_bad" (defArgs (top 19)) (defBody (top 19)) (defScope (top 19)) [] [] f fd ∧ mg "first_bad" = some (.ref f)
  d_many_of : ∃ f fd, FunD K "many_of" "many_of" (defArgs (top 20)) (defBody (top 20)) (defScope (top 20)) [] [] f fd ∧ mg "many_of" = some (.ref f)
  d_wrong_part : ∃ f fd, FunD K "wrong_part" "wrong_part" (defArgs (top 21)) (defBody (top 21)) (defScope (top 21)) [] [] f fd ∧ mg "wrong_part" = some (.ref f)
  d_is_triple : ∃ f fd, FunD K "is_triple" "is_triple" (defArgs (top 22)) (defBody (top 22)) (defScope (top 22)) [] [] f fd ∧ mg "is_triple" = some (.ref f)
  d_made_ground : ∃ f fd, FunD K "made_ground" "made_ground" (defArgs (top 23)) (defBody (top 23)) (defScope (top 23)) [] [] f fd ∧ mg "made_ground" = some (.ref f)
  d_is_ground : ∃ f fd, FunD K "is_ground" "is_ground" (defArgs (top 24)) (defBody (top 24)) (defScope (top 24)) [] [] f fd ∧ mg "is_ground" = some (.ref f)
  d_all_states : ∃ f fd, FunD K "all_states" "all_states" (defArgs (top 25)) (defBody (top 25)) (defScope (top 25)) [] [] f fd ∧ mg "all_states" = some (.ref f)
  d_number_of : ∃ f fd, FunD K "number_of" "number_of" (defArgs (top 26)) (defBody (top 26)) (defScope (top 26)) [] [] f fd ∧ mg "number_of" = some (.ref f)
  d_is_state : ∃ f fd, FunD K "is_state" "is_state" (defArgs (top 27)) (defBody (top 27)) (defScope (top 27)) [] [] f fd ∧ mg "is_state" = some (.ref f)
  d_want_state : ∃ f fd, FunD K "want_state" "want_state" (defArgs (top 28)) (defBody (top 28)) (defScope (top 28)) [] [] f fd ∧ mg "want_state" = some (.ref f)
  d_nought_of : ∃ f fd, FunD K "nought_of" "nought_of" (defArgs (top 29)) (defBody (top 29)) (defScope (top 29)) [] [] f fd ∧ mg "nought_of" = some (.ref f)
  d_price_of : ∃ f fd, FunD K "price_of" "price_of" (defArgs (top 30)) (defBody (top 30)) (defScope (top 30)) [] [] f fd ∧ mg "price_of" = some (.ref f)
  d_names_in : ∃ f fd, FunD K "names_in" "names_in" (defArgs (top 34)) (defBody (top 34)) (defScope (top 34)) [] [] f fd ∧ mg "names_in" = some (.ref f)
  d_is_worded : ∃ f fd, FunD K "is_worded" "is_worded" (defArgs (top 35)) (defBody (top 35)) (defScope (top 35)) [] [] f fd ∧ mg "is_worded" = some (.ref f)
  d_is_one_of : ∃ f fd, FunD K "is_one_of" "is_one_of" (defArgs (top 36)) (defBody (top 36)) (defScope (top 36)) [] [] f fd ∧ mg "is_one_of" = some (.ref f)
  d_is_number : ∃ f fd, FunD K "is_number" "is_number" (defArgs (top 37)) (defBody (top 37)) (defScope (top 37)) [] [] f fd ∧ mg "is_number" = some (.ref f)
  d_is_test : ∃ f fd, FunD K "is_test" "is_test" (defArgs (top 38)) (defBody (top 38)) (defScope (top 38)) [] [] f fd ∧ mg "is_test" = some (.ref f)
  d_is_number_text : ∃ f fd, FunD K "is_number_text" "is_number_text" (defArgs (top 39)) (defBody (top 39)) (defScope (top 39)) [] [] f fd ∧ mg "is_number_text" = some (.ref f)
  d_is_test_text : ∃ f fd, FunD K "is_test_text" "is_test_text" (defArgs (top 40)) (defBody (top 40)) (defScope (top 40)) [] [] f fd ∧ mg "is_test_text" = some (.ref f)
  d_worth_in : ∃ f fd, FunD K "worth_in" "worth_in" (defArgs (top 42)) (defBody (top 42)) (defScope (top 42)) [] [] f fd ∧ mg "worth_in" = some (.ref f)
  d_holds : ∃ f fd, FunD K "holds" "holds" (defArgs (top 43)) (defBody (top 43)) (defScope (top 43)) [] [] f fd ∧ mg "holds" = some (.ref f)
  d_changed : ∃ f fd, FunD K "changed" "changed" (defArgs (top 44)) (defBody (top 44)) (defScope (top 44)) [] [] f fd ∧ mg "changed" = some (.ref f)
  d_set_in : ∃ f fd, FunD K "set_in" "set_in" (defArgs (top 45)) (defBody (top 45)) (defScope (top 45)) [] [] f fd ∧ mg "set_in" = some (.ref f)
  d_is_row_number : ∃ f fd, FunD K "is_row_number" "is_row_number" (defArgs (top 48)) (defBody (top 48)) (defScope (top 48)) [] [] f fd ∧ mg "is_row_number" = some (.ref f)
  d_size_of : ∃ f fd, FunD K "size_of" "size_of" (defArgs (top 49)) (defBody (top 49)) (defScope (top 49)) [] [] f fd ∧ mg "size_of" = some (.ref f)
  d_is_switch : ∃ f fd, FunD K "is_switch" "is_switch" (defArgs (top 50)) (defBody (top 50)) (defScope (top 50)) [] [] f fd ∧ mg "is_switch" = some (.ref f)
  d_is_triple_row : ∃ f fd, FunD K "is_triple_row" "is_triple_row" (defArgs (top 51)) (defBody (top 51)) (defScope (top 51)) [] [] f fd ∧ mg "is_triple_row" = some (.ref f)
  d_is_row : ∃ f fd, FunD K "is_row" "is_row" (defArgs (top 52)) (defBody (top 52)) (defScope (top 52)) [] [] f fd ∧ mg "is_row" = some (.ref f)
  d_is_code : ∃ f fd, FunD K "is_code" "is_code" (defArgs (top 53)) (defBody (top 53)) (defScope (top 53)) [] [] f fd ∧ mg "is_code" = some (.ref f)
  d_name_place : ∃ f fd, FunD K "name_place" "name_place" (defArgs (top 55)) (defBody (top 55)) (defScope (top 55)) [] [] f fd ∧ mg "name_place" = some (.ref f)
  d_next_row : ∃ f fd, FunD K "next_row" "next_row" (defArgs (top 56)) (defBody (top 56)) (defScope (top 56)) [] [] f fd ∧ mg "next_row" = some (.ref f)
  d_state_behind : ∃ f fd, FunD K "state_behind" "state_behind" (defArgs (top 57)) (defBody (top 57)) (defScope (top 57)) [] [] f fd ∧ mg "state_behind" = some (.ref f)
  d_count_behind : ∃ f fd, FunD K "count_behind" "count_behind" (defArgs (top 58)) (defBody (top 58)) (defScope (top 58)) [] [] f fd ∧ mg "count_behind" = some (.ref f)
  d_run_rows : ∃ f fd, FunD K "run_rows" "run_rows" (defArgs (top 59)) (defBody (top 59)) (defScope (top 59)) [] [] f fd ∧ mg "run_rows" = some (.ref f)
  d_made_code : ∃ f fd, FunD K "made_code" "made_code" (defArgs (top 60)) (defBody (top 60)) (defScope (top 60)) [] [] f fd ∧ mg "made_code" = some (.ref f)
  d_run_code : ∃ f fd, FunD K "run_code" "run_code" (defArgs (top 61)) (defBody (top 61)) (defScope (top 61)) [] [] f fd ∧ mg "run_code" = some (.ref f)
  d_table_of_code : ∃ f fd, FunD K "table_of_code" "table_of_code" (defArgs (top 62)) (defBody (top 62)) (defScope (top 62)) [] [] f fd ∧ mg "table_of_code" = some (.ref f)
  d_code_table : ∃ f fd, FunD K "code_table" "code_table" (defArgs (top 63)) (defBody (top 63)) (defScope (top 63)) [] [] f fd ∧ mg "code_table" = some (.ref f)
  d_metered : ∃ f fd, FunD K "metered" "metered" (defArgs (top 64)) (defBody (top 64)) (defScope (top 64)) [] [] f fd ∧ mg "metered" = some (.ref f)
  d_meter : ∃ f fd, FunD K "meter" "meter" (defArgs (top 65)) (defBody (top 65)) (defScope (top 65)) [] [] f fd ∧ mg "meter" = some (.ref f)
  d__law_pool : ∃ f fd, FunD K "_law_pool" "_law_pool" (defArgs (top 67)) (defBody (top 67)) (defScope (top 67)) [] [] f fd ∧ mg "_law_pool" = some (.ref f)
  d__law_take : ∃ f fd, FunD K "_law_take" "_law_take" (defArgs (top 68)) (defBody (top 68)) (defScope (top 68)) [] [] f fd ∧ mg "_law_take" = some (.ref f)
  d__law_one : ∃ f fd, FunD K "_law_one" "_law_one" (defArgs (top 69)) (defBody (top 69)) (defScope (top 69)) [] [] f fd ∧ mg "_law_one" = some (.ref f)
  d__law_cost : ∃ f fd, FunD K "_law_cost" "_law_cost" (defArgs (top 70)) (defBody (top 70)) (defScope (top 70)) [] [] f fd ∧ mg "_law_cost" = some (.ref f)
  d__law_ground : ∃ f fd, FunD K "_law_ground" "_law_ground" (defArgs (top 71)) (defBody (top 71)) (defScope (top 71)) [] [] f fd ∧ mg "_law_ground" = some (.ref f)
  d__law_states : ∃ f fd, FunD K "_law_states" "_law_states" (defArgs (top 72)) (defBody (top 72)) (defScope (top 72)) [] [] f fd ∧ mg "_law_states" = some (.ref f)
  d__law_place : ∃ f fd, FunD K "_law_place" "_law_place" (defArgs (top 73)) (defBody (top 73)) (defScope (top 73)) [] [] f fd ∧ mg "_law_place" = some (.ref f)
  d__law_number : ∃ f fd, FunD K "_law_number" "_law_number" (defArgs (top 74)) (defBody (top 74)) (defScope (top 74)) [] [] f fd ∧ mg "_law_number" = some (.ref f)
  d__law_holds : ∃ f fd, FunD K "_law_holds" "_law_holds" (defArgs (top 75)) (defBody (top 75)) (defScope (top 75)) [] [] f fd ∧ mg "_law_holds" = some (.ref f)
  d__law_prices_of : ∃ f fd, FunD K "_law_prices_of" "_law_prices_of" (defArgs (top 76)) (defBody (top 76)) (defScope (top 76)) [] [] f fd ∧ mg "_law_prices_of" = some (.ref f)
  d__law_value : ∃ f fd, FunD K "_law_value" "_law_value" (defArgs (top 77)) (defBody (top 77)) (defScope (top 77)) [] [] f fd ∧ mg "_law_value" = some (.ref f)
  d__law_test : ∃ f fd, FunD K "_law_test" "_law_test" (defArgs (top 78)) (defBody (top 78)) (defScope (top 78)) [] [] f fd ∧ mg "_law_test" = some (.ref f)
  d__law_code_row : ∃ f fd, FunD K "_law_code_row" "_law_code_row" (defArgs (top 79)) (defBody (top 79)) (defScope (top 79)) [] [] f fd ∧ mg "_law_code_row" = some (.ref f)
  d__law_code : ∃ f fd, FunD K "_law_code" "_law_code" (defArgs (top 80)) (defBody (top 80)) (defScope (top 80)) [] [] f fd ∧ mg "_law_code" = some (.ref f)
  d__law_next : ∃ f fd, FunD K "_law_next" "_law_next" (defArgs (top 81)) (defBody (top 81)) (defScope (top 81)) [] [] f fd ∧ mg "_law_next" = some (.ref f)
  d__law_code_run : ∃ f fd, FunD K "_law_code_run" "_law_code_run" (defArgs (top 82)) (defBody (top 82)) (defScope (top 82)) [] [] f fd ∧ mg "_law_code_run" = some (.ref f)
  d__law_refusal : ∃ f fd, FunD K "_law_refusal" "_law_refusal" (defArgs (top 83)) (defBody (top 83)) (defScope (top 83)) [] [] f fd ∧ mg "_law_refusal" = some (.ref f)
  d__law_odd_states : ∃ f fd, FunD K "_law_odd_states" "_law_odd_states" (defArgs (top 84)) (defBody (top 84)) (defScope (top 84)) [] [] f fd ∧ mg "_law_odd_states" = some (.ref f)
  d__law_long_code : ∃ f fd, FunD K "_law_long_code" "_law_long_code" (defArgs (top 85)) (defBody (top 85)) (defScope (top 85)) [] [] f fd ∧ mg "_law_long_code" = some (.ref f)
  d__law_long_right : ∃ f fd, FunD K "_law_long_right" "_law_long_right" (defArgs (top 86)) (defBody (top 86)) (defScope (top 86)) [] [] f fd ∧ mg "_law_long_right" = some (.ref f)
  d_law : ∃ f fd, FunD K "law" "law" (defArgs (top 87)) (defBody (top 87)) (defScope (top 87)) [] [] f fd ∧ mg "law" = some (.ref f)
  x_BadCode : ExC P w K mg base "BadCode"
  x_BadGround : ExC P w K mg base "BadGround"
  x_BadState : ExC P w K mg base "BadState"
  t_exc : ETab K mg xtab
end K84
end
section
set_option Elab.async false
set_option linter.all false
set_option maxRecDepth 100000
set_option maxHeartbeats 4000000
/-! what the defs do, 0 -/
namespace K84
open PySem PySem.Spec PyProof.Rows L2 DL
/-! is_whole -/
noncomputable def b_is_whole : DEnv → Store → R Fl :=
  (evRet (evAnd (evIsi .int (evVar 0)) (evNot (evIsi .bool (evVar 0)))))
theorem sc_is_whole : FnScope ["thing"] ["thing"] (defScope (top 16)) := ⟨rfl, rfl, rfl, by decide +kernel, rfl, by decide +kernel, by decide +kernel⟩
noncomputable def c_is_whole : List D → Store → R D := fnR .pl 1 1 b_is_whole
theorem has_is_whole {P : Program} {w : World} {K : PySem.W.Frag} {mg : Str → Option Value} {base : Heap} (F : Fx P w K mg base) : Has P w K mg base 1 "is_whole" c_is_whole := by
  obtain ⟨f, fd, Df, hm⟩ := F.d_is_whole
  refine has_of .pl (N := ["thing"]) (ps := ["thing"]) Df hm sc_is_whole rfl (fun _ _ _ _ _ _ us hl => match us, hl with | [_], _ => rfl) fun cdv A outer s H E Y hr air => ?_
  have nd : (["thing"] : List Str).Nodup := sc_is_whole.nd
  have hu := hr.units
  have hu65 := room65 hr
  exact (sb_one (ss_ret (se_and (se_isi .int F.f_isinstance F.f_int (se_v 0)) (se_one (se_not (se_isi .bool F.f_isinstance F.f_bool (se_v 0)))))))
/-! is_name -/
noncomputable def b_is_name : DEnv → Store → R Fl :=
  (evSeq (evIfS (evOrT (evNotT (evTruth (evIsi .str (evVar 0)))) (evOrT (evNotT (evTest (evChain oLe oLe (evC (.int 1)) (evCallO bLen (evCons (evVar 0) evNil)) (evC (.int 12))))) (evTest (evBin (memD false) (evVar 0) (evC (.tup ((["cells", "deeds", "exits", "if", "else", "while", "catch", "exit", "and", "or", "not", "law"] : List Str).map D.str))))))) (evRet (evC (.bl false))) evNext)
    (evRet (evAnd (evBin (memD false) (evBin ixD (evVar 0) (evC (.int 0))) (evC (.str "abcdefghijklmnopqrstuvwxyz"))) (evCallO bAll (evCons (evMk mkI (evComp [1] (itSeq (evVar 0)) (tgN 1) evYes (evOr (evBin (memD false) (evVar 1) (evC (.str "abcdefghijklmnopqrstuvwxyz"))) (evBin (memD false) (evVar 1) (evC (.str "0123456789")))))) evNil)))))
theorem sc_is_name : FnScope ["thing", "sign"] ["thing"] (defScope (top 17)) := ⟨rfl, rfl, rfl, by decide +kernel, rfl, by decide +kernel, by decide +kernel⟩
noncomputable def c_is_name : List D → Store → R D := fnR .pl 1 2 b_is_name
theorem has_is_name {P : Program} {w : World} {K : PySem.W.Frag} {mg : Str → Option Value} {base : Heap} (F : Fx P w K mg base) : Has P w K mg base 1 "is_name" c_is_name := by
  obtain ⟨f, fd, Df, hm⟩ := F.d_is_name
  refine has_of .pl (N := ["thing", "sign"]) (ps := ["thing"]) Df hm sc_is_name rfl (fun _ _ _ _ _ _ us hl => match us, hl with | [_], _ => rfl) fun cdv A outer s H E Y hr air => ?_
  have nd : (["thing", "sign"] : List Str).Nodup := sc_is_name.nd
  have hu := hr.units
  have hu65 := room65 hr
  exact (sb_cons (ss_if (SW.st (sw_or (st_not (st_truth (se_isi .str F.f_isinstance F.f_str (se_v 0)))) (sw_or (st_not (st_chain op_leD op_leD se_int (se_callB call_lenD F.f_len (sa_cons (se_v 0) sa_nil)) (se_gi F.f_MOST_NAME))) (sw_or1 (st_cmp op_inDD (se_v 0) (se_gt F.f_RESERVED)))))) (sb_one (ss_ret se_bl)) sb_nil)
    (sb_one (ss_ret (se_and (se_cmp op_inDD (se_ix (se_v 0) se_int (fun _ _ => rfl)) (se_gs F.f_LETTERS)) (se_one (se_callB (call_allD rfl) F.f_all (sa_cons (se_lc mkI_ok rfl nd (own := [("sign", 1)]) (blkOk_by (by kernel_rfl)) (by decide) (si_seq (se_v 0)) (fun _ _ _ _ _ => (sg_n 1 nd)) (fun _ _ _ _ _ => sc_nil) (fun _ _ _ _ _ => (se_or (se_cmp op_inDD (se_v 1) (se_gs F.f_LETTERS)) (se_one (se_cmp op_inDD (se_v 1) (se_gs F.f_FIGURES)))))) sa_nil)))))))
/-! is_priced -/
noncomputable def b_is_priced : DEnv → Store → R Fl :=
  (evSeq (evIfS (evOrT (evNotT (evTruth (evIsi .tuple (evVar 0)))) (evTest (evBin oNe (evCallO bLen (evCons (evVar 0) evNil)) (evC (.int 2))))) (evRet (evC (.bl false))) evNext)
    (evRet (evAnd (evCall c_is_name (evCons (evBin ixD (evVar 0) (evC (.int 0))) evNil)) (evAnd (evCall c_is_whole (evCons (evBin ixD (evVar 0) (evC (.int 1))) evNil)) (evChain oLe oLe (evC (.int 1)) (evBin ixD (evVar 0) (evC (.int 1))) (evVar 1))))))
theorem sc_is_priced : FnScope ["thing", "most"] ["thing", "most"] (defScope (top 18)) := ⟨rfl, rfl, rfl, by decide +kernel, rfl, by decide +kernel, by decide +kernel⟩
noncomputable def c_is_priced : List D → Store → R D := fnR .pl 2 2 b_is_priced
theorem has_is_priced {P : Program} {w : World} {K : PySem.W.Frag} {mg : Str → Option Value} {base : Heap} (F : Fx P w K mg base) : Has P w K mg base 2 "is_priced" c_is_priced := by
  obtain ⟨f, fd, Df, hm⟩ := F.d_is_priced
  refine has_of .pl (N := ["thing", "most"]) (ps := ["thing", "most"]) Df hm sc_is_priced rfl (fun _ _ _ _ _ _ us hl => match us, hl with | [_, _], _ => rfl) fun cdv A outer s H E Y hr air => ?_
  have nd : (["thing", "most"] : List Str).Nodup := sc_is_priced.nd
  have hu := hr.units
  have hu65 := room65 hr
  exact (sb_cons (ss_if (SW.st (sw_or (st_not (st_truth (se_isi .tuple F.f_isinstance F.f_tuple (se_v 0)))) (sw_or1 (st_cmp (op_neDD hu) (se_callB call_lenD F.f_len (sa_cons (se_v 0) sa_nil)) se_int)))) (sb_one (ss_ret se_bl)) sb_nil)
    (sb_one (ss_ret (se_and (se_call (has_is_name F) hr (by first | decide | omega) air rfl (sa_cons (se_ix (se_v 0) se_int (fun _ _ => rfl)) sa_nil)) (se_and (se_call (has_is_whole F) hr (by first | decide | omega) air rfl (sa_cons (se_ix (se_v 0) se_int (fun _ _ => rfl)) sa_nil)) (se_one (se_chain op_leD op_leD se_int (se_ix (se_v 0) se_int (fun _ _ => rfl)) (se_v 1))))))))
/-! first_bad -/
noncomputable def b_first_bad : DEnv → Store → R Fl :=
  (evSeq (evFor (itOfS itmEnum (evCons (evVar 1) evNil)) (tgTup 2 (tgCons (tgN 3) (tgCons (tgN 4) tgNil))) (evSeq (evIfS (evNotT (evIteT (evTest (evBin oIsN (evVar 2) (evC .non))) (evTruth (evCall c_is_name (evCons (evVar 4) evNil))) (evTruth (evCall c_is_priced (evCons (evVar 4) (evCons (evVar 2) evNil)))))) (evRet (evVar 3)) evNext)
    (evSeq (evAsg (evIte (evTest (evBin oIsN (evVar 2) (evC .non))) (evVar 4) (evBin ixD (evVar 4) (evC (.int 0)))) (tgN 5))
    (evSeq (evIfS (evTest (evBin (memD false) (evVar 5) (evVar 0))) (evRet (evVar 3)) evNext)
    (evDrop (evMeth mAppend (evVar 0) (evCons (evVar 5) evNil)))))))
    (evRet (evC .non)))
theorem sc_first_bad : FnScope ["met", "entries", "most", "index", "entry", "name"] ["met", "entries", "most"] (defScope (top 19)) := ⟨rfl, rfl, rfl, by decide +kernel, rfl, by decide +kernel, by decide +kernel⟩
noncomputable def c_first_bad : List D → Store → R D := fnR .pl 3 6 b_first_bad
theorem has_first_bad {P : Program} {w : World} {K : PySem.W.Frag} {mg : Str → Option Value} {base : Heap} (F : Fx P w K mg base) : Has P w K mg base 3 "first_bad" c_first_bad := by
  obtain ⟨f, fd, Df, hm⟩ := F.d_first_bad
  refine has_of .pl (N := ["met", "entries", "most", "index", "entry", "name"]) (ps := ["met", "entries", "most"]) Df hm sc_first_bad rfl (fun _ _ _ _ _ _ us hl => match us, hl with | [_, _, _], _ => rfl) fun cdv A outer s H E Y hr air => ?_
  have nd : (["met", "entries", "most", "index", "entry", "name"] : List Str).Nodup := sc_first_bad.nd
  have hu := hr.units
  have hu65 := room65 hr
  exact (sb_cons (ss_for (passes_of rfl) rfl (si_enum F.f_enumerate (sa_cons (se_v 1) sa_nil)) (sg_tupW rfl (sgs_cons (sg_n 3 nd) (sgs_cons (sg_n 4 nd) sgs_nil))) (sb_cons (ss_if (st_not (st_ifE (st_cmp op_isND (se_v 2) se_non) (st_truth (se_call (has_is_name F) hr (by first | decide | omega) air rfl (sa_cons (se_v 4) sa_nil))) (st_truth (se_call (has_is_priced F) hr (by first | decide | omega) air rfl (sa_cons (se_v 4) (sa_cons (se_v 2) sa_nil)))))) (sb_one (ss_ret (se_v 3))) sb_nil)
    (sb_cons (ss_set (i := 5) nd rfl (by first | exact Or.inl rfl | exact Or.inr rfl) (Or.inl rfl) (se_ite (st_cmp op_isND (se_v 2) se_non) (se_v 4) (se_ix (se_v 4) se_int (fun _ _ => rfl))))
    (sb_cons (ss_if (st_cmp op_inDD (se_v 5) (se_v 0)) (sb_one (ss_ret (se_v 3))) sb_nil)
    (sb_one (ss_expr (se_bmL PySem.F.slot_list_append ty_append mt_appendD (se_v 0) (sa_cons (se_v 5) sa_nil))))))))
    (sb_one (ss_ret se_non)))
/-! many_of -/
noncomputable def b_many_of : DEnv → Store → R Fl :=
  (evSeq (evAsg (evC (.int 1)) (tgN 1))
    (evSeq (evFor (itSeq (evVar 0)) (tgTup 2 (tgCons (tgN 2) (tgCons (tgN 3) tgNil))) (evAsg (evBin oMul (evVar 1) (evVar 3)) (tgN 1)))
    (evRet (evVar 1))))
theorem sc_many_of : FnScope ["cells", "many", "_", "size"] ["cells"] (defScope (top 20)) := ⟨rfl, rfl, rfl, by decide +kernel, rfl, by decide +kernel, by decide +kernel⟩
noncomputable def c_many_of : List D → Store → R D := fnR .pl 1 4 b_many_of
theorem has_many_of {P : Program} {w : World} {K : PySem.W.Frag} {mg : Str → Option Value} {base : Heap} (F : Fx P w K mg base) : Has P w K mg base 1 "many_of" c_many_of := by
  obtain ⟨f, fd, Df, hm⟩ := F.d_many_of
  refine has_of .pl (N := ["cells", "many", "_", "size"]) (ps := ["cells"]) Df hm sc_many_of rfl (fun _ _ _ _ _ _ us hl => match us, hl with | [_], _ => rfl) fun cdv A outer s H E Y hr air => ?_
  have nd : (["cells", "many", "_", "size"] : List Str).Nodup := sc_many_of.nd
  have hu := hr.units
  have hu65 := room65 hr
  exact (sb_cons (ss_set (i := 1) nd rfl (by first | exact Or.inl rfl | exact Or.inr rfl) (Or.inl rfl) se_int)
    (sb_cons (ss_for (passes_of rfl) rfl (si_seq (se_v 0)) (sg_tupR rfl (sgs_cons (sg_n 2 nd) (sgs_cons (sg_n 3 nd) sgs_nil))) (sb_one (ss_set (i := 1) nd rfl (by first | exact Or.inl rfl | exact Or.inr rfl) (Or.inl rfl) (se_bin op_mulD (se_v 1) (se_v 3)))))
    (sb_one (ss_ret (se_v 1)))))
/-! wrong_part -/
noncomputable def b_wrong_part : DEnv → Store → R Fl :=
  (evSeq (evAsg (evNew evNil) (tgN 1))
    (evSeq (evAsg (evLst (evCons (evTup (evCons (evC (.int 8)) (evCons (evC (.int 0)) (evCons (evC (.int 4)) evNil)))) (evCons (evTup (evCons (evC (.int 99)) (evCons (evC (.int 0)) (evCons (evC (.int 3)) evNil)))) (evCons (evTup (evCons (evC .non) (evCons (evC (.int 1)) (evCons (evC (.int 4)) evNil)))) evNil)))) (tgN 2))
    (evSeq (evFor (itOfS itmEnum (evCons (evVar 2) evNil)) (tgTup 2 (tgCons (tgN 3) (tgCons (tgTup 3 (tgCons (tgN 4) (tgCons (tgN 5) (tgCons (tgN 6) tgNil)))) tgNil))) (evSeq (evIfS (evNotT (evTest (evChain oLe oLe (evVar 5) (evCallO bLen (evCons (evBin ixD (evVar 0) (evVar 3)) evNil)) (evVar 6)))) (evRet (evTup (evCons (evVar 3) (evCons (evUn dNeg (evC (.int 1))) evNil)))) evNext)
    (evSeq (evAsg (evCall c_first_bad (evCons (evVar 1) (evCons (evBin ixD (evVar 0) (evVar 3)) (evCons (evVar 4) evNil)))) (tgN 7))
    (evSeq (evIfS (evTest (evBin oNotN (evVar 7) (evC .non))) (evRet (evTup (evCons (evVar 3) (evCons (evVar 7) evNil)))) evNext)
    (evIfS (evAndT (evTest (evBin oEq (evVar 3) (evC (.int 0)))) (evTest (evBin oGt (evCall c_many_of (evCons (evBin ixD (evVar 0) (evC (.int 0))) evNil)) (evC (.int 64))))) (evRet (evTup (evCons (evC (.int 0)) (evCons (evUn dNeg (evC (.int 1))) evNil)))) evNext)))))
    (evRet (evC .non)))))
theorem sc_wrong_part : FnScope ["thing", "met", "bounds", "part", "most", "least", "many", "index"] ["thing"] (defScope (top 21)) := ⟨rfl, rfl, rfl, by decide +kernel, rfl, by decide +kernel, by decide +kernel⟩
noncomputable def c_wrong_part : List D → Store → R D := fnR .pl 1 8 b_wrong_part
theorem has_wrong_part {P : Program} {w : World} {K : PySem.W.Frag} {mg : Str → Option Value} {base : Heap} (F : Fx P w K mg base) : Has P w K mg base 4 "wrong_part" c_wrong_part := by
  obtain ⟨f, fd, Df, hm⟩ := F.d_wrong_part
  refine has_of .pl (N := ["thing", "met", "bounds", "part", "most", "least", "many", "index"]) (ps := ["thing"]) Df hm sc_wrong_part rfl (fun _ _ _ _ _ _ us hl => match us, hl with | [_], _ => rfl) fun cdv A outer s H E Y hr air => ?_
  have nd : (["thing", "met", "bounds", "part", "most", "least", "many", "index"] : List Str).Nodup := sc_wrong_part.nd
  have hu := hr.units
  have hu65 := room65 hr
  exact (sb_cons (ss_set (i := 1) nd rfl (by first | exact Or.inl rfl | exact Or.inr rfl) (Or.inl rfl) (se_new sa_nil))
    (sb_cons (ss_set (i := 2) nd rfl (by first | exact Or.inl rfl | exact Or.inr rfl) (Or.inl rfl) (se_lst (sa_cons (se_tup (sa_cons (se_gi F.f_MOST_SIZE) (sa_cons se_int (sa_cons (se_gi F.f_MOST_CELLS) sa_nil)))) (sa_cons (se_tup (sa_cons (se_gi F.f_MOST_PRICE) (sa_cons se_int (sa_cons (se_gi F.f_MOST_KINDS) sa_nil)))) (sa_cons (se_tup (sa_cons se_non (sa_cons se_int (sa_cons (se_gi F.f_MOST_EXITS) sa_nil)))) sa_nil)))))
    (sb_cons (ss_for (passes_of rfl) rfl (si_enum F.f_enumerate (sa_cons (se_v 2) sa_nil)) (sg_tupW rfl (sgs_cons (sg_n 3 nd) (sgs_cons (sg_tupR rfl (sgs_cons (sg_n 4 nd) (sgs_cons (sg_n 5 nd) (sgs_cons (sg_n 6 nd) sgs_nil)))) sgs_nil))) (sb_cons (ss_if (st_not (st_chain op_leD op_leD (se_v 5) (se_callB call_lenD F.f_len (sa_cons (se_ix (se_v 0) (se_v 3) (fun _ _ => rfl)) sa_nil)) (se_v 6))) (sb_one (ss_ret (se_tup (sa_cons (se_v 3) (sa_cons (se_neg se_int) sa_nil))))) sb_nil)
    (sb_cons (ss_set (i := 7) nd rfl (by first | exact Or.inl rfl | exact Or.inr rfl) (Or.inl rfl) (se_call (has_first_bad F) hr (by first | decide | omega) air rfl (sa_cons (se_v 1) (sa_cons (se_ix (se_v 0) (se_v 3) (fun _ _ => rfl)) (sa_cons (se_v 4) sa_nil)))))
    (sb_cons (ss_if (st_cmp op_notND (se_v 7) se_non) (sb_one (ss_ret (se_tup (sa_cons (se_v 3) (sa_cons (se_v 7) sa_nil))))) sb_nil)
    (sb_one (ss_if (SW.st (sw_and (st_cmp (op_eqDD hu) (se_v 3) se_int) (sw_and1 (st_cmp op_gtD (se_call (has_many_of F) hr (by first | decide | omega) air rfl (sa_cons (se_ix (se_v 0) se_int (fun _ _ => rfl)) sa_nil)) (se_gi F.f_MOST_STATES))))) (sb_one (ss_ret (se_tup (sa_cons se_int (sa_cons (se_neg se_int) sa_nil))))) sb_nil))))))
    (sb_one (ss_ret se_non)))))
/-! is_triple -/
noncomputable def b_is_triple : DEnv → Store → R Fl :=
  (evRet (evAnd (evIsi .tuple (evVar 0)) (evAnd (evBin oEq (evCallO bLen (evCons (evVar 0) evNil)) (evC (.int 3))) (evCallO bAll (evCons (evMk mkI (evComp [1] (itSeq (evVar 0)) (tgN 1) evYes (evIsi .tuple (evVar 1)))) evNil)))))
theorem sc_is_triple : FnScope ["thing", "part"] ["thing"] (defScope (top 22)) := ⟨rfl, rfl, rfl, by decide +kernel, rfl, by decide +kernel, by decide +kernel⟩
noncomputable def c_is_triple : List D → Store → R D := fnR .pl 1 2 b_is_triple
theorem has_is_triple {P : Program} {w : World} {K : PySem.W.Frag} {mg : Str → Option Value} {base : Heap} (F : Fx P w K mg base) : Has P w K mg base 1 "is_triple" c_is_triple := by
  obtain ⟨f, fd, Df, hm⟩ := F.d_is_triple
  refine has_of .pl (N := ["thing", "part"]) (ps := ["thing"]) Df hm sc_is_triple rfl (fun _ _ _ _ _ _ us hl => match us, hl with | [_], _ => rfl) fun cdv A outer s H E Y hr air => ?_
  have nd : (["thing", "part"] : List Str).Nodup := sc_is_triple.nd
  have hu := hr.units
  have hu65 := room65 hr
  exact (sb_one (ss_ret (se_and (se_isi .tuple F.f_isinstance F.f_tuple (se_v 0)) (se_and (se_cmp (op_eqDD hu) (se_callB call_lenD F.f_len (sa_cons (se_v 0) sa_nil)) se_int) (se_one (se_callB (call_allD rfl) F.f_all (sa_cons (se_lc mkI_ok rfl nd (own := [("part", 1)]) (blkOk_by (by kernel_rfl)) (by decide) (si_seq (se_v 0)) (fun _ _ _ _ _ => (sg_n 1 nd)) (fun _ _ _ _ _ => sc_nil) (fun _ _ _ _ _ => (se_isi .tuple F.f_isinstance F.f_tuple (se_v 1)))) sa_nil)))))))
/-! made_ground -/
noncomputable def b_made_ground : DEnv → Store → R Fl :=
  (evSeq (evIfS (evNotT (evTruth (evCall c_is_triple (evCons (evVar 0) evNil)))) (evRaise "BadGround" (evCons (evUn dNeg (evC (.int 1))) evNil)) evNext)
    (evSeq (evAsg (evCall c_wrong_part (evCons (evVar 0) evNil)) (tgN 1))
    (evSeq (evIfS (evTest (evBin oNotN (evVar 1) (evC .non))) (evRaise "BadGround" (evCons (evVar 1) evNil)) evNext)
    (evRet (evVar 0)))))
theorem sc_made_ground : FnScope ["thing", "where"] ["thing"] (defScope (top 23)) := ⟨rfl, rfl, rfl, by decide +kernel, rfl, by decide +kernel, by decide +kernel⟩
noncomputable def c_made_ground : List D → Store → R D := fnR .pl 1 2 b_made_ground
theorem has_made_ground {P : Program} {w : World} {K : PySem.W.Frag} {mg : Str → Option Value} {base : Heap} (F : Fx P w K mg base) : Has P w K mg base 5 "made_ground" c_made_ground := by
  obtain ⟨f, fd, Df, hm⟩ := F.d_made_ground
  refine has_of .pl (N := ["thing", "where"]) (ps := ["thing"]) Df hm sc_made_ground rfl (fun _ _ _ _ _ _ us hl => match us, hl with | [_], _ => rfl) fun cdv A outer s H E Y hr air => ?_
  have nd : (["thing", "where"] : List Str).Nodup := sc_made_ground.nd
  have hu := hr.units
  have hu65 := room65 hr
  exact (sb_cons (ss_if (st_not (st_truth (se_call (has_is_triple F) hr (by first | decide | omega) air rfl (sa_cons (se_v 0) sa_nil)))) (sb_one (ss_raiseD F.x_BadGround hr (by first | decide | omega) air rfl rfl (sa_cons (se_neg se_int) sa_nil))) sb_nil)
    (sb_cons (ss_set (i := 1) nd rfl (by first | exact Or.inl rfl | exact Or.inr rfl) (Or.inl rfl) (se_call (has_wrong_part F) hr (by first | decide | omega) air rfl (sa_cons (se_v 0) sa_nil)))
    (sb_cons (ss_if (st_cmp op_notND (se_v 1) se_non) (sb_one (ss_raiseD F.x_BadGround hr (by first | decide | omega) air rfl rfl (sa_cons (se_v 1) sa_nil))) sb_nil)
    (sb_one (ss_ret (se_v 0))))))
/-! is_ground -/
noncomputable def b_is_ground : DEnv → Store → R Fl :=
  (evRet (evAnd (evCall c_is_triple (evCons (evVar 0) evNil)) (evBin oIsN (evCall c_wrong_part (evCons (evVar 0) evNil)) (evC .non))))
theorem sc_is_ground : FnScope ["thing"] ["thing"] (defScope (top 24)) := ⟨rfl, rfl, rfl, by decide +kernel, rfl, by decide +kernel, by decide +kernel⟩
noncomputable def c_is_ground : List D → Store → R D := fnR .pl 1 1 b_is_ground
theorem has_is_ground {P : Program} {w : World} {K : PySem.W.Frag} {mg : Str → Option Value} {base : Heap} (F : Fx P w K mg base) : Has P w K mg base 5 "is_ground" c_is_ground := by
  obtain ⟨f, fd, Df, hm⟩ := F.d_is_ground
  refine has_of .pl (N := ["thing"]) (ps := ["thing"]) Df hm sc_is_ground rfl (fun _ _ _ _ _ _ us hl => match us, hl with | [_], _ => rfl) fun cdv A outer s H E Y hr air => ?_
  have nd : (["thing"] : List Str).Nodup := sc_is_ground.nd
  have hu := hr.units
  have hu65 := room65 hr
  exact (sb_one (ss_ret (se_and (se_call (has_is_triple F) hr (by first | decide | omega) air rfl (sa_cons (se_v 0) sa_nil)) (se_one (se_cmp op_isND (se_call (has_wrong_part F) hr (by first | decide | omega) air rfl (sa_cons (se_v 0) sa_nil)) se_non)))))
/-! all_states -/
noncomputable def b_all_states : DEnv → Store → R Fl :=
  (evSeq (evAsg (evLst (evCons (evTup evNil) evNil)) (tgN 1))
    (evSeq (evFor (itSeq (evBin ixD (evVar 0) (evC (.int 0)))) (tgTup 2 (tgCons (tgN 2) (tgCons (tgN 3) tgNil))) (evAsg (evMk mkI (evComp2 [4, 5] (itSeq (evVar 1)) (tgN 4) evYes [5] (itOf itmR1 (evCons (evVar 3) evNil)) (tgN 5) evYes (evBin oAdd (evVar 4) (evTup (evCons (evVar 5) evNil))))) (tgN 1)))
    (evRet (evCallO bTuple (evCons (evVar 1) evNil)))))
theorem sc_all_states : FnScope ["ground", "found", "_", "size", "state", "value"] ["ground"] (defScope (top 25)) := ⟨rfl, rfl, rfl, by decide +kernel, rfl, by decide +kernel, by decide +kernel⟩
noncomputable def c_all_states : List D → Store → R D := fnR .pl 1 6 b_all_states
theorem has_all_states {P : Program} {w : World} {K : PySem.W.Frag} {mg : Str → Option Value} {base : Heap} (F : Fx P w K mg base) : Has P w K mg base 1 "all_states" c_all_states := by
  obtain ⟨f, fd, Df, hm⟩ := F.d_all_states
  refine has_of .pl (N := ["ground", "found", "_", "size", "state", "value"]) (ps := ["ground"]) Df hm sc_all_states rfl (fun _ _ _ _ _ _ us hl => match us, hl with | [_], _ => rfl) fun cdv A outer s H E Y hr air => ?_
  have nd : (["ground", "found", "_", "size", "state", "value"] : List Str).Nodup := sc_all_states.nd
  have hu := hr.units
  have hu65 := room65 hr
  exact (sb_cons (ss_set (i := 1) nd rfl (by first | exact Or.inl rfl | exact Or.inr rfl) (Or.inl rfl) (se_lst (sa_cons (se_tup sa_nil) sa_nil)))
    (sb_cons (ss_for (passes_of rfl) rfl (si_seq (se_ix (se_v 0) se_int (fun _ _ => rfl))) (sg_tupR rfl (sgs_cons (sg_n 2 nd) (sgs_cons (sg_n 3 nd) sgs_nil))) (sb_one (ss_lc2 (i := 1) mkI_ok rfl nd rfl rfl (own := [("state", 4), ("value", 5)]) (blkOk_by (by kernel_rfl)) (by decide) (vs1 := [5]) (by decide) (by decide) (si_seq (se_v 1)) (fun _ _ _ _ _ => (sg_n 4 nd)) (fun _ _ _ _ _ => sc_nil) (fun _ _ _ _ _ => (si_range1 F.f_range (sa_cons (se_v 3) sa_nil))) (fun _ _ _ _ _ => (sg_n 5 nd)) (fun _ _ _ _ _ => sc_nil) (fun _ _ _ _ _ => (se_bin op_addD (se_v 4) (se_tup (sa_cons (se_v 5) sa_nil)))))))
    (sb_one (ss_ret (se_callTy call_tupleD F.f_tuple (sa_cons (se_v 1) sa_nil))))))
/-! number_of -/
noncomputable def b_number_of : DEnv → Store → R Fl :=
  (evSeq (evAsg (evC (.int 0)) (tgN 2))
    (evSeq (evFor (itOf itmZip (evCons (evBin ixD (evVar 0) (evC (.int 0))) (evCons (evVar 1) evNil))) (tgTup 2 (tgCons (tgTup 2 (tgCons (tgN 3) (tgCons (tgN 4) tgNil))) (tgCons (tgN 5) tgNil))) (evAsg (evBin oAdd (evBin oMul (evVar 2) (evVar 4)) (evVar 5)) (tgN 2)))
    (evRet (evVar 2))))
theorem sc_number_of : FnScope ["ground", "state", "number", "_", "size", "value"] ["ground", "state"] (defScope (top 26)) := ⟨rfl, rfl, rfl, by decide +kernel, rfl, by decide +kernel, by decide +kernel⟩
noncomputable def c_number_of : List D → Store → R D := fnR .pl 2 6 b_number_of
theorem has_number_of {P : Program} {w : World} {K : PySem.W.Frag} {mg : Str → Option Value} {base : Heap} (F : Fx P w K mg base) : Has P w K mg base 1 "number_of" c_number_of := by
  obtain ⟨f, fd, Df, hm⟩ := F.d_number_of
  refine has_of .pl (N := ["ground", "state", "number", "_", "size", "value"]) (ps := ["ground", "state"]) Df hm sc_number_of rfl (fun _ _ _ _ _ _ us hl => match us, hl with | [_, _], _ => rfl) fun cdv A outer s H E Y hr air => ?_
  have nd : (["ground", "state", "number", "_", "size", "value"] : List Str).Nodup := sc_number_of.nd
  have hu := hr.units
  have hu65 := room65 hr
  exact (sb_cons (ss_set (i := 2) nd rfl (by first | exact Or.inl rfl | exact Or.inr rfl) (Or.inl rfl) se_int)
    (sb_cons (ss_for (passes_of rfl) rfl (si_zip F.f_zip (sa_cons (se_ix (se_v 0) se_int (fun _ _ => rfl)) (sa_cons (se_v 1) sa_nil))) (sg_tupW rfl (sgs_cons (sg_tupR rfl (sgs_cons (sg_n 3 nd) (sgs_cons (sg_n 4 nd) sgs_nil))) (sgs_cons (sg_n 5 nd) sgs_nil))) (sb_one (ss_set (i := 2) nd rfl (by first | exact Or.inl rfl | exact Or.inr rfl) (Or.inl rfl) (se_bin op_addD (se_bin op_mulD (se_v 2) (se_v 4)) (se_v 5)))))
    (sb_one (ss_ret (se_v 2)))))
/-! is_state -/
noncomputable def b_is_state : DEnv → Store → R Fl :=
  (evSeq (evIfS (evOrT (evNotT (evTruth (evIsi .tuple (evVar 1)))) (evTest (evBin oNe (evCallO bLen (evCons (evVar 1) evNil)) (evCallO bLen (evCons (evBin ixD (evVar 0) (evC (.int 0))) evNil))))) (evRet (evC (.bl false))) evNext)
    (evRet (evCallO bAll (evCons (evMk mkI (evComp [2, 3, 4] (itOf itmZip (evCons (evVar 1) (evCons (evBin ixD (evVar 0) (evC (.int 0))) evNil))) (tgTup 2 (tgCons (tgN 2) (tgCons (tgTup 2 (tgCons (tgN 3) (tgCons (tgN 4) tgNil))) tgNil))) evYes (evAnd (evCall c_is_whole (evCons (evVar 2) evNil)) (evChain oLe oLt (evC (.int 0)) (evVar 2) (evVar 4))))) evNil))))
theorem sc_is_state : FnScope ["ground", "thing", "value", "_", "size"] ["ground", "thing"] (defScope (top 27)) := ⟨rfl, rfl, rfl, by decide +kernel, rfl, by decide +kernel, by decide +kernel⟩
noncomputable def c_is_state : List D → Store → R D := fnR .pl 2 5 b_is_state
theorem has_is_state {P : Program} {w : World} {K : PySem.W.Frag} {mg : Str → Option Value} {base : Heap} (F : Fx P w K mg base) : Has P w K mg base 2 "is_state" c_is_state := by
  obtain ⟨f, fd, Df, hm⟩ := F.d_is_state
  refine has_of .pl (N := ["ground", "thing", "value", "_", "size"]) (ps := ["ground", "thing"]) Df hm sc_is_state rfl (fun _ _ _ _ _ _ us hl => match us, hl with | [_, _], _ => rfl) fun cdv A outer s H E Y hr air => ?_
  have nd : (["ground", "thing", "value", "_", "size"] : List Str).Nodup := sc_is_state.nd
  have hu := hr.units
  have hu65 := room65 hr
  exact (sb_cons (ss_if (SW.st (sw_or (st_not (st_truth (se_isi .tuple F.f_isinstance F.f_tuple (se_v 1)))) (sw_or1 (st_cmp (op_neDD hu) (se_callB call_lenD F.f_len (sa_cons (se_v 1) sa_nil)) (se_callB call_lenD F.f_len (sa_cons (se_ix (se_v 0) se_int (fun _ _ => rfl)) sa_nil)))))) (sb_one (ss_ret se_bl)) sb_nil)
    (sb_one (ss_ret (se_callB (call_allD rfl) F.f_all (sa_cons (se_lc mkI_ok rfl nd (own := [("value", 2), ("_", 3), ("size", 4)]) (blkOk_by (by kernel_rfl)) (by decide) (si_zip F.f_zip (sa_cons (se_v 1) (sa_cons (se_ix (se_v 0) se_int (fun _ _ => rfl)) sa_nil))) (fun _ _ _ _ _ => (sg_tupW rfl (sgs_cons (sg_n 2 nd) (sgs_cons (sg_tupR rfl (sgs_cons (sg_n 3 nd) (sgs_cons (sg_n 4 nd) sgs_nil))) sgs_nil)))) (fun _ _ _ _ _ => sc_nil) (fun _ _ _ _ _ => (se_and (se_call (has_is_whole F) hr (by first | decide | omega) air_blk rfl (sa_cons (se_v 2) sa_nil)) (se_one (se_chain op_leD op_ltD se_int (se_v 2) (se_v 4)))))) sa_nil)))))
end K84
end
section
set_option Elab.async false
set_option linter.all false
set_option maxRecDepth 100000
set_option maxHeartbeats 4000000
/-! what the defs do, 1 -/
namespace K84
open PySem PySem.Spec PyProof.Rows L2 DL
/-! want_state -/
noncomputable def b_want_state : DEnv → Store → R Fl :=
  (evIfS (evNotT (evTruth (evCall c_is_state (evCons (evVar 0) (evCons (evVar 1) evNil))))) (evRaise "BadState" (evCons (evC (.int 0)) evNil)) evNext)
theorem sc_want_state : FnScope ["ground", "thing"] ["ground", "thing"] (defScope (top 28)) := ⟨rfl, rfl, rfl, by decide +kernel, rfl, by decide +kernel, by decide +kernel⟩
noncomputable def c_want_state : List D → Store → R D := fnR .pl 2 2 b_want_state
theorem has_want_state {P : Program} {w : World} {K : PySem.W.Frag} {mg : Str → Option Value} {base : Heap} (F : Fx P w K mg base) : Has P w K mg base 3 "want_state" c_want_state := by
  obtain ⟨f, fd, Df, hm⟩ := F.d_want_state
  refine has_of .pl (N := ["ground", "thing"]) (ps := ["ground", "thing"]) Df hm sc_want_state rfl (fun _ _ _ _ _ _ us hl => match us, hl with | [_, _], _ => rfl) fun cdv A outer s H E Y hr air => ?_
  have nd : (["ground", "thing"] : List Str).Nodup := sc_want_state.nd
  have hu := hr.units
  have hu65 := room65 hr
  exact (sb_one (ss_if (st_not (st_truth (se_call (has_is_state F) hr (by first | decide | omega) air rfl (sa_cons (se_v 0) (sa_cons (se_v 1) sa_nil))))) (sb_one (ss_raiseD F.x_BadState hr (by first | decide | omega) air rfl rfl (sa_cons se_int sa_nil))) sb_nil))
/-! nought_of -/
noncomputable def b_nought_of : DEnv → Store → R Fl :=
  (evRet (evCallO bTuple (evCons (evMk mkI (evComp [1] (itSeq (evBin ixD (evVar 0) (evC (.int 1)))) (tgN 1) evYes (evC (.int 0)))) evNil)))
theorem sc_nought_of : FnScope ["ground", "_"] ["ground"] (defScope (top 29)) := ⟨rfl, rfl, rfl, by decide +kernel, rfl, by decide +kernel, by decide +kernel⟩
noncomputable def c_nought_of : List D → Store → R D := fnR .pl 1 2 b_nought_of
theorem has_nought_of {P : Program} {w : World} {K : PySem.W.Frag} {mg : Str → Option Value} {base : Heap} (F : Fx P w K mg base) : Has P w K mg base 1 "nought_of" c_nought_of := by
  obtain ⟨f, fd, Df, hm⟩ := F.d_nought_of
  refine has_of .pl (N := ["ground", "_"]) (ps := ["ground"]) Df hm sc_nought_of rfl (fun _ _ _ _ _ _ us hl => match us, hl with | [_], _ => rfl) fun cdv A outer s H E Y hr air => ?_
  have nd : (["ground", "_"] : List Str).Nodup := sc_nought_of.nd
  have hu := hr.units
  have hu65 := room65 hr
  exact (sb_one (ss_ret (se_callTy call_tupleD F.f_tuple (sa_cons (se_lc mkI_ok rfl nd (own := [("_", 1)]) (blkOk_by (by kernel_rfl)) (by decide) (si_seq (se_ix (se_v 0) se_int (fun _ _ => rfl))) (fun _ _ _ _ _ => (sg_n 1 nd)) (fun _ _ _ _ _ => sc_nil) (fun _ _ _ _ _ => se_int)) sa_nil))))
/-! price_of -/
noncomputable def b_price_of : DEnv → Store → R Fl :=
  (evRet (evCallO bSum (evCons (evMk mkI (evComp [2, 3, 4] (itOf itmZip (evCons (evVar 1) (evCons (evBin ixD (evVar 0) (evC (.int 1))) evNil))) (tgTup 2 (tgCons (tgN 2) (tgCons (tgTup 2 (tgCons (tgN 3) (tgCons (tgN 4) tgNil))) tgNil))) evYes (evBin oMul (evVar 2) (evVar 4)))) evNil)))
theorem sc_price_of : FnScope ["ground", "v", "number", "_", "price"] ["ground", "v"] (defScope (top 30)) := ⟨rfl, rfl, rfl, by decide +kernel, rfl, by decide +kernel, by decide +kernel⟩
noncomputable def c_price_of : List D → Store → R D := fnR .pl 2 5 b_price_of
theorem has_price_of {P : Program} {w : World} {K : PySem.W.Frag} {mg : Str → Option Value} {base : Heap} (F : Fx P w K mg base) : Has P w K mg base 1 "price_of" c_price_of := by
  obtain ⟨f, fd, Df, hm⟩ := F.d_price_of
  refine has_of .pl (N := ["ground", "v", "number", "_", "price"]) (ps := ["ground", "v"]) Df hm sc_price_of rfl (fun _ _ _ _ _ _ us hl => match us, hl with | [_, _], _ => rfl) fun cdv A outer s H E Y hr air => ?_
  have nd : (["ground", "v", "number", "_", "price"] : List Str).Nodup := sc_price_of.nd
  have hu := hr.units
  have hu65 := room65 hr
  exact (sb_one (ss_ret (se_callB (call_sumD rfl) F.f_sum (sa_cons (se_lc mkI_ok rfl nd (own := [("number", 2), ("_", 3), ("price", 4)]) (blkOk_by (by kernel_rfl)) (by decide) (si_zip F.f_zip (sa_cons (se_v 1) (sa_cons (se_ix (se_v 0) se_int (fun _ _ => rfl)) sa_nil))) (fun _ _ _ _ _ => (sg_tupW rfl (sgs_cons (sg_n 2 nd) (sgs_cons (sg_tupR rfl (sgs_cons (sg_n 3 nd) (sgs_cons (sg_n 4 nd) sgs_nil))) sgs_nil)))) (fun _ _ _ _ _ => sc_nil) (fun _ _ _ _ _ => (se_bin op_mulD (se_v 2) (se_v 4)))) sa_nil))))
/-! names_in -/
noncomputable def b_names_in : DEnv → Store → R Fl :=
  (evRet (evCallO bTuple (evCons (evMk mkI (evComp [1] (itSeq (evVar 0)) (tgN 1) evYes (evBin ixD (evVar 1) (evC (.int 0))))) evNil)))
theorem sc_names_in : FnScope ["part", "entry"] ["part"] (defScope (top 34)) := ⟨rfl, rfl, rfl, by decide +kernel, rfl, by decide +kernel, by decide +kernel⟩
noncomputable def c_names_in : List D → Store → R D := fnR .pl 1 2 b_names_in
theorem has_names_in {P : Program} {w : World} {K : PySem.W.Frag} {mg : Str → Option Value} {base : Heap} (F : Fx P w K mg base) : Has P w K mg base 1 "names_in" c_names_in := by
  obtain ⟨f, fd, Df, hm⟩ := F.d_names_in
  refine has_of .pl (N := ["part", "entry"]) (ps := ["part"]) Df hm sc_names_in rfl (fun _ _ _ _ _ _ us hl => match us, hl with | [_], _ => rfl) fun cdv A outer s H E Y hr air => ?_
  have nd : (["part", "entry"] : List Str).Nodup := sc_names_in.nd
  have hu := hr.units
  have hu65 := room65 hr
  exact (sb_one (ss_ret (se_callTy call_tupleD F.f_tuple (sa_cons (se_lc mkI_ok rfl nd (own := [("entry", 1)]) (blkOk_by (by kernel_rfl)) (by decide) (si_seq (se_v 0)) (fun _ _ _ _ _ => (sg_n 1 nd)) (fun _ _ _ _ _ => sc_nil) (fun _ _ _ _ _ => (se_ix (se_v 1) se_int (fun _ _ => rfl)))) sa_nil))))
/-! is_worded -/
noncomputable def b_is_worded : DEnv → Store → R Fl :=
  (evRet (evAnd (evIsi .tuple (evVar 0)) (evAnd (evBin oNe (evVar 0) (evTup evNil)) (evIsi .str (evBin ixD (evVar 0) (evC (.int 0)))))))
theorem sc_is_worded : FnScope ["thing"] ["thing"] (defScope (top 35)) := ⟨rfl, rfl, rfl, by decide +kernel, rfl, by decide +kernel, by decide +kernel⟩
noncomputable def c_is_worded : List D → Store → R D := fnR .pl 1 1 b_is_worded
theorem has_is_worded {P : Program} {w : World} {K : PySem.W.Frag} {mg : Str → Option Value} {base : Heap} (F : Fx P w K mg base) : Has P w K mg base 1 "is_worded" c_is_worded := by
  obtain ⟨f, fd, Df, hm⟩ := F.d_is_worded
  refine has_of .pl (N := ["thing"]) (ps := ["thing"]) Df hm sc_is_worded rfl (fun _ _ _ _ _ _ us hl => match us, hl with | [_], _ => rfl) fun cdv A outer s H E Y hr air => ?_
  have nd : (["thing"] : List Str).Nodup := sc_is_worded.nd
  have hu := hr.units
  have hu65 := room65 hr
  exact (sb_one (ss_ret (se_and (se_isi .tuple F.f_isinstance F.f_tuple (se_v 0)) (se_and (se_cmp (op_neDD hu) (se_v 0) (se_tup sa_nil)) (se_one (se_isi .str F.f_isinstance F.f_str (se_ix (se_v 0) se_int (fun _ _ => rfl))))))))
/-! is_one_of -/
noncomputable def b_is_one_of : DEnv → Store → R Fl :=
  (evRet (evAnd (evIsi .str (evVar 0)) (evBin (memD false) (evVar 0) (evVar 1))))
theorem sc_is_one_of : FnScope ["thing", "names"] ["thing", "names"] (defScope (top 36)) := ⟨rfl, rfl, rfl, by decide +kernel, rfl, by decide +kernel, by decide +kernel⟩
noncomputable def c_is_one_of : List D → Store → R D := fnR .pl 2 2 b_is_one_of
theorem has_is_one_of {P : Program} {w : World} {K : PySem.W.Frag} {mg : Str → Option Value} {base : Heap} (F : Fx P w K mg base) : Has P w K mg base 1 "is_one_of" c_is_one_of := by
  obtain ⟨f, fd, Df, hm⟩ := F.d_is_one_of
  refine has_of .pl (N := ["thing", "names"]) (ps := ["thing", "names"]) Df hm sc_is_one_of rfl (fun _ _ _ _ _ _ us hl => match us, hl with | [_, _], _ => rfl) fun cdv A outer s H E Y hr air => ?_
  have nd : (["thing", "names"] : List Str).Nodup := sc_is_one_of.nd
  have hu := hr.units
  have hu65 := room65 hr
  exact (sb_one (ss_ret (se_and (se_isi .str F.f_isinstance F.f_str (se_v 0)) (se_one (se_cmp op_inDD (se_v 0) (se_v 1))))))
/-! is_number -/
noncomputable def b_is_number (rec : List D → Store → R D) : DEnv → Store → R Fl :=
  (evSeq (evIfS (evOrT (evTest (evBin oEq (evVar 2) (evC (.int 0)))) (evNotT (evTruth (evCall c_is_worded (evCons (evVar 1) evNil))))) (evRet (evC (.bl false))) evNext)
    (evSeq (evAsg (evBin ixD (evVar 1) (evC (.int 0))) (tgN 3))
    (evSeq (evIfS (evTest (evBin oEq (evVar 3) (evC (.str "num")))) (evRet (evAnd (evBin oEq (evCallO bLen (evCons (evVar 1) evNil)) (evC (.int 2))) (evAnd (evCall c_is_whole (evCons (evBin ixD (evVar 1) (evC (.int 1))) evNil)) (evChain oLe oLe (evC (.int 0)) (evBin ixD (evVar 1) (evC (.int 1))) (evC (.int 99)))))) evNext)
    (evSeq (evIfS (evTest (evBin oEq (evVar 3) (evC (.str "cell")))) (evRet (evAnd (evBin oEq (evCallO bLen (evCons (evVar 1) evNil)) (evC (.int 2))) (evCall c_is_one_of (evCons (evBin ixD (evVar 1) (evC (.int 1))) (evCons (evVar 0) evNil))))) evNext)
    (evSeq (evIfS (evOrT (evTest (evBin (memD true) (evVar 3) (evTup (evCons (evC (.str "add")) (evCons (evC (.str "sub")) (evCons (evC (.str "mul")) evNil)))))) (evTest (evBin oNe (evCallO bLen (evCons (evVar 1) evNil)) (evC (.int 3))))) (evRet (evC (.bl false))) evNext)
    (evRet (evAnd (evCall rec (evCons (evVar 0) (evCons (evBin ixD (evVar 1) (evC (.int 1))) (evCons (evBin oSub (evVar 2) (evC (.int 1))) evNil)))) (evCall rec (evCons (evVar 0) (evCons (evBin ixD (evVar 1) (evC (.int 2))) (evCons (evBin oSub (evVar 2) (evC (.int 1))) evNil)))))))))))
theorem sc_is_number : FnScope ["cells", "thing", "left", "word"] ["cells", "thing", "left"] (defScope (top 37)) := ⟨rfl, rfl, rfl, by decide +kernel, rfl, by decide +kernel, by decide +kernel⟩
noncomputable def c_is_number : Nat → List D → Store → R D
  | 0 => fun _ _ => .bad
  | n + 1 => fnR .pl 3 4 (b_is_number (c_is_number n))
theorem has_is_number {P : Program} {w : World} {K : PySem.W.Frag} {mg : Str → Option Value} {base : Heap} (F : Fx P w K mg base) : ∀ n : Nat, Has P w K mg base (1 + n) "is_number" (c_is_number n)
  | 0 => by
    obtain ⟨f, fd, Df, hm⟩ := F.d_is_number
    exact has_never (ps := ["cells", "thing", "left"]) Df hm (fun _ _ _ _ _ _ us hl => match us, hl with | [_, _, _], _ => rfl)
  | n + 1 => by
    have ih := has_is_number F n
    obtain ⟨f, fd, Df, hm⟩ := F.d_is_number
    refine has_of (k := 1 + n) .pl (N := ["cells", "thing", "left", "word"]) (ps := ["cells", "thing", "left"]) Df hm sc_is_number rfl (fun _ _ _ _ _ _ us hl => match us, hl with | [_, _, _], _ => rfl) fun cdv A outer s H E Y hr air => ?_
    have nd : (["cells", "thing", "left", "word"] : List Str).Nodup := sc_is_number.nd
    have hu := hr.units
    have hu65 := room65 hr
    exact (sb_cons (ss_if (SW.st (sw_or (st_cmp (op_eqDD hu) (se_v 2) se_int) (sw_or1 (st_not (st_truth (se_call (has_is_worded F) hr (by first | decide | omega) air rfl (sa_cons (se_v 1) sa_nil))))))) (sb_one (ss_ret se_bl)) sb_nil)
    (sb_cons (ss_set (i := 3) nd rfl (by first | exact Or.inl rfl | exact Or.inr rfl) (Or.inl rfl) (se_ix (se_v 1) se_int (fun _ _ => rfl)))
    (sb_cons (ss_if (st_cmp (op_eqDD hu) (se_v 3) se_str) (sb_one (ss_ret (se_and (se_cmp (op_eqDD hu) (se_callB call_lenD F.f_len (sa_cons (se_v 1) sa_nil)) se_int) (se_and (se_call (has_is_whole F) hr (by first | decide | omega) air rfl (sa_cons (se_ix (se_v 1) se_int (fun _ _ => rfl)) sa_nil)) (se_one (se_chain op_leD op_leD se_int (se_ix (se_v 1) se_int (fun _ _ => rfl)) (se_gi F.f_MOST_NUMBER))))))) sb_nil)
    (sb_cons (ss_if (st_cmp (op_eqDD hu) (se_v 3) se_str) (sb_one (ss_ret (se_and (se_cmp (op_eqDD hu) (se_callB call_lenD F.f_len (sa_cons (se_v 1) sa_nil)) se_int) (se_one (se_call (has_is_one_of F) hr (by first | decide | omega) air rfl (sa_cons (se_ix (se_v 1) se_int (fun _ _ => rfl)) (sa_cons (se_v 0) sa_nil))))))) sb_nil)
    (sb_cons (ss_if (SW.st (sw_or (st_cmp op_notInDD (se_v 3) (se_tup (sa_cons se_str (sa_cons se_str (sa_cons se_str sa_nil))))) (sw_or1 (st_cmp (op_neDD hu) (se_callB call_lenD F.f_len (sa_cons (se_v 1) sa_nil)) se_int)))) (sb_one (ss_ret se_bl)) sb_nil)
    (sb_one (ss_ret (se_and (se_call ih hr (by first | exact Nat.le_refl _ | omega) air rfl (sa_cons (se_v 0) (sa_cons (se_ix (se_v 1) se_int (fun _ _ => rfl)) (sa_cons (se_bin op_subD (se_v 2) se_int) sa_nil)))) (se_one (se_call ih hr (by first | exact Nat.le_refl _ | omega) air rfl (sa_cons (se_v 0) (sa_cons (se_ix (se_v 1) se_int (fun _ _ => rfl)) (sa_cons (se_bin op_subD (se_v 2) se_int) sa_nil)))))))))))))
/-! is_test -/
noncomputable def b_is_test (rec : List D → Store → R D) : DEnv → Store → R Fl :=
  (evSeq (evIfS (evOrT (evTest (evBin oEq (evVar 2) (evC (.int 0)))) (evNotT (evTruth (evCall c_is_worded (evCons (evVar 1) evNil))))) (evRet (evC (.bl false))) evNext)
    (evSeq (evAsg (evBin ixD (evVar 1) (evC (.int 0))) (tgN 3))
    (evSeq (evIfS (evTest (evBin (memD false) (evVar 3) (evTup (evCons (evC (.str "eq")) (evCons (evC (.str "less")) evNil))))) (evRet (evAnd (evBin oEq (evCallO bLen (evCons (evVar 1) evNil)) (evC (.int 3))) (evCallO bAll (evCons (evMk mkI (evComp [4] (itSeq (evSl (evVar 1) (evPart (evC (.int 1))) evNoPart)) (tgN 4) evYes (evCall (c_is_number 8) (evCons (evVar 0) (evCons (evVar 4) (evCons (evC (.int 6)) evNil)))))) evNil)))) evNext)
    (evSeq (evIfS (evTest (evBin oEq (evVar 3) (evC (.str "not")))) (evRet (evAnd (evBin oEq (evCallO bLen (evCons (evVar 1) evNil)) (evC (.int 2))) (evCall rec (evCons (evVar 0) (evCons (evBin ixD (evVar 1) (evC (.int 1))) (evCons (evBin oSub (evVar 2) (evC (.int 1))) evNil)))))) evNext)
    (evSeq (evIfS (evOrT (evTest (evBin (memD true) (evVar 3) (evTup (evCons (evC (.str "and")) (evCons (evC (.str "or")) evNil))))) (evTest (evBin oNe (evCallO bLen (evCons (evVar 1) evNil)) (evC (.int 3))))) (evRet (evC (.bl false))) evNext)
    (evRet (evAnd (evCall rec (evCons (evVar 0) (evCons (evBin ixD (evVar 1) (evC (.int 1))) (evCons (evBin oSub (evVar 2) (evC (.int 1))) evNil)))) (evCall rec (evCons (evVar 0) (evCons (evBin ixD (evVar 1) (evC (.int 2))) (evCons (evBin oSub (evVar 2) (evC (.int 1))) evNil)))))))))))
theorem sc_is_test : FnScope ["cells", "thing", "left", "word", "part"] ["cells", "thing", "left"] (defScope (top 38)) := ⟨rfl, rfl, rfl, by decide +kernel, rfl, by decide +kernel, by decide +kernel⟩
noncomputable def c_is_test : Nat → List D → Store → R D
  | 0 => fun _ _ => .bad
  | n + 1 => fnR .pl 3 5 (b_is_test (c_is_test n))
theorem has_is_test {P : Program} {w : World} {K : PySem.W.Frag} {mg : Str → Option Value} {base : Heap} (F : Fx P w K mg base) : ∀ n : Nat, Has P w K mg base (9 + n) "is_test" (c_is_test n)
  | 0 => by
    obtain ⟨f, fd, Df, hm⟩ := F.d_is_test
    exact has_never (ps := ["cells", "thing", "left"]) Df hm (fun _ _ _ _ _ _ us hl => match us, hl with | [_, _, _], _ => rfl)
  | n + 1 => by
    have ih := has_is_test F n
    obtain ⟨f, fd, Df, hm⟩ := F.d_is_test
    refine has_of (k := 9 + n) .pl (N := ["cells", "thing", "left", "word", "part"]) (ps := ["cells", "thing", "left"]) Df hm sc_is_test rfl (fun _ _ _ _ _ _ us hl => match us, hl with | [_, _, _], _ => rfl) fun cdv A outer s H E Y hr air => ?_
    have nd : (["cells", "thing", "left", "word", "part"] : List Str).Nodup := sc_is_test.nd
    have hu := hr.units
    have hu65 := room65 hr
    exact (sb_cons (ss_if (SW.st (sw_or (st_cmp (op_eqDD hu) (se_v 2) se_int) (sw_or1 (st_not (st_truth (se_call (has_is_worded F) hr (by first | decide | omega) air rfl (sa_cons (se_v 1) sa_nil))))))) (sb_one (ss_ret se_bl)) sb_nil)
    (sb_cons (ss_set (i := 3) nd rfl (by first | exact Or.inl rfl | exact Or.inr rfl) (Or.inl rfl) (se_ix (se_v 1) se_int (fun _ _ => rfl)))
    (sb_cons (ss_if (st_cmp op_inDD (se_v 3) (se_tup (sa_cons se_str (sa_cons se_str sa_nil)))) (sb_one (ss_ret (se_and (se_cmp (op_eqDD hu) (se_callB call_lenD F.f_len (sa_cons (se_v 1) sa_nil)) se_int) (se_one (se_callB (call_allD rfl) F.f_all (sa_cons (se_lc mkI_ok rfl nd (own := [("part", 4)]) (blkOk_by (by kernel_rfl)) (by decide) (si_seq (se_slice (se_v 1) (so_some se_int) so_none)) (fun _ _ _ _ _ => (sg_n 4 nd)) (fun _ _ _ _ _ => sc_nil) (fun _ _ _ _ _ => (se_call (has_is_number F 8) hr (by first | decide | omega) air_blk rfl (sa_cons (se_v 0) (sa_cons (se_v 4) (sa_cons (se_gi F.f_MOST_NUMBER_DEEP) sa_nil)))))) sa_nil)))))) sb_nil)
    (sb_cons (ss_if (st_cmp (op_eqDD hu) (se_v 3) se_str) (sb_one (ss_ret (se_and (se_cmp (op_eqDD hu) (se_callB call_lenD F.f_len (sa_cons (se_v 1) sa_nil)) se_int) (se_one (se_call ih hr (by first | exact Nat.le_refl _ | omega) air rfl (sa_cons (se_v 0) (sa_cons (se_ix (se_v 1) se_int (fun _ _ => rfl)) (sa_cons (se_bin op_subD (se_v 2) se_int) sa_nil)))))))) sb_nil)
    (sb_cons (ss_if (SW.st (sw_or (st_cmp op_notInDD (se_v 3) (se_tup (sa_cons se_str (sa_cons se_str sa_nil)))) (sw_or1 (st_cmp (op_neDD hu) (se_callB call_lenD F.f_len (sa_cons (se_v 1) sa_nil)) se_int)))) (sb_one (ss_ret se_bl)) sb_nil)
    (sb_one (ss_ret (se_and (se_call ih hr (by first | exact Nat.le_refl _ | omega) air rfl (sa_cons (se_v 0) (sa_cons (se_ix (se_v 1) se_int (fun _ _ => rfl)) (sa_cons (se_bin op_subD (se_v 2) se_int) sa_nil)))) (se_one (se_call ih hr (by first | exact Nat.le_refl _ | omega) air rfl (sa_cons (se_v 0) (sa_cons (se_ix (se_v 1) se_int (fun _ _ => rfl)) (sa_cons (se_bin op_subD (se_v 2) se_int) sa_nil)))))))))))))
/-! is_number_text -/
noncomputable def b_is_number_text : DEnv → Store → R Fl :=
  (evRet (evCall (c_is_number 8) (evCons (evCall c_names_in (evCons (evBin ixD (evVar 0) (evC (.int 0))) evNil)) (evCons (evVar 1) (evCons (evC (.int 6)) evNil)))))
theorem sc_is_number_text : FnScope ["ground", "thing"] ["ground", "thing"] (defScope (top 39)) := ⟨rfl, rfl, rfl, by decide +kernel, rfl, by decide +kernel, by decide +kernel⟩
noncomputable def c_is_number_text : List D → Store → R D := fnR .pl 2 2 b_is_number_text
theorem has_is_number_text {P : Program} {w : World} {K : PySem.W.Frag} {mg : Str → Option Value} {base : Heap} (F : Fx P w K mg base) : Has P w K mg base 10 "is_number_text" c_is_number_text := by
  obtain ⟨f, fd, Df, hm⟩ := F.d_is_number_text
  refine has_of .pl (N := ["ground", "thing"]) (ps := ["ground", "thing"]) Df hm sc_is_number_text rfl (fun _ _ _ _ _ _ us hl => match us, hl with | [_, _], _ => rfl) fun cdv A outer s H E Y hr air => ?_
  have nd : (["ground", "thing"] : List Str).Nodup := sc_is_number_text.nd
  have hu := hr.units
  have hu65 := room65 hr
  exact (sb_one (ss_ret (se_call (has_is_number F 8) hr (by first | decide | omega) air rfl (sa_cons (se_call (has_names_in F) hr (by first | decide | omega) air rfl (sa_cons (se_ix (se_v 0) se_int (fun _ _ => rfl)) sa_nil)) (sa_cons (se_v 1) (sa_cons (se_gi F.f_MOST_NUMBER_DEEP) sa_nil))))))
/-! is_test_text -/
noncomputable def b_is_test_text : DEnv → Store → R Fl :=
  (evRet (evCall (c_is_test 8) (evCons (evCall c_names_in (evCons (evBin ixD (evVar 0) (evC (.int 0))) evNil)) (evCons (evVar 1) (evCons (evC (.int 6)) evNil)))))
theorem sc_is_test_text : FnScope ["ground", "thing"] ["ground", "thing"] (defScope (top 40)) := ⟨rfl, rfl, rfl, by decide +kernel, rfl, by decide +kernel, by decide +kernel⟩
noncomputable def c_is_test_text : List D → Store → R D := fnR .pl 2 2 b_is_test_text
theorem has_is_test_text {P : Program} {w : World} {K : PySem.W.Frag} {mg : Str → Option Value} {base : Heap} (F : Fx P w K mg base) : Has P w K mg base 18 "is_test_text" c_is_test_text := by
  obtain ⟨f, fd, Df, hm⟩ := F.d_is_test_text
  refine has_of .pl (N := ["ground", "thing"]) (ps := ["ground", "thing"]) Df hm sc_is_test_text rfl (fun _ _ _ _ _ _ us hl => match us, hl with | [_, _], _ => rfl) fun cdv A outer s H E Y hr air => ?_
  have nd : (["ground", "thing"] : List Str).Nodup := sc_is_test_text.nd
  have hu := hr.units
  have hu65 := room65 hr
  exact (sb_one (ss_ret (se_call (has_is_test F 8) hr (by first | decide | omega) air rfl (sa_cons (se_call (has_names_in F) hr (by first | decide | omega) air rfl (sa_cons (se_ix (se_v 0) se_int (fun _ _ => rfl)) sa_nil)) (sa_cons (se_v 1) (sa_cons (se_gi F.f_MOST_NUMBER_DEEP) sa_nil))))))
/-! worth_in -/
noncomputable def b_worth_in (rec : List D → Store → R D) : DEnv → Store → R Fl :=
  (evSeq (evAsg (evBin ixD (evVar 1) (evC (.int 0))) (tgN 3))
    (evSeq (evIfS (evTest (evBin oEq (evVar 3) (evC (.str "num")))) (evRet (evBin ixD (evVar 1) (evC (.int 1)))) evNext)
    (evSeq (evIfS (evTest (evBin oEq (evVar 3) (evC (.str "cell")))) (evRet (evBin ixD (evVar 2) (evMethT tIndex (evCall c_names_in (evCons (evBin ixD (evVar 0) (evC (.int 0))) evNil)) (evCons (evBin ixD (evVar 1) (evC (.int 1))) evNil)))) evNext)
    (evSeq (evPar2 4 5 (evCons (evCall rec (evCons (evVar 0) (evCons (evBin ixD (evVar 1) (evC (.int 1))) (evCons (evVar 2) evNil)))) (evCons (evCall rec (evCons (evVar 0) (evCons (evBin ixD (evVar 1) (evC (.int 2))) (evCons (evVar 2) evNil)))) evNil)))
    (evSeq (evIfS (evTest (evBin oEq (evVar 3) (evC (.str "add")))) (evRet (evBin oAdd (evVar 4) (evVar 5))) evNext)
    (evRet (evIte (evTest (evBin oEq (evVar 3) (evC (.str "sub")))) (evBin oSub (evVar 4) (evVar 5)) (evBin oMul (evVar 4) (evVar 5)))))))))
theorem sc_worth_in : FnScope ["ground", "thing", "state", "word", "one", "two"] ["ground", "thing", "state"] (defScope (top 42)) := ⟨rfl, rfl, rfl, by decide +kernel, rfl, by decide +kernel, by decide +kernel⟩
noncomputable def c_worth_in : Nat → List D → Store → R D
  | 0 => fun _ _ => .bad
  | n + 1 => fnR .pl 3 6 (b_worth_in (c_worth_in n))
theorem has_worth_in {P : Program} {w : World} {K : PySem.W.Frag} {mg : Str → Option Value} {base : Heap} (F : Fx P w K mg base) : ∀ n : Nat, Has P w K mg base (1 + n) "worth_in" (c_worth_in n)
  | 0 => by
    obtain ⟨f, fd, Df, hm⟩ := F.d_worth_in
    exact has_never (ps := ["ground", "thing", "state"]) Df hm (fun _ _ _ _ _ _ us hl => match us, hl with | [_, _, _], _ => rfl)
  | n + 1 => by
    have ih := has_worth_in F n
    obtain ⟨f, fd, Df, hm⟩ := F.d_worth_in
    refine has_of (k := 1 + n) .pl (N := ["ground", "thing", "state", "word", "one", "two"]) (ps := ["ground", "thing", "state"]) Df hm sc_worth_in rfl (fun _ _ _ _ _ _ us hl => match us, hl with | [_, _, _], _ => rfl) fun cdv A outer s H E Y hr air => ?_
    have nd : (["ground", "thing", "state", "word", "one", "two"] : List Str).Nodup := sc_worth_in.nd
    have hu := hr.units
    have hu65 := room65 hr
    exact (sb_cons (ss_set (i := 3) nd rfl (by first | exact Or.inl rfl | exact Or.inr rfl) (Or.inl rfl) (se_ix (se_v 1) se_int (fun _ _ => rfl)))
    (sb_cons (ss_if (st_cmp (op_eqDD hu) (se_v 3) se_str) (sb_one (ss_ret (se_ix (se_v 1) se_int (fun _ _ => rfl)))) sb_nil)
    (sb_cons (ss_if (st_cmp (op_eqDD hu) (se_v 3) se_str) (sb_one (ss_ret (se_ix (se_v 2) (se_bmT PySem.F.slot_tuple_index ty_tindex mt_tupIndexD (se_call (has_names_in F) hr (by first | decide | omega) air rfl (sa_cons (se_ix (se_v 0) se_int (fun _ _ => rfl)) sa_nil)) (sa_cons (se_ix (se_v 1) se_int (fun _ _ => rfl)) sa_nil)) (fun _ _ => rfl)))) sb_nil)
    (sb_cons (ss_par2 (i := 4) (j := 5) rfl nd rfl rfl (by decide) rfl rfl (sa_cons (se_call ih hr (by first | exact Nat.le_refl _ | omega) air rfl (sa_cons (se_v 0) (sa_cons (se_ix (se_v 1) se_int (fun _ _ => rfl)) (sa_cons (se_v 2) sa_nil)))) (sa_cons (se_call ih hr (by first | exact Nat.le_refl _ | omega) air rfl (sa_cons (se_v 0) (sa_cons (se_ix (se_v 1) se_int (fun _ _ => rfl)) (sa_cons (se_v 2) sa_nil)))) sa_nil)))
    (sb_cons (ss_if (st_cmp (op_eqDD hu) (se_v 3) se_str) (sb_one (ss_ret (se_bin op_addD (se_v 4) (se_v 5)))) sb_nil)
    (sb_one (ss_ret (se_ite (st_cmp (op_eqDD hu) (se_v 3) se_str) (se_bin op_subD (se_v 4) (se_v 5)) (se_bin op_mulD (se_v 4) (se_v 5))))))))))
/-! holds -/
noncomputable def b_holds (rec : List D → Store → R D) : DEnv → Store → R Fl :=
  (evSeq (evAsg (evBin ixD (evVar 1) (evC (.int 0))) (tgN 3))
    (evSeq (evIfS (evTest (evBin oEq (evVar 3) (evC (.str "not")))) (evRet (evNot (evCall rec (evCons (evVar 0) (evCons (evBin ixD (evVar 1) (evC (.int 1))) (evCons (evVar 2) evNil)))))) evNext)
    (evSeq (evIfS (evTest (evBin (memD false) (evVar 3) (evTup (evCons (evC (.str "and")) (evCons (evC (.str "or")) evNil))))) (evSeq (evAsg (evMk mkI (evComp [5] (itSeq (evSl (evVar 1) (evPart (evC (.int 1))) evNoPart)) (tgN 5) evYes (evCall rec (evCons (evVar 0) (evCons (evVar 5) (evCons (evVar 2) evNil)))))) (tgN 4))
    (evRet (evIte (evTest (evBin oEq (evVar 3) (evC (.str "and")))) (evCallO bAll (evCons (evVar 4) evNil)) (evCallO bAny (evCons (evVar 4) evNil))))) evNext)
    (evSeq (evPar2 6 7 (evCons (evCall (c_worth_in 8) (evCons (evVar 0) (evCons (evBin ixD (evVar 1) (evC (.int 1))) (evCons (evVar 2) evNil)))) (evCons (evCall (c_worth_in 8) (evCons (evVar 0) (evCons (evBin ixD (evVar 1) (evC (.int 2))) (evCons (evVar 2) evNil)))) evNil)))
    (evRet (evIte (evTest (evBin oEq (evVar 3) (evC (.str "eq")))) (evBin oEq (evVar 6) (evVar 7)) (evBin oLt (evVar 6) (evVar 7))))))))
theorem sc_holds : FnScope ["ground", "test", "state", "word", "both", "part", "one", "two"] ["ground", "test", "state"] (defScope (top 43)) := ⟨rfl, rfl, rfl, by decide +kernel, rfl, by decide +kernel, by decide +kernel⟩
noncomputable def c_holds : Nat → List D → Store → R D
  | 0 => fun _ _ => .bad
  | n + 1 => fnR .pl 3 8 (b_holds (c_holds n))
theorem has_holds {P : Program} {w : World} {K : PySem.W.Frag} {mg : Str → Option Value} {base : Heap} (F : Fx P w K mg base) : ∀ n : Nat, Has P w K mg base (9 + n) "holds" (c_holds n)
  | 0 => by
    obtain ⟨f, fd, Df, hm⟩ := F.d_holds
    exact has_never (ps := ["ground", "test", "state"]) Df hm (fun _ _ _ _ _ _ us hl => match us, hl with | [_, _, _], _ => rfl)
  | n + 1 => by
    have ih := has_holds F n
    obtain ⟨f, fd, Df, hm⟩ := F.d_holds
    refine has_of (k := 9 + n) .pl (N := ["ground", "test", "state", "word", "both", "part", "one", "two"]) (ps := ["ground", "test", "state"]) Df hm sc_holds rfl (fun _ _ _ _ _ _ us hl => match us, hl with | [_, _, _], _ => rfl) fun cdv A outer s H E Y hr air => ?_
    have nd : (["ground", "test", "state", "word", "both", "part", "one", "two"] : List Str).Nodup := sc_holds.nd
    have hu := hr.units
    have hu65 := room65 hr
    exact (sb_cons (ss_set (i := 3) nd rfl (by first | exact Or.inl rfl | exact Or.inr rfl) (Or.inl rfl) (se_ix (se_v 1) se_int (fun _ _ => rfl)))
    (sb_cons (ss_if (st_cmp (op_eqDD hu) (se_v 3) se_str) (sb_one (ss_ret (se_not (se_call ih hr (by first | exact Nat.le_refl _ | omega) air rfl (sa_cons (se_v 0) (sa_cons (se_ix (se_v 1) se_int (fun _ _ => rfl)) (sa_cons (se_v 2) sa_nil))))))) sb_nil)
    (sb_cons (ss_if (st_cmp op_inDD (se_v 3) (se_tup (sa_cons se_str (sa_cons se_str sa_nil)))) (sb_cons (ss_lc (i := 4) mkI_ok rfl nd rfl rfl (own := [("part", 5)]) (blkOk_by (by kernel_rfl)) (by decide) (si_seq (se_slice (se_v 1) (so_some se_int) so_none)) (fun _ _ _ _ _ => (sg_n 5 nd)) (fun _ _ _ _ _ => sc_nil) (fun _ _ _ _ _ => (se_call ih hr (by first | exact Nat.le_refl _ | omega) air_blk rfl (sa_cons (se_v 0) (sa_cons (se_v 5) (sa_cons (se_v 2) sa_nil))))))
    (sb_one (ss_ret (se_ite (st_cmp (op_eqDD hu) (se_v 3) se_str) (se_callB (call_allD rfl) F.f_all (sa_cons (se_v 4) sa_nil)) (se_callB (call_anyD rfl) F.f_any (sa_cons (se_v 4) sa_nil)))))) sb_nil)
    (sb_cons (ss_par2 (i := 6) (j := 7) rfl nd rfl rfl (by decide) rfl rfl (sa_cons (se_call (has_worth_in F 8) hr (by first | decide | omega) air rfl (sa_cons (se_v 0) (sa_cons (se_ix (se_v 1) se_int (fun _ _ => rfl)) (sa_cons (se_v 2) sa_nil)))) (sa_cons (se_call (has_worth_in F 8) hr (by first | decide | omega) air rfl (sa_cons (se_v 0) (sa_cons (se_ix (se_v 1) se_int (fun _ _ => rfl)) (sa_cons (se_v 2) sa_nil)))) sa_nil)))
    (sb_one (ss_ret (se_ite (st_cmp (op_eqDD hu) (se_v 3) se_str) (se_cmp (op_eqDD hu) (se_v 6) (se_v 7)) (se_cmp op_ltD (se_v 6) (se_v 7)))))))))
end K84
end
section
set_option Elab.async false
set_option linter.all false
set_option maxRecDepth 100000
set_option maxHeartbeats 4000000
/-! what the defs do, 2 -/
namespace K84
open PySem PySem.Spec PyProof.Rows L2 DL
/-! changed -/
noncomputable def b_changed : DEnv → Store → R Fl :=
  (evRet (evBin oAdd (evBin oAdd (evSl (evVar 0) evNoPart (evPart (evVar 1))) (evTup (evCons (evVar 2) evNil))) (evSl (evVar 0) (evPart (evBin oAdd (evVar 1) (evC (.int 1)))) evNoPart)))
theorem sc_changed : FnScope ["row", "at", "value"] ["row", "at", "value"] (defScope (top 44)) := ⟨rfl, rfl, rfl, by decide +kernel, rfl, by decide +kernel, by decide +kernel⟩
noncomputable def c_changed : List D → Store → R D := fnR .pl 3 3 b_changed
theorem has_changed {P : Program} {w : World} {K : PySem.W.Frag} {mg : Str → Option Value} {base : Heap} (F : Fx P w K mg base) : Has P w K mg base 1 "changed" c_changed := by
  obtain ⟨f, fd, Df, hm⟩ := F.d_changed
  refine has_of .pl (N := ["row", "at", "value"]) (ps := ["row", "at", "value"]) Df hm sc_changed rfl (fun _ _ _ _ _ _ us hl => match us, hl with | [_, _, _], _ => rfl) fun cdv A outer s H E Y hr air => ?_
  have nd : (["row", "at", "value"] : List Str).Nodup := sc_changed.nd
  have hu := hr.units
  have hu65 := room65 hr
  exact (sb_one (ss_ret (se_bin op_addD (se_bin op_addD (se_slice (se_v 0) so_none (so_some (se_v 1))) (se_tup (sa_cons (se_v 2) sa_nil))) (se_slice (se_v 0) (so_some (se_bin op_addD (se_v 1) se_int)) so_none))))
/-! set_in -/
noncomputable def b_set_in : DEnv → Store → R Fl :=
  (evRet (evCall c_changed (evCons (evVar 1) (evCons (evVar 2) (evCons (evBin oMod (evCall (c_worth_in 8) (evCons (evVar 0) (evCons (evVar 3) (evCons (evVar 1) evNil)))) (evBin ixD (evBin ixD (evBin ixD (evVar 0) (evC (.int 0))) (evVar 2)) (evC (.int 1)))) evNil)))))
theorem sc_set_in : FnScope ["ground", "state", "at", "thing"] ["ground", "state", "at", "thing"] (defScope (top 45)) := ⟨rfl, rfl, rfl, by decide +kernel, rfl, by decide +kernel, by decide +kernel⟩
noncomputable def c_set_in : List D → Store → R D := fnR .pl 4 4 b_set_in
theorem has_set_in {P : Program} {w : World} {K : PySem.W.Frag} {mg : Str → Option Value} {base : Heap} (F : Fx P w K mg base) : Has P w K mg base 10 "set_in" c_set_in := by
  obtain ⟨f, fd, Df, hm⟩ := F.d_set_in
  refine has_of .pl (N := ["ground", "state", "at", "thing"]) (ps := ["ground", "state", "at", "thing"]) Df hm sc_set_in rfl (fun _ _ _ _ _ _ us hl => match us, hl with | [_, _, _, _], _ => rfl) fun cdv A outer s H E Y hr air => ?_
  have nd : (["ground", "state", "at", "thing"] : List Str).Nodup := sc_set_in.nd
  have hu := hr.units
  have hu65 := room65 hr
  exact (sb_one (ss_ret (se_call (has_changed F) hr (by first | decide | omega) air rfl (sa_cons (se_v 1) (sa_cons (se_v 2) (sa_cons (se_bin op_modD (se_call (has_worth_in F 8) hr (by first | decide | omega) air rfl (sa_cons (se_v 0) (sa_cons (se_v 3) (sa_cons (se_v 1) sa_nil)))) (se_ix (se_ix (se_ix (se_v 0) se_int (fun _ _ => rfl)) (se_v 2) (fun _ _ => rfl)) se_int (fun _ _ => rfl))) sa_nil))))))
/-! is_row_number -/
noncomputable def b_is_row_number : DEnv → Store → R Fl :=
  (evRet (evAnd (evCall c_is_whole (evCons (evVar 0) evNil)) (evChain oLe oLt (evC (.int 0)) (evVar 0) (evVar 1))))
theorem sc_is_row_number : FnScope ["thing", "many"] ["thing", "many"] (defScope (top 48)) := ⟨rfl, rfl, rfl, by decide +kernel, rfl, by decide +kernel, by decide +kernel⟩
noncomputable def c_is_row_number : List D → Store → R D := fnR .pl 2 2 b_is_row_number
theorem has_is_row_number {P : Program} {w : World} {K : PySem.W.Frag} {mg : Str → Option Value} {base : Heap} (F : Fx P w K mg base) : Has P w K mg base 2 "is_row_number" c_is_row_number := by
  obtain ⟨f, fd, Df, hm⟩ := F.d_is_row_number
  refine has_of .pl (N := ["thing", "many"]) (ps := ["thing", "many"]) Df hm sc_is_row_number rfl (fun _ _ _ _ _ _ us hl => match us, hl with | [_, _], _ => rfl) fun cdv A outer s H E Y hr air => ?_
  have nd : (["thing", "many"] : List Str).Nodup := sc_is_row_number.nd
  have hu := hr.units
  have hu65 := room65 hr
  exact (sb_one (ss_ret (se_and (se_call (has_is_whole F) hr (by first | decide | omega) air rfl (sa_cons (se_v 0) sa_nil)) (se_one (se_chain op_leD op_ltD se_int (se_v 0) (se_v 1))))))
/-! size_of -/
noncomputable def b_size_of : DEnv → Store → R Fl :=
  (evSeq (evAsg (evMk mkI (evComp [3, 4] (itSeq (evBin ixD (evVar 0) (evC (.int 0)))) (tgTup 2 (tgCons (tgN 3) (tgCons (tgN 4) tgNil))) (evTest (evBin oEq (evVar 3) (evVar 1))) (evVar 4))) (tgN 2))
    (evRet (evIte (evTruth (evVar 2)) (evBin ixD (evVar 2) (evC (.int 0))) (evC .non))))
theorem sc_size_of : FnScope ["ground", "name", "sizes", "cell", "size"] ["ground", "name"] (defScope (top 49)) := ⟨rfl, rfl, rfl, by decide +kernel, rfl, by decide +kernel, by decide +kernel⟩
noncomputable def c_size_of : List D → Store → R D := fnR .pl 2 5 b_size_of
theorem has_size_of {P : Program} {w : World} {K : PySem.W.Frag} {mg : Str → Option Value} {base : Heap} (F : Fx P w K mg base) : Has P w K mg base 1 "size_of" c_size_of := by
  obtain ⟨f, fd, Df, hm⟩ := F.d_size_of
  refine has_of .pl (N := ["ground", "name", "sizes", "cell", "size"]) (ps := ["ground", "name"]) Df hm sc_size_of rfl (fun _ _ _ _ _ _ us hl => match us, hl with | [_, _], _ => rfl) fun cdv A outer s H E Y hr air => ?_
  have nd : (["ground", "name", "sizes", "cell", "size"] : List Str).Nodup := sc_size_of.nd
  have hu := hr.units
  have hu65 := room65 hr
  exact (sb_cons (ss_lc (i := 2) mkI_ok rfl nd rfl rfl (own := [("cell", 3), ("size", 4)]) (blkOk_by (by kernel_rfl)) (by decide) (si_seq (se_ix (se_v 0) se_int (fun _ _ => rfl))) (fun _ _ _ _ _ => (sg_tupR rfl (sgs_cons (sg_n 3 nd) (sgs_cons (sg_n 4 nd) sgs_nil)))) (fun _ _ _ _ _ => (sc_one (st_cmp (op_eqDD hu) (se_v 3) (se_v 1)))) (fun _ _ _ _ _ => (se_v 4)))
    (sb_one (ss_ret (se_ite (st_truth (se_v 2)) (se_ix (se_v 2) se_int (fun _ _ => rfl)) se_non))))
/-! is_switch -/
noncomputable def b_is_switch : DEnv → Store → R Fl :=
  (evSeq (evIfS (evOrT (evNotT (evTruth (evIsi .tuple (evVar 2)))) (evNotT (evTruth (evCallO bAll (evCons (evMk mkI (evComp [4] (itSeq (evVar 2)) (tgN 4) evYes (evCall c_is_row_number (evCons (evVar 4) (evCons (evVar 3) evNil))))) evNil))))) (evRet (evC (.bl false))) evNext)
    (evRet (evAnd (evIsi .str (evVar 1)) (evBin oEq (evCall c_size_of (evCons (evVar 0) (evCons (evVar 1) evNil))) (evCallO bLen (evCons (evVar 2) evNil))))))
theorem sc_is_switch : FnScope ["ground", "name", "rows", "many", "row"] ["ground", "name", "rows", "many"] (defScope (top 50)) := ⟨rfl, rfl, rfl, by decide +kernel, rfl, by decide +kernel, by decide +kernel⟩
noncomputable def c_is_switch : List D → Store → R D := fnR .pl 4 5 b_is_switch
theorem has_is_switch {P : Program} {w : World} {K : PySem.W.Frag} {mg : Str → Option Value} {base : Heap} (F : Fx P w K mg base) : Has P w K mg base 3 "is_switch" c_is_switch := by
  obtain ⟨f, fd, Df, hm⟩ := F.d_is_switch
  refine has_of .pl (N := ["ground", "name", "rows", "many", "row"]) (ps := ["ground", "name", "rows", "many"]) Df hm sc_is_switch rfl (fun _ _ _ _ _ _ us hl => match us, hl with | [_, _, _, _], _ => rfl) fun cdv A outer s H E Y hr air => ?_
  have nd : (["ground", "name", "rows", "many", "row"] : List Str).Nodup := sc_is_switch.nd
  have hu := hr.units
  have hu65 := room65 hr
  exact (sb_cons (ss_if (SW.st (sw_or (st_not (st_truth (se_isi .tuple F.f_isinstance F.f_tuple (se_v 2)))) (sw_or1 (st_not (st_truth (se_callB (call_allD rfl) F.f_all (sa_cons (se_lc mkI_ok rfl nd (own := [("row", 4)]) (blkOk_by (by kernel_rfl)) (by decide) (si_seq (se_v 2)) (fun _ _ _ _ _ => (sg_n 4 nd)) (fun _ _ _ _ _ => sc_nil) (fun _ _ _ _ _ => (se_call (has_is_row_number F) hr (by first | decide | omega) air_blk rfl (sa_cons (se_v 4) (sa_cons (se_v 3) sa_nil))))) sa_nil))))))) (sb_one (ss_ret se_bl)) sb_nil)
    (sb_one (ss_ret (se_and (se_isi .str F.f_isinstance F.f_str (se_v 1)) (se_one (se_cmp (op_eqDD hu) (se_call (has_size_of F) hr (by first | decide | omega) air rfl (sa_cons (se_v 0) (sa_cons (se_v 1) sa_nil))) (se_callB call_lenD F.f_len (sa_cons (se_v 2) sa_nil))))))))
/-! is_triple_row -/
noncomputable def b_is_triple_row : DEnv → Store → R Fl :=
  (evSeq (evAsg (evVar 1) (tgTup 3 (tgCons (tgN 3) (tgCons (tgN 4) (tgCons (tgN 5) tgNil)))))
    (evSeq (evIfS (evTest (evBin oEq (evVar 3) (evC (.str "set")))) (evRet (evAnd (evIsi .str (evVar 4)) (evAnd (evBin oNotN (evCall c_size_of (evCons (evVar 0) (evCons (evVar 4) evNil))) (evC .non)) (evCall c_is_number_text (evCons (evVar 0) (evCons (evVar 5) evNil)))))) evNext)
    (evSeq (evIfS (evTest (evBin oEq (evVar 3) (evC (.str "deed")))) (evRet (evAnd (evIsi .str (evVar 4)) (evAnd (evBin (memD false) (evVar 4) (evMk mkI (evComp [6, 7] (itSeq (evBin ixD (evVar 0) (evC (.int 1)))) (tgTup 2 (tgCons (tgN 6) (tgCons (tgN 7) tgNil))) evYes (evVar 6)))) (evAnd (evCall c_is_whole (evCons (evVar 5) evNil)) (evBin oGe (evVar 5) (evC (.int 1))))))) evNext)
    (evSeq (evIfS (evTest (evBin oEq (evVar 3) (evC (.str "branch")))) (evRet (evAnd (evCall c_is_test_text (evCons (evVar 0) (evCons (evVar 4) evNil))) (evCall c_is_row_number (evCons (evVar 5) (evCons (evVar 2) evNil))))) evNext)
    (evRet (evAnd (evBin oEq (evVar 3) (evC (.str "switch"))) (evCall c_is_switch (evCons (evVar 0) (evCons (evVar 4) (evCons (evVar 5) (evCons (evVar 2) evNil)))))))))))
theorem sc_is_triple_row : FnScope ["ground", "row", "many", "word", "one", "two", "kind", "_"] ["ground", "row", "many"] (defScope (top 51)) := ⟨rfl, rfl, rfl, by decide +kernel, rfl, by decide +kernel, by decide +kernel⟩
noncomputable def c_is_triple_row : List D → Store → R D := fnR .pl 3 8 b_is_triple_row
theorem has_is_triple_row {P : Program} {w : World} {K : PySem.W.Frag} {mg : Str → Option Value} {base : Heap} (F : Fx P w K mg base) : Has P w K mg base 19 "is_triple_row" c_is_triple_row := by
  obtain ⟨f, fd, Df, hm⟩ := F.d_is_triple_row
  refine has_of .pl (N := ["ground", "row", "many", "word", "one", "two", "kind", "_"]) (ps := ["ground", "row", "many"]) Df hm sc_is_triple_row rfl (fun _ _ _ _ _ _ us hl => match us, hl with | [_, _, _], _ => rfl) fun cdv A outer s H E Y hr air => ?_
  have nd : (["ground", "row", "many", "word", "one", "two", "kind", "_"] : List Str).Nodup := sc_is_triple_row.nd
  have hu := hr.units
  have hu65 := room65 hr
  exact (sb_cons (ss_asg (se_v 1) (sg_tupR rfl (sgs_cons (sg_n 3 nd) (sgs_cons (sg_n 4 nd) (sgs_cons (sg_n 5 nd) sgs_nil)))))
    (sb_cons (ss_if (st_cmp (op_eqDD hu) (se_v 3) se_str) (sb_one (ss_ret (se_and (se_isi .str F.f_isinstance F.f_str (se_v 4)) (se_and (se_cmp op_notND (se_call (has_size_of F) hr (by first | decide | omega) air rfl (sa_cons (se_v 0) (sa_cons (se_v 4) sa_nil))) se_non) (se_one (se_call (has_is_number_text F) hr (by first | decide | omega) air rfl (sa_cons (se_v 0) (sa_cons (se_v 5) sa_nil)))))))) sb_nil)
    (sb_cons (ss_if (st_cmp (op_eqDD hu) (se_v 3) se_str) (sb_one (ss_ret (se_and (se_isi .str F.f_isinstance F.f_str (se_v 4)) (se_and (se_cmp op_inDD (se_v 4) (se_lc mkI_ok rfl nd (own := [("kind", 6), ("_", 7)]) (blkOk_by (by kernel_rfl)) (by decide) (si_seq (se_ix (se_v 0) se_int (fun _ _ => rfl))) (fun _ _ _ _ _ => (sg_tupR rfl (sgs_cons (sg_n 6 nd) (sgs_cons (sg_n 7 nd) sgs_nil)))) (fun _ _ _ _ _ => sc_nil) (fun _ _ _ _ _ => (se_v 6)))) (se_and (se_call (has_is_whole F) hr (by first | decide | omega) air rfl (sa_cons (se_v 5) sa_nil)) (se_one (se_cmp op_geD (se_v 5) se_int))))))) sb_nil)
    (sb_cons (ss_if (st_cmp (op_eqDD hu) (se_v 3) se_str) (sb_one (ss_ret (se_and (se_call (has_is_test_text F) hr (by first | decide | omega) air rfl (sa_cons (se_v 0) (sa_cons (se_v 4) sa_nil))) (se_one (se_call (has_is_row_number F) hr (by first | decide | omega) air rfl (sa_cons (se_v 5) (sa_cons (se_v 2) sa_nil))))))) sb_nil)
    (sb_one (ss_ret (se_and (se_cmp (op_eqDD hu) (se_v 3) se_str) (se_one (se_call (has_is_switch F) hr (by first | decide | omega) air rfl (sa_cons (se_v 0) (sa_cons (se_v 4) (sa_cons (se_v 5) (sa_cons (se_v 2) sa_nil)))))))))))))
/-! is_row -/
noncomputable def b_is_row : DEnv → Store → R Fl :=
  (evSeq (evIfS (evOrT (evNotT (evTruth (evIsi .tuple (evVar 1)))) (evOrT (evNotT (evTest (evChain oLe oLe (evC (.int 2)) (evCallO bLen (evCons (evVar 1) evNil)) (evC (.int 3))))) (evNotT (evTruth (evIsi .str (evBin ixD (evVar 1) (evC (.int 0)))))))) (evRet (evC (.bl false))) evNext)
    (evSeq (evIfS (evTest (evBin oEq (evCallO bLen (evCons (evVar 1) evNil)) (evC (.int 3)))) (evRet (evCall c_is_triple_row (evCons (evVar 0) (evCons (evVar 1) (evCons (evVar 2) evNil))))) evNext)
    (evSeq (evIfS (evTest (evBin oEq (evBin ixD (evVar 1) (evC (.int 0))) (evC (.str "jump")))) (evRet (evCall c_is_row_number (evCons (evBin ixD (evVar 1) (evC (.int 1))) (evCons (evVar 2) evNil)))) evNext)
    (evRet (evAnd (evBin oEq (evBin ixD (evVar 1) (evC (.int 0))) (evC (.str "exit"))) (evAnd (evIsi .str (evBin ixD (evVar 1) (evC (.int 1)))) (evBin (memD false) (evBin ixD (evVar 1) (evC (.int 1))) (evBin ixD (evVar 0) (evC (.int 2))))))))))
theorem sc_is_row : FnScope ["ground", "row", "many"] ["ground", "row", "many"] (defScope (top 52)) := ⟨rfl, rfl, rfl, by decide +kernel, rfl, by decide +kernel, by decide +kernel⟩
noncomputable def c_is_row : List D → Store → R D := fnR .pl 3 3 b_is_row
theorem has_is_row {P : Program} {w : World} {K : PySem.W.Frag} {mg : Str → Option Value} {base : Heap} (F : Fx P w K mg base) : Has P w K mg base 20 "is_row" c_is_row := by
  obtain ⟨f, fd, Df, hm⟩ := F.d_is_row
  refine has_of .pl (N := ["ground", "row", "many"]) (ps := ["ground", "row", "many"]) Df hm sc_is_row rfl (fun _ _ _ _ _ _ us hl => match us, hl with | [_, _, _], _ => rfl) fun cdv A outer s H E Y hr air => ?_
  have nd : (["ground", "row", "many"] : List Str).Nodup := sc_is_row.nd
  have hu := hr.units
  have hu65 := room65 hr
  exact (sb_cons (ss_if (SW.st (sw_or (st_not (st_truth (se_isi .tuple F.f_isinstance F.f_tuple (se_v 1)))) (sw_or (st_not (st_chain op_leD op_leD se_int (se_callB call_lenD F.f_len (sa_cons (se_v 1) sa_nil)) se_int)) (sw_or1 (st_not (st_truth (se_isi .str F.f_isinstance F.f_str (se_ix (se_v 1) se_int (fun _ _ => rfl))))))))) (sb_one (ss_ret se_bl)) sb_nil)
    (sb_cons (ss_if (st_cmp (op_eqDD hu) (se_callB call_lenD F.f_len (sa_cons (se_v 1) sa_nil)) se_int) (sb_one (ss_ret (se_call (has_is_triple_row F) hr (by first | decide | omega) air rfl (sa_cons (se_v 0) (sa_cons (se_v 1) (sa_cons (se_v 2) sa_nil)))))) sb_nil)
    (sb_cons (ss_if (st_cmp (op_eqDD hu) (se_ix (se_v 1) se_int (fun _ _ => rfl)) se_str) (sb_one (ss_ret (se_call (has_is_row_number F) hr (by first | decide | omega) air rfl (sa_cons (se_ix (se_v 1) se_int (fun _ _ => rfl)) (sa_cons (se_v 2) sa_nil))))) sb_nil)
    (sb_one (ss_ret (se_and (se_cmp (op_eqDD hu) (se_ix (se_v 1) se_int (fun _ _ => rfl)) se_str) (se_and (se_isi .str F.f_isinstance F.f_str (se_ix (se_v 1) se_int (fun _ _ => rfl))) (se_one (se_cmp op_inDD (se_ix (se_v 1) se_int (fun _ _ => rfl)) (se_ix (se_v 0) se_int (fun _ _ => rfl)))))))))))
/-! is_code -/
noncomputable def b_is_code : DEnv → Store → R Fl :=
  (evSeq (evIfS (evOrT (evNotT (evTruth (evCall c_is_ground (evCons (evVar 0) evNil)))) (evOrT (evNotT (evTruth (evIsi .tuple (evVar 1)))) (evNotT (evTest (evChain oLe oLe (evC (.int 1)) (evCallO bLen (evCons (evVar 1) evNil)) (evC (.int 2000))))))) (evRet (evC (.bl false))) evNext)
    (evSeq (evIfS (evNotT (evTruth (evCallO bAll (evCons (evMk mkI (evComp [2] (itSeq (evVar 1)) (tgN 2) evYes (evCall c_is_row (evCons (evVar 0) (evCons (evVar 2) (evCons (evCallO bLen (evCons (evVar 1) evNil)) evNil)))))) evNil)))) (evRet (evC (.bl false))) evNext)
    (evRet (evBin (memD false) (evBin ixD (evBin ixD (evVar 1) (evUn dNeg (evC (.int 1)))) (evC (.int 0))) (evTup (evCons (evC (.str "switch")) (evCons (evC (.str "jump")) (evCons (evC (.str "exit")) evNil))))))))
theorem sc_is_code : FnScope ["ground", "code", "row"] ["ground", "code"] (defScope (top 53)) := ⟨rfl, rfl, rfl, by decide +kernel, rfl, by decide +kernel, by decide +kernel⟩
noncomputable def c_is_code : List D → Store → R D := fnR .pl 2 3 b_is_code
theorem has_is_code {P : Program} {w : World} {K : PySem.W.Frag} {mg : Str → Option Value} {base : Heap} (F : Fx P w K mg base) : Has P w K mg base 21 "is_code" c_is_code := by
  obtain ⟨f, fd, Df, hm⟩ := F.d_is_code
  refine has_of .pl (N := ["ground", "code", "row"]) (ps := ["ground", "code"]) Df hm sc_is_code rfl (fun _ _ _ _ _ _ us hl => match us, hl with | [_, _], _ => rfl) fun cdv A outer s H E Y hr air => ?_
  have nd : (["ground", "code", "row"] : List Str).Nodup := sc_is_code.nd
  have hu := hr.units
  have hu65 := room65 hr
  exact (sb_cons (ss_if (SW.st (sw_or (st_not (st_truth (se_call (has_is_ground F) hr (by first | decide | omega) air rfl (sa_cons (se_v 0) sa_nil)))) (sw_or (st_not (st_truth (se_isi .tuple F.f_isinstance F.f_tuple (se_v 1)))) (sw_or1 (st_not (st_chain op_leD op_leD se_int (se_callB call_lenD F.f_len (sa_cons (se_v 1) sa_nil)) (se_gi F.f_MOST_CODE))))))) (sb_one (ss_ret se_bl)) sb_nil)
    (sb_cons (ss_if (st_not (st_truth (se_callB (call_allD rfl) F.f_all (sa_cons (se_lc mkI_ok rfl nd (own := [("row", 2)]) (blkOk_by (by kernel_rfl)) (by decide) (si_seq (se_v 1)) (fun _ _ _ _ _ => (sg_n 2 nd)) (fun _ _ _ _ _ => sc_nil) (fun _ _ _ _ _ => (se_call (has_is_row F) hr (by first | decide | omega) air_blk rfl (sa_cons (se_v 0) (sa_cons (se_v 2) (sa_cons (se_callB call_lenD F.f_len (sa_cons (se_v 1) sa_nil)) sa_nil)))))) sa_nil)))) (sb_one (ss_ret se_bl)) sb_nil)
    (sb_one (ss_ret (se_cmp op_inDD (se_ix (se_ix (se_v 1) (se_neg se_int) (fun _ _ => rfl)) se_int (fun _ _ => rfl)) (se_tup (sa_cons se_str (sa_cons se_str (sa_cons se_str sa_nil)))))))))
/-! name_place -/
noncomputable def b_name_place : DEnv → Store → R Fl :=
  (evRet (evBin ixD (evMk mkI (evComp [2, 3] (itOfS itmEnum (evCons (evVar 0) evNil)) (tgTup 2 (tgCons (tgN 2) (tgCons (tgN 3) tgNil))) (evTest (evBin oEq (evBin ixD (evVar 3) (evC (.int 0))) (evVar 1))) (evVar 2))) (evC (.int 0))))
theorem sc_name_place : FnScope ["entries", "name", "place", "entry"] ["entries", "name"] (defScope (top 55)) := ⟨rfl, rfl, rfl, by decide +kernel, rfl, by decide +kernel, by decide +kernel⟩
noncomputable def c_name_place : List D → Store → R D := fnR .pl 2 4 b_name_place
theorem has_name_place {P : Program} {w : World} {K : PySem.W.Frag} {mg : Str → Option Value} {base : Heap} (F : Fx P w K mg base) : Has P w K mg base 1 "name_place" c_name_place := by
  obtain ⟨f, fd, Df, hm⟩ := F.d_name_place
  refine has_of .pl (N := ["entries", "name", "place", "entry"]) (ps := ["entries", "name"]) Df hm sc_name_place rfl (fun _ _ _ _ _ _ us hl => match us, hl with | [_, _], _ => rfl) fun cdv A outer s H E Y hr air => ?_
  have nd : (["entries", "name", "place", "entry"] : List Str).Nodup := sc_name_place.nd
  have hu := hr.units
  have hu65 := room65 hr
  exact (sb_one (ss_ret (se_ix (se_lc mkI_ok rfl nd (own := [("place", 2), ("entry", 3)]) (blkOk_by (by kernel_rfl)) (by decide) (si_enum F.f_enumerate (sa_cons (se_v 0) sa_nil)) (fun _ _ _ _ _ => (sg_tupW rfl (sgs_cons (sg_n 2 nd) (sgs_cons (sg_n 3 nd) sgs_nil)))) (fun _ _ _ _ _ => (sc_one (st_cmp (op_eqDD hu) (se_ix (se_v 3) se_int (fun _ _ => rfl)) (se_v 1)))) (fun _ _ _ _ _ => (se_v 2))) se_int (fun _ _ => rfl))))
/-! next_row -/
noncomputable def b_next_row : DEnv → Store → R Fl :=
  (evSeq (evAsg (evBin ixD (evVar 1) (evC (.int 0))) (tgN 4))
    (evSeq (evIfS (evTest (evBin oEq (evVar 4) (evC (.str "jump")))) (evRet (evBin ixD (evVar 1) (evC (.int 1)))) evNext)
    (evSeq (evIfS (evTest (evBin oEq (evVar 4) (evC (.str "switch")))) (evRet (evBin ixD (evBin ixD (evVar 1) (evC (.int 2))) (evBin ixD (evVar 3) (evCall c_name_place (evCons (evBin ixD (evVar 0) (evC (.int 0))) (evCons (evBin ixD (evVar 1) (evC (.int 1))) evNil)))))) evNext)
    (evSeq (evIfS (evAndT (evTest (evBin oEq (evVar 4) (evC (.str "branch")))) (evNotT (evTruth (evCall (c_holds 8) (evCons (evVar 0) (evCons (evBin ixD (evVar 1) (evC (.int 1))) (evCons (evVar 3) evNil))))))) (evRet (evBin ixD (evVar 1) (evC (.int 2)))) evNext)
    (evRet (evBin oAdd (evVar 2) (evC (.int 1))))))))
theorem sc_next_row : FnScope ["ground", "row", "at", "state", "word"] ["ground", "row", "at", "state"] (defScope (top 56)) := ⟨rfl, rfl, rfl, by decide +kernel, rfl, by decide +kernel, by decide +kernel⟩
noncomputable def c_next_row : List D → Store → R D := fnR .pl 4 5 b_next_row
theorem has_next_row {P : Program} {w : World} {K : PySem.W.Frag} {mg : Str → Option Value} {base : Heap} (F : Fx P w K mg base) : Has P w K mg base 18 "next_row" c_next_row := by
  obtain ⟨f, fd, Df, hm⟩ := F.d_next_row
  refine has_of .pl (N := ["ground", "row", "at", "state", "word"]) (ps := ["ground", "row", "at", "state"]) Df hm sc_next_row rfl (fun _ _ _ _ _ _ us hl => match us, hl with | [_, _, _, _], _ => rfl) fun cdv A outer s H E Y hr air => ?_
  have nd : (["ground", "row", "at", "state", "word"] : List Str).Nodup := sc_next_row.nd
  have hu := hr.units
  have hu65 := room65 hr
  exact (sb_cons (ss_set (i := 4) nd rfl (by first | exact Or.inl rfl | exact Or.inr rfl) (Or.inl rfl) (se_ix (se_v 1) se_int (fun _ _ => rfl)))
    (sb_cons (ss_if (st_cmp (op_eqDD hu) (se_v 4) se_str) (sb_one (ss_ret (se_ix (se_v 1) se_int (fun _ _ => rfl)))) sb_nil)
    (sb_cons (ss_if (st_cmp (op_eqDD hu) (se_v 4) se_str) (sb_one (ss_ret (se_ix (se_ix (se_v 1) se_int (fun _ _ => rfl)) (se_ix (se_v 3) (se_call (has_name_place F) hr (by first | decide | omega) air rfl (sa_cons (se_ix (se_v 0) se_int (fun _ _ => rfl)) (sa_cons (se_ix (se_v 1) se_int (fun _ _ => rfl)) sa_nil))) (fun _ _ => rfl)) (fun _ _ => rfl)))) sb_nil)
    (sb_cons (ss_if (SW.st (sw_and (st_cmp (op_eqDD hu) (se_v 4) se_str) (sw_and1 (st_not (st_truth (se_call (has_holds F 8) hr (by first | decide | omega) air rfl (sa_cons (se_v 0) (sa_cons (se_ix (se_v 1) se_int (fun _ _ => rfl)) (sa_cons (se_v 3) sa_nil))))))))) (sb_one (ss_ret (se_ix (se_v 1) se_int (fun _ _ => rfl)))) sb_nil)
    (sb_one (ss_ret (se_bin op_addD (se_v 2) se_int)))))))
/-! state_behind -/
noncomputable def b_state_behind : DEnv → Store → R Fl :=
  (evSeq (evIfS (evTest (evBin oEq (evBin ixD (evVar 1) (evC (.int 0))) (evC (.str "set")))) (evRet (evCall c_set_in (evCons (evVar 0) (evCons (evVar 2) (evCons (evCall c_name_place (evCons (evBin ixD (evVar 0) (evC (.int 0))) (evCons (evBin ixD (evVar 1) (evC (.int 1))) evNil))) (evCons (evBin ixD (evVar 1) (evC (.int 2))) evNil)))))) evNext)
    (evRet (evVar 2)))
theorem sc_state_behind : FnScope ["ground", "row", "state"] ["ground", "row", "state"] (defScope (top 57)) := ⟨rfl, rfl, rfl, by decide +kernel, rfl, by decide +kernel, by decide +kernel⟩
noncomputable def c_state_behind : List D → Store → R D := fnR .pl 3 3 b_state_behind
theorem has_state_behind {P : Program} {w : World} {K : PySem.W.Frag} {mg : Str → Option Value} {base : Heap} (F : Fx P w K mg base) : Has P w K mg base 11 "state_behind" c_state_behind := by
  obtain ⟨f, fd, Df, hm⟩ := F.d_state_behind
  refine has_of .pl (N := ["ground", "row", "state"]) (ps := ["ground", "row", "state"]) Df hm sc_state_behind rfl (fun _ _ _ _ _ _ us hl => match us, hl with | [_, _, _], _ => rfl) fun cdv A outer s H E Y hr air => ?_
  have nd : (["ground", "row", "state"] : List Str).Nodup := sc_state_behind.nd
  have hu := hr.units
  have hu65 := room65 hr
  exact (sb_cons (ss_if (st_cmp (op_eqDD hu) (se_ix (se_v 1) se_int (fun _ _ => rfl)) se_str) (sb_one (ss_ret (se_call (has_set_in F) hr (by first | decide | omega) air rfl (sa_cons (se_v 0) (sa_cons (se_v 2) (sa_cons (se_call (has_name_place F) hr (by first | decide | omega) air rfl (sa_cons (se_ix (se_v 0) se_int (fun _ _ => rfl)) (sa_cons (se_ix (se_v 1) se_int (fun _ _ => rfl)) sa_nil))) (sa_cons (se_ix (se_v 1) se_int (fun _ _ => rfl)) sa_nil))))))) sb_nil)
    (sb_one (ss_ret (se_v 2))))
/-! count_behind -/
noncomputable def b_count_behind : DEnv → Store → R Fl :=
  (evSeq (evIfS (evTest (evBin oEq (evBin ixD (evVar 1) (evC (.int 0))) (evC (.str "deed")))) (evSeq (evAsg (evCall c_name_place (evCons (evBin ixD (evVar 0) (evC (.int 1))) (evCons (evBin ixD (evVar 1) (evC (.int 1))) evNil))) (tgN 3))
    (evRet (evCall c_changed (evCons (evVar 2) (evCons (evVar 3) (evCons (evBin oAdd (evBin ixD (evVar 2) (evVar 3)) (evBin ixD (evVar 1) (evC (.int 2)))) evNil)))))) evNext)
    (evRet (evVar 2)))
theorem sc_count_behind : FnScope ["ground", "row", "count", "kind"] ["ground", "row", "count"] (defScope (top 58)) := ⟨rfl, rfl, rfl, by decide +kernel, rfl, by decide +kernel, by decide +kernel⟩
noncomputable def c_count_behind : List D → Store → R D := fnR .pl 3 4 b_count_behind
theorem has_count_behind {P : Program} {w : World} {K : PySem.W.Frag} {mg : Str → Option Value} {base : Heap} (F : Fx P w K mg base) : Has P w K mg base 2 "count_behind" c_count_behind := by
  obtain ⟨f, fd, Df, hm⟩ := F.d_count_behind
  refine has_of .pl (N := ["ground", "row", "count", "kind"]) (ps := ["ground", "row", "count"]) Df hm sc_count_behind rfl (fun _ _ _ _ _ _ us hl => match us, hl with | [_, _, _], _ => rfl) fun cdv A outer s H E Y hr air => ?_
  have nd : (["ground", "row", "count", "kind"] : List Str).Nodup := sc_count_behind.nd
  have hu := hr.units
  have hu65 := room65 hr
  exact (sb_cons (ss_if (st_cmp (op_eqDD hu) (se_ix (se_v 1) se_int (fun _ _ => rfl)) se_str) (sb_cons (ss_set (i := 3) nd rfl (by first | exact Or.inl rfl | exact Or.inr rfl) (Or.inl rfl) (se_call (has_name_place F) hr (by first | decide | omega) air rfl (sa_cons (se_ix (se_v 0) se_int (fun _ _ => rfl)) (sa_cons (se_ix (se_v 1) se_int (fun _ _ => rfl)) sa_nil))))
    (sb_one (ss_ret (se_call (has_changed F) hr (by first | decide | omega) air rfl (sa_cons (se_v 2) (sa_cons (se_v 3) (sa_cons (se_bin op_addD (se_ix (se_v 2) (se_v 3) (fun _ _ => rfl)) (se_ix (se_v 1) se_int (fun _ _ => rfl))) sa_nil))))))) sb_nil)
    (sb_one (ss_ret (se_v 2))))
end K84
end
section
set_option Elab.async false
set_option linter.all false
set_option maxRecDepth 100000
set_option maxHeartbeats 4000000
/-! what the defs do, 3 -/
namespace K84
open PySem PySem.Spec PyProof.Rows L2 DL
/-! run_rows -/
noncomputable def b_run_rows : DEnv → Store → R Fl :=
  (evSeq (evAsg evNewD (tgN 3))
    (evSeq (evAsg (evC (.int 0)) (tgN 4))
    (evSeq (evAsg (evCall c_nought_of (evCons (evVar 0) evNil)) (tgN 5))
    (evSeq (whileN (evTest (evBin (inDc true) (evTup (evCons (evVar 4) (evCons (evVar 2) evNil))) (evVar 3))) (evSeq (evAsg (evC (.bl true)) (tgSub setDc (evVar 3) (evTup (evCons (evVar 4) (evCons (evVar 2) evNil)))))
    (evSeq (evAsg (evBin ixD (evVar 1) (evVar 4)) (tgN 6))
    (evSeq (evIfS (evTest (evBin oEq (evBin ixD (evVar 6) (evC (.int 0))) (evC (.str "exit")))) (evRet (evTup (evCons (evTup (evCons (evVar 5) (evCons (evCall c_number_of (evCons (evVar 0) (evCons (evVar 2) evNil))) (evCons (evMethT tIndex (evBin ixD (evVar 0) (evC (.int 2))) (evCons (evBin ixD (evVar 6) (evC (.int 1))) evNil)) evNil)))) (evCons (evCallO bLenD (evCons (evVar 3) evNil)) evNil)))) evNext)
    (evSeq (evAsg (evCall c_next_row (evCons (evVar 0) (evCons (evVar 6) (evCons (evVar 4) (evCons (evVar 2) evNil))))) (tgN 4))
    (evSeq (evAsg (evCall c_count_behind (evCons (evVar 0) (evCons (evVar 6) (evCons (evVar 5) evNil)))) (tgN 5))
    (evAsg (evCall c_state_behind (evCons (evVar 0) (evCons (evVar 6) (evCons (evVar 2) evNil)))) (tgN 2))))))) 1000000)
    (evRet (evTup (evCons (evC .non) (evCons (evCallO bLenD (evCons (evVar 3) evNil)) evNil))))))))
theorem sc_run_rows : FnScope ["ground", "code", "state", "met", "at", "count", "row"] ["ground", "code", "state"] (defScope (top 59)) := ⟨rfl, rfl, rfl, by decide +kernel, rfl, by decide +kernel, by decide +kernel⟩
noncomputable def c_run_rows : List D → Store → R D := fnR .pl 3 7 b_run_rows
theorem has_run_rows {P : Program} {w : World} {K : PySem.W.Frag} {mg : Str → Option Value} {base : Heap} (F : Fx P w K mg base) : Has P w K mg base 19 "run_rows" c_run_rows := by
  obtain ⟨f, fd, Df, hm⟩ := F.d_run_rows
  refine has_of .pl (N := ["ground", "code", "state", "met", "at", "count", "row"]) (ps := ["ground", "code", "state"]) Df hm sc_run_rows rfl (fun _ _ _ _ _ _ us hl => match us, hl with | [_, _, _], _ => rfl) fun cdv A outer s H E Y hr air => ?_
  have nd : (["ground", "code", "state", "met", "at", "count", "row"] : List Str).Nodup := sc_run_rows.nd
  have hu := hr.units
  have hu65 := room65 hr
  exact (sb_cons (ss_set (i := 3) nd rfl (by first | exact Or.inl rfl | exact Or.inr rfl) (Or.inl rfl) se_newD)
    (sb_cons (ss_set (i := 4) nd rfl (by first | exact Or.inl rfl | exact Or.inr rfl) (Or.inl rfl) se_int)
    (sb_cons (ss_set (i := 5) nd rfl (by first | exact Or.inl rfl | exact Or.inr rfl) (Or.inl rfl) (se_call (has_nought_of F) hr (by first | decide | omega) air rfl (sa_cons (se_v 0) sa_nil)))
    (sb_cons (ss_while 1000000 (passes_of rfl) (st_cmp (op_notInDc hu) (se_tup (sa_cons (se_v 4) (sa_cons (se_v 2) sa_nil))) (se_v 3)) (sb_cons (ss_asg se_bl (sg_sub (set_dictD hu) (se_v 3) (se_tup (sa_cons (se_v 4) (sa_cons (se_v 2) sa_nil)))))
    (sb_cons (ss_set (i := 6) nd rfl (by first | exact Or.inl rfl | exact Or.inr rfl) (Or.inl rfl) (se_ix (se_v 1) (se_v 4) (fun _ _ => rfl)))
    (sb_cons (ss_if (st_cmp (op_eqDD hu) (se_ix (se_v 6) se_int (fun _ _ => rfl)) se_str) (sb_one (ss_ret (se_tup (sa_cons (se_tup (sa_cons (se_v 5) (sa_cons (se_call (has_number_of F) hr (by first | decide | omega) air rfl (sa_cons (se_v 0) (sa_cons (se_v 2) sa_nil))) (sa_cons (se_bmT PySem.F.slot_tuple_index ty_tindex mt_tupIndexD (se_ix (se_v 0) se_int (fun _ _ => rfl)) (sa_cons (se_ix (se_v 6) se_int (fun _ _ => rfl)) sa_nil)) sa_nil)))) (sa_cons (se_callB call_lenDc F.f_len (sa_cons (se_v 3) sa_nil)) sa_nil))))) sb_nil)
    (sb_cons (ss_set (i := 4) nd rfl (by first | exact Or.inl rfl | exact Or.inr rfl) (Or.inl rfl) (se_call (has_next_row F) hr (by first | decide | omega) air rfl (sa_cons (se_v 0) (sa_cons (se_v 6) (sa_cons (se_v 4) (sa_cons (se_v 2) sa_nil))))))
    (sb_cons (ss_set (i := 5) nd rfl (by first | exact Or.inl rfl | exact Or.inr rfl) (Or.inl rfl) (se_call (has_count_behind F) hr (by first | decide | omega) air rfl (sa_cons (se_v 0) (sa_cons (se_v 6) (sa_cons (se_v 5) sa_nil)))))
    (sb_one (ss_set (i := 2) nd rfl (by first | exact Or.inl rfl | exact Or.inr rfl) (Or.inl rfl) (se_call (has_state_behind F) hr (by first | decide | omega) air rfl (sa_cons (se_v 0) (sa_cons (se_v 6) (sa_cons (se_v 2) sa_nil))))))))))))
    (sb_one (ss_ret (se_tup (sa_cons se_non (sa_cons (se_callB call_lenDc F.f_len (sa_cons (se_v 3) sa_nil)) sa_nil)))))))))
/-! made_code -/
noncomputable def b_made_code : DEnv → Store → R Fl :=
  (evSeq (evIfS (evNotT (evTruth (evCall c_is_code (evCons (evVar 0) (evCons (evVar 1) evNil))))) (evRaise "BadCode" (evCons (evUn dNeg (evC (.int 1))) evNil)) evNext)
    (evRet (evVar 1)))
theorem sc_made_code : FnScope ["ground", "code"] ["ground", "code"] (defScope (top 60)) := ⟨rfl, rfl, rfl, by decide +kernel, rfl, by decide +kernel, by decide +kernel⟩
noncomputable def c_made_code : List D → Store → R D := fnR .pl 2 2 b_made_code
theorem has_made_code {P : Program} {w : World} {K : PySem.W.Frag} {mg : Str → Option Value} {base : Heap} (F : Fx P w K mg base) : Has P w K mg base 22 "made_code" c_made_code := by
  obtain ⟨f, fd, Df, hm⟩ := F.d_made_code
  refine has_of .pl (N := ["ground", "code"]) (ps := ["ground", "code"]) Df hm sc_made_code rfl (fun _ _ _ _ _ _ us hl => match us, hl with | [_, _], _ => rfl) fun cdv A outer s H E Y hr air => ?_
  have nd : (["ground", "code"] : List Str).Nodup := sc_made_code.nd
  have hu := hr.units
  have hu65 := room65 hr
  exact (sb_cons (ss_if (st_not (st_truth (se_call (has_is_code F) hr (by first | decide | omega) air rfl (sa_cons (se_v 0) (sa_cons (se_v 1) sa_nil))))) (sb_one (ss_raiseD F.x_BadCode hr (by first | decide | omega) air rfl rfl (sa_cons (se_neg se_int) sa_nil))) sb_nil)
    (sb_one (ss_ret (se_v 1))))
/-! run_code -/
noncomputable def b_run_code : DEnv → Store → R Fl :=
  (evSeq (evAsg (evCall c_made_ground (evCons (evVar 0) evNil)) (tgN 0))
    (evSeq (evAsg (evCall c_made_code (evCons (evVar 0) (evCons (evVar 1) evNil))) (tgN 1))
    (evSeq (evDrop (evCall c_want_state (evCons (evVar 0) (evCons (evVar 2) evNil))))
    (evRet (evBin ixD (evCall c_run_rows (evCons (evVar 0) (evCons (evVar 1) (evCons (evVar 2) evNil)))) (evC (.int 0)))))))
theorem sc_run_code : FnScope ["ground", "code", "state"] ["ground", "code", "state"] (defScope (top 61)) := ⟨rfl, rfl, rfl, by decide +kernel, rfl, by decide +kernel, by decide +kernel⟩
noncomputable def c_run_code : List D → Store → R D := fnR .pl 3 3 b_run_code
theorem has_run_code {P : Program} {w : World} {K : PySem.W.Frag} {mg : Str → Option Value} {base : Heap} (F : Fx P w K mg base) : Has P w K mg base 23 "run_code" c_run_code := by
  obtain ⟨f, fd, Df, hm⟩ := F.d_run_code
  refine has_of .pl (N := ["ground", "code", "state"]) (ps := ["ground", "code", "state"]) Df hm sc_run_code rfl (fun _ _ _ _ _ _ us hl => match us, hl with | [_, _, _], _ => rfl) fun cdv A outer s H E Y hr air => ?_
  have nd : (["ground", "code", "state"] : List Str).Nodup := sc_run_code.nd
  have hu := hr.units
  have hu65 := room65 hr
  exact (sb_cons (ss_set (i := 0) nd rfl (by first | exact Or.inl rfl | exact Or.inr rfl) (Or.inl rfl) (se_call (has_made_ground F) hr (by first | decide | omega) air rfl (sa_cons (se_v 0) sa_nil)))
    (sb_cons (ss_set (i := 1) nd rfl (by first | exact Or.inl rfl | exact Or.inr rfl) (Or.inl rfl) (se_call (has_made_code F) hr (by first | decide | omega) air rfl (sa_cons (se_v 0) (sa_cons (se_v 1) sa_nil))))
    (sb_cons (ss_expr (se_call (has_want_state F) hr (by first | decide | omega) air rfl (sa_cons (se_v 0) (sa_cons (se_v 2) sa_nil))))
    (sb_one (ss_ret (se_ix (se_call (has_run_rows F) hr (by first | decide | omega) air rfl (sa_cons (se_v 0) (sa_cons (se_v 1) (sa_cons (se_v 2) sa_nil)))) se_int (fun _ _ => rfl)))))))
/-! table_of_code -/
noncomputable def b_table_of_code : DEnv → Store → R Fl :=
  (evRet (evCallO bTuple (evCons (evMk mkI (evComp [2] (itSeq (evCall c_all_states (evCons (evVar 0) evNil))) (tgN 2) evYes (evBin ixD (evCall c_run_rows (evCons (evVar 0) (evCons (evVar 1) (evCons (evVar 2) evNil)))) (evC (.int 0))))) evNil)))
theorem sc_table_of_code : FnScope ["ground", "code", "state"] ["ground", "code"] (defScope (top 62)) := ⟨rfl, rfl, rfl, by decide +kernel, rfl, by decide +kernel, by decide +kernel⟩
noncomputable def c_table_of_code : List D → Store → R D := fnR .pl 2 3 b_table_of_code
theorem has_table_of_code {P : Program} {w : World} {K : PySem.W.Frag} {mg : Str → Option Value} {base : Heap} (F : Fx P w K mg base) : Has P w K mg base 20 "table_of_code" c_table_of_code := by
  obtain ⟨f, fd, Df, hm⟩ := F.d_table_of_code
  refine has_of .pl (N := ["ground", "code", "state"]) (ps := ["ground", "code"]) Df hm sc_table_of_code rfl (fun _ _ _ _ _ _ us hl => match us, hl with | [_, _], _ => rfl) fun cdv A outer s H E Y hr air => ?_
  have nd : (["ground", "code", "state"] : List Str).Nodup := sc_table_of_code.nd
  have hu := hr.units
  have hu65 := room65 hr
  exact (sb_one (ss_ret (se_callTy call_tupleD F.f_tuple (sa_cons (se_lc mkI_ok rfl nd (own := [("state", 2)]) (blkOk_by (by kernel_rfl)) (by decide) (si_seq (se_call (has_all_states F) hr (by first | decide | omega) air rfl (sa_cons (se_v 0) sa_nil))) (fun _ _ _ _ _ => (sg_n 2 nd)) (fun _ _ _ _ _ => sc_nil) (fun _ _ _ _ _ => (se_ix (se_call (has_run_rows F) hr (by first | decide | omega) air_blk rfl (sa_cons (se_v 0) (sa_cons (se_v 1) (sa_cons (se_v 2) sa_nil)))) se_int (fun _ _ => rfl)))) sa_nil))))
/-! code_table -/
noncomputable def b_code_table : DEnv → Store → R Fl :=
  (evSeq (evAsg (evCall c_made_ground (evCons (evVar 0) evNil)) (tgN 0))
    (evRet (evCall c_table_of_code (evCons (evVar 0) (evCons (evCall c_made_code (evCons (evVar 0) (evCons (evVar 1) evNil))) evNil)))))
theorem sc_code_table : FnScope ["ground", "code"] ["ground", "code"] (defScope (top 63)) := ⟨rfl, rfl, rfl, by decide +kernel, rfl, by decide +kernel, by decide +kernel⟩
noncomputable def c_code_table : List D → Store → R D := fnR .pl 2 2 b_code_table
theorem has_code_table {P : Program} {w : World} {K : PySem.W.Frag} {mg : Str → Option Value} {base : Heap} (F : Fx P w K mg base) : Has P w K mg base 23 "code_table" c_code_table := by
  obtain ⟨f, fd, Df, hm⟩ := F.d_code_table
  refine has_of .pl (N := ["ground", "code"]) (ps := ["ground", "code"]) Df hm sc_code_table rfl (fun _ _ _ _ _ _ us hl => match us, hl with | [_, _], _ => rfl) fun cdv A outer s H E Y hr air => ?_
  have nd : (["ground", "code"] : List Str).Nodup := sc_code_table.nd
  have hu := hr.units
  have hu65 := room65 hr
  exact (sb_cons (ss_set (i := 0) nd rfl (by first | exact Or.inl rfl | exact Or.inr rfl) (Or.inl rfl) (se_call (has_made_ground F) hr (by first | decide | omega) air rfl (sa_cons (se_v 0) sa_nil)))
    (sb_one (ss_ret (se_call (has_table_of_code F) hr (by first | decide | omega) air rfl (sa_cons (se_v 0) (sa_cons (se_call (has_made_code F) hr (by first | decide | omega) air rfl (sa_cons (se_v 0) (sa_cons (se_v 1) sa_nil))) sa_nil))))))
/-! metered -/
noncomputable def b_metered : DEnv → Store → R Fl :=
  (evSeq (evAsg (evVar 1) (tgTup 2 (tgCons (tgN 2) (tgCons (tgN 3) tgNil))))
    (evRet (evIte (evTest (evBin oIsN (evVar 2) (evC .non))) (evC .non) (evTup (evCons (evVar 3) (evCons (evCall c_price_of (evCons (evVar 0) (evCons (evBin ixD (evVar 2) (evC (.int 0))) evNil))) evNil))))))
theorem sc_metered : FnScope ["ground", "run", "outcome", "many"] ["ground", "run"] (defScope (top 64)) := ⟨rfl, rfl, rfl, by decide +kernel, rfl, by decide +kernel, by decide +kernel⟩
noncomputable def c_metered : List D → Store → R D := fnR .pl 2 4 b_metered
theorem has_metered {P : Program} {w : World} {K : PySem.W.Frag} {mg : Str → Option Value} {base : Heap} (F : Fx P w K mg base) : Has P w K mg base 2 "metered" c_metered := by
  obtain ⟨f, fd, Df, hm⟩ := F.d_metered
  refine has_of .pl (N := ["ground", "run", "outcome", "many"]) (ps := ["ground", "run"]) Df hm sc_metered rfl (fun _ _ _ _ _ _ us hl => match us, hl with | [_, _], _ => rfl) fun cdv A outer s H E Y hr air => ?_
  have nd : (["ground", "run", "outcome", "many"] : List Str).Nodup := sc_metered.nd
  have hu := hr.units
  have hu65 := room65 hr
  exact (sb_cons (ss_asg (se_v 1) (sg_tupR rfl (sgs_cons (sg_n 2 nd) (sgs_cons (sg_n 3 nd) sgs_nil))))
    (sb_one (ss_ret (se_ite (st_cmp op_isND (se_v 2) se_non) se_non (se_tup (sa_cons (se_v 3) (sa_cons (se_call (has_price_of F) hr (by first | decide | omega) air rfl (sa_cons (se_v 0) (sa_cons (se_ix (se_v 2) se_int (fun _ _ => rfl)) sa_nil))) sa_nil)))))))
/-! meter -/
noncomputable def b_meter : DEnv → Store → R Fl :=
  (evSeq (evAsg (evCall c_made_ground (evCons (evVar 0) evNil)) (tgN 0))
    (evSeq (evAsg (evCall c_made_code (evCons (evVar 0) (evCons (evVar 1) evNil))) (tgN 1))
    (evRet (evCallO bTuple (evCons (evMk mkI (evComp [2] (itSeq (evCall c_all_states (evCons (evVar 0) evNil))) (tgN 2) evYes (evCall c_metered (evCons (evVar 0) (evCons (evCall c_run_rows (evCons (evVar 0) (evCons (evVar 1) (evCons (evVar 2) evNil)))) evNil))))) evNil)))))
theorem sc_meter : FnScope ["ground", "code", "state"] ["ground", "code"] (defScope (top 65)) := ⟨rfl, rfl, rfl, by decide +kernel, rfl, by decide +kernel, by decide +kernel⟩
noncomputable def c_meter : List D → Store → R D := fnR .pl 2 3 b_meter
theorem has_meter {P : Program} {w : World} {K : PySem.W.Frag} {mg : Str → Option Value} {base : Heap} (F : Fx P w K mg base) : Has P w K mg base 23 "meter" c_meter := by
  obtain ⟨f, fd, Df, hm⟩ := F.d_meter
  refine has_of .pl (N := ["ground", "code", "state"]) (ps := ["ground", "code"]) Df hm sc_meter rfl (fun _ _ _ _ _ _ us hl => match us, hl with | [_, _], _ => rfl) fun cdv A outer s H E Y hr air => ?_
  have nd : (["ground", "code", "state"] : List Str).Nodup := sc_meter.nd
  have hu := hr.units
  have hu65 := room65 hr
  exact (sb_cons (ss_set (i := 0) nd rfl (by first | exact Or.inl rfl | exact Or.inr rfl) (Or.inl rfl) (se_call (has_made_ground F) hr (by first | decide | omega) air rfl (sa_cons (se_v 0) sa_nil)))
    (sb_cons (ss_set (i := 1) nd rfl (by first | exact Or.inl rfl | exact Or.inr rfl) (Or.inl rfl) (se_call (has_made_code F) hr (by first | decide | omega) air rfl (sa_cons (se_v 0) (sa_cons (se_v 1) sa_nil))))
    (sb_one (ss_ret (se_callTy call_tupleD F.f_tuple (sa_cons (se_lc mkI_ok rfl nd (own := [("state", 2)]) (blkOk_by (by kernel_rfl)) (by decide) (si_seq (se_call (has_all_states F) hr (by first | decide | omega) air rfl (sa_cons (se_v 0) sa_nil))) (fun _ _ _ _ _ => (sg_n 2 nd)) (fun _ _ _ _ _ => sc_nil) (fun _ _ _ _ _ => (se_call (has_metered F) hr (by first | decide | omega) air_blk rfl (sa_cons (se_v 0) (sa_cons (se_call (has_run_rows F) hr (by first | decide | omega) air_blk rfl (sa_cons (se_v 0) (sa_cons (se_v 1) (sa_cons (se_v 2) sa_nil)))) sa_nil))))) sa_nil))))))
/-! _law_pool -/
noncomputable def b__law_pool : DEnv → Store → R Fl :=
  (evSeq (evAsg (evC (.int 0)) (tgN 2))
    (evSeq (evIfS (evTest (evBin oLt (evVar 1) (evCallO bLen (evCons (evVar 0) evNil)))) (evAsg (evBin ixD (evVar 0) (evVar 1)) (tgN 2)) (evIfS (evTest (evBin oNe (evVar 0) (evLst evNil))) (evAsg (evBin ixD (evVar 0) (evC (.int 0))) (tgN 2)) evNext))
    (evSeq (evAsg (evCallO bMax (evCons (evCallO bInt (evCons (evVar 2) evNil)) (evCons (evCallO bInt (evCons (evBin oSub (evUn dNeg (evC (.int 1))) (evVar 2)) evNil)) evNil))) (tgN 3))
    (evSeq (evAsg (evBin oMod (evCallO bInt (evCons (evBin oMul (evBin oAdd (evBin oAdd (evBin oAdd (evBin oMod (evCallO bInt (evCons (evVar 3) evNil)) (evC (.int 2147483629))) (evBin oMul (evBin oMul (evC (.int 7919)) (evVar 1)) (evVar 1))) (evBin oMul (evC (.int 31)) (evVar 1))) (evC (.int 17))) (evC (.int 48271))) evNil)) (evC (.int 2147483647))) (tgN 4))
    (evRet (evNew (evCons (evBin oMul (evVar 3) (evCallO bInt (evCons (evAnd (evBin oGe (evVar 3) (evBin oPow (evC (.int 10)) (evC (.int 18)))) (evBin oLt (evVar 1) (evCallO bLen (evCons (evVar 0) evNil)))) evNil))) (evCons (evVar 4) evNil))))))))
theorem sc__law_pool : FnScope ["script", "k", "cell", "big", "mixed"] ["script", "k"] (defScope (top 67)) := ⟨rfl, rfl, rfl, by decide +kernel, rfl, by decide +kernel, by decide +kernel⟩
noncomputable def c__law_pool : List D → Store → R D := fnR .nw 2 5 b__law_pool
theorem has__law_pool {P : Program} {w : World} {K : PySem.W.Frag} {mg : Str → Option Value} {base : Heap} (F : Fx P w K mg base) : Has P w K mg base 1 "_law_pool" c__law_pool := by
  obtain ⟨f, fd, Df, hm⟩ := F.d__law_pool
  refine has_of .nw (N := ["script", "k", "cell", "big", "mixed"]) (ps := ["script", "k"]) Df hm sc__law_pool rfl (fun _ _ _ _ _ _ us hl => match us, hl with | [_, _], _ => rfl) fun cdv A outer s H E Y hr air => ?_
  have nd : (["script", "k", "cell", "big", "mixed"] : List Str).Nodup := sc__law_pool.nd
  have hu := hr.units
  have hu65 := room65 hr
  exact (sb_cons (ss_set (i := 2) nd rfl (by first | exact Or.inl rfl | exact Or.inr rfl) (Or.inl rfl) se_int)
    (sb_cons (ss_if (st_cmp op_ltD (se_v 1) (se_callB call_lenD F.f_len (sa_cons (se_v 0) sa_nil))) (sb_one (ss_set (i := 2) nd rfl (by first | exact Or.inl rfl | exact Or.inr rfl) (Or.inl rfl) (se_ix (se_v 0) (se_v 1) (fun _ _ => rfl)))) (sb_one (ss_if (st_cmp (op_neDD hu) (se_v 0) (se_lst sa_nil)) (sb_one (ss_set (i := 2) nd rfl (by first | exact Or.inl rfl | exact Or.inr rfl) (Or.inl rfl) (se_ix (se_v 0) se_int (fun _ _ => rfl)))) sb_nil)))
    (sb_cons (ss_set (i := 3) nd rfl (by first | exact Or.inl rfl | exact Or.inr rfl) (Or.inl rfl) (se_callB (call_maxD rfl) F.f_max (sa_cons (se_callTy call_intD F.f_int (sa_cons (se_v 2) sa_nil)) (sa_cons (se_callTy call_intD F.f_int (sa_cons (se_bin op_subD (se_neg se_int) (se_v 2)) sa_nil)) sa_nil))))
    (sb_cons (ss_set (i := 4) nd rfl (by first | exact Or.inl rfl | exact Or.inr rfl) (Or.inl rfl) (se_bin op_modD (se_callTy call_intD F.f_int (sa_cons (se_bin op_mulD (se_bin op_addD (se_bin op_addD (se_bin op_addD (se_bin op_modD (se_callTy call_intD F.f_int (sa_cons (se_v 3) sa_nil)) se_int) (se_bin op_mulD (se_bin op_mulD se_int (se_v 1)) (se_v 1))) (se_bin op_mulD se_int (se_v 1))) se_int) se_int) sa_nil)) se_int))
    (sb_one (ss_ret (se_new (sa_cons (se_bin op_mulD (se_v 3) (se_callTy call_intD F.f_int (sa_cons (se_and (se_cmp op_geD (se_v 3) (se_bin op_powD se_int se_int)) (se_one (se_cmp op_ltD (se_v 1) (se_callB call_lenD F.f_len (sa_cons (se_v 0) sa_nil))))) sa_nil))) (sa_cons (se_v 4) sa_nil)))))))))
/-! _law_take -/
noncomputable def b__law_take : DEnv → Store → R Fl :=
  (evSeq (evIfS (evTest (evBin oGt (evBin ixD (evVar 0) (evC (.int 0))) (evC (.int 0)))) (evSeq (evAsg (evBin oMod (evCallO bInt (evCons (evBin ixD (evVar 0) (evC (.int 0))) evNil)) (evVar 1)) (tgN 2))
    (evSeq (evAsg (evBin oDiv (evBin ixD (evVar 0) (evC (.int 0))) (evVar 1)) (tgSub setL (evVar 0) (evC (.int 0))))
    (evRet (evVar 2)))) evNext)
    (evSeq (evAsg (evBin oMod (evCallO bInt (evCons (evBin oAdd (evBin oMul (evBin ixD (evVar 0) (evC (.int 1))) (evC (.int 39373))) (evC (.int 7))) evNil)) (evC (.int 2147483647))) (tgSub setL (evVar 0) (evC (.int 1))))
    (evRet (evBin oMod (evCallO bInt (evCons (evBin oDiv (evBin oMod (evCallO bInt (evCons (evBin oMul (evBin ixD (evVar 0) (evC (.int 1))) (evBin ixD (evVar 0) (evC (.int 1)))) evNil)) (evC (.int 2147483629))) (evC (.int 32))) evNil)) (evVar 1)))))
theorem sc__law_take : FnScope ["source", "top", "drawn"] ["source", "top"] (defScope (top 68)) := ⟨rfl, rfl, rfl, by decide +kernel, rfl, by decide +kernel, by decide +kernel⟩
noncomputable def c__law_take : List D → Store → R D := fnR .pl 2 3 b__law_take
theorem has__law_take {P : Program} {w : World} {K : PySem.W.Frag} {mg : Str → Option Value} {base : Heap} (F : Fx P w K mg base) : Has P w K mg base 1 "_law_take" c__law_take := by
  obtain ⟨f, fd, Df, hm⟩ := F.d__law_take
  refine has_of .pl (N := ["source", "top", "drawn"]) (ps := ["source", "top"]) Df hm sc__law_take rfl (fun _ _ _ _ _ _ us hl => match us, hl with | [_, _], _ => rfl) fun cdv A outer s H E Y hr air => ?_
  have nd : (["source", "top", "drawn"] : List Str).Nodup := sc__law_take.nd
  have hu := hr.units
  have hu65 := room65 hr
  exact (sb_cons (ss_if (st_cmp op_gtD (se_ix (se_v 0) se_int (fun _ _ => rfl)) se_int) (sb_cons (ss_set (i := 2) nd rfl (by first | exact Or.inl rfl | exact Or.inr rfl) (Or.inl rfl) (se_bin op_modD (se_callTy call_intD F.f_int (sa_cons (se_ix (se_v 0) se_int (fun _ _ => rfl)) sa_nil)) (se_v 1)))
    (sb_cons (ss_asg (se_bin op_divD (se_ix (se_v 0) se_int (fun _ _ => rfl)) (se_v 1)) (sg_sub set_listD (se_v 0) se_int))
    (sb_one (ss_ret (se_v 2))))) sb_nil)
    (sb_cons (ss_asg (se_bin op_modD (se_callTy call_intD F.f_int (sa_cons (se_bin op_addD (se_bin op_mulD (se_ix (se_v 0) se_int (fun _ _ => rfl)) se_int) se_int) sa_nil)) se_int) (sg_sub set_listD (se_v 0) se_int))
    (sb_one (ss_ret (se_bin op_modD (se_callTy call_intD F.f_int (sa_cons (se_bin op_divD (se_bin op_modD (se_callTy call_intD F.f_int (sa_cons (se_bin op_mulD (se_ix (se_v 0) se_int (fun _ _ => rfl)) (se_ix (se_v 0) se_int (fun _ _ => rfl))) sa_nil)) se_int) se_int) sa_nil)) (se_v 1))))))
/-! _law_one -/
noncomputable def b__law_one : DEnv → Store → R Fl :=
  (evRet (evBin ixD (evVar 1) (evCall c__law_take (evCons (evVar 0) (evCons (evCallO bLen (evCons (evVar 1) evNil)) evNil)))))
theorem sc__law_one : FnScope ["source", "things"] ["source", "things"] (defScope (top 69)) := ⟨rfl, rfl, rfl, by decide +kernel, rfl, by decide +kernel, by decide +kernel⟩
noncomputable def c__law_one : List D → Store → R D := fnR .pl 2 2 b__law_one
theorem has__law_one {P : Program} {w : World} {K : PySem.W.Frag} {mg : Str → Option Value} {base : Heap} (F : Fx P w K mg base) : Has P w K mg base 2 "_law_one" c__law_one := by
  obtain ⟨f, fd, Df, hm⟩ := F.d__law_one
  refine has_of .pl (N := ["source", "things"]) (ps := ["source", "things"]) Df hm sc__law_one rfl (fun _ _ _ _ _ _ us hl => match us, hl with | [_, _], _ => rfl) fun cdv A outer s H E Y hr air => ?_
  have nd : (["source", "things"] : List Str).Nodup := sc__law_one.nd
  have hu := hr.units
  have hu65 := room65 hr
  exact (sb_one (ss_ret (se_ix (se_v 1) (se_call (has__law_take F) hr (by first | decide | omega) air rfl (sa_cons (se_v 0) (sa_cons (se_callB call_lenD F.f_len (sa_cons (se_v 1) sa_nil)) sa_nil))) (fun _ _ => rfl))))
/-! _law_cost -/
noncomputable def b__law_cost : DEnv → Store → R Fl :=
  (evRet (evCallO bSum (evCons (evMk mkI (evComp [2] (itOf itmR1 (evCons (evCallO bLen (evCons (evVar 0) evNil)) evNil)) (tgN 2) evYes (evBin oMul (evBin ixD (evVar 0) (evVar 2)) (evBin ixD (evVar 1) (evVar 2))))) evNil)))
theorem sc__law_cost : FnScope ["prices", "v", "k"] ["prices", "v"] (defScope (top 70)) := ⟨rfl, rfl, rfl, by decide +kernel, rfl, by decide +kernel, by decide +kernel⟩
noncomputable def c__law_cost : List D → Store → R D := fnR .pl 2 3 b__law_cost
theorem has__law_cost {P : Program} {w : World} {K : PySem.W.Frag} {mg : Str → Option Value} {base : Heap} (F : Fx P w K mg base) : Has P w K mg base 1 "_law_cost" c__law_cost := by
  obtain ⟨f, fd, Df, hm⟩ := F.d__law_cost
  refine has_of .pl (N := ["prices", "v", "k"]) (ps := ["prices", "v"]) Df hm sc__law_cost rfl (fun _ _ _ _ _ _ us hl => match us, hl with | [_, _], _ => rfl) fun cdv A outer s H E Y hr air => ?_
  have nd : (["prices", "v", "k"] : List Str).Nodup := sc__law_cost.nd
  have hu := hr.units
  have hu65 := room65 hr
  exact (sb_one (ss_ret (se_callB (call_sumD rfl) F.f_sum (sa_cons (se_lc mkI_ok rfl nd (own := [("k", 2)]) (blkOk_by (by kernel_rfl)) (by decide) (si_range1 F.f_range (sa_cons (se_callB call_lenD F.f_len (sa_cons (se_v 0) sa_nil)) sa_nil)) (fun _ _ _ _ _ => (sg_n 2 nd)) (fun _ _ _ _ _ => sc_nil) (fun _ _ _ _ _ => (se_bin op_mulD (se_ix (se_v 0) (se_v 2) (fun _ _ => rfl)) (se_ix (se_v 1) (se_v 2) (fun _ _ => rfl))))) sa_nil))))
/-! _law_ground -/
noncomputable def b__law_ground : DEnv → Store → R Fl :=
  (evSeq (evAsg (evCall c__law_one (evCons (evVar 0) (evCons (evLst (evCons (evTup (evCons (evTup (evCons (evC (.str "c")) (evCons (evC (.int 2)) evNil))) evNil)) (evCons (evTup (evCons (evTup (evCons (evC (.str "c")) (evCons (evC (.int 3)) evNil))) evNil)) (evCons (evTup (evCons (evTup (evCons (evC (.str "a")) (evCons (evC (.int 2)) evNil))) (evCons (evTup (evCons (evC (.str "b1")) (evCons (evC (.int 3)) evNil))) evNil))) (evCons (evTup (evCons (evTup (evCons (evC (.str "x")) (evCons (evC (.int 2)) evNil))) (evCons (evTup (evCons (evC (.str "y")) (evCons (evC (.int 2)) evNil))) evNil))) (evCons (evTup (evCons (evTup (evCons (evC (.str "n")) (evCons (evC (.int 4)) evNil))) evNil)) (evCons (evTup evNil) evNil))))))) evNil))) (tgN 1))
    (evSeq (evAsg (evCall c__law_one (evCons (evVar 0) (evCons (evLst (evCons (evC (.int 1)) (evCons (evC (.int 1)) (evCons (evC (.int 5)) (evCons (evC (.int 99)) (evCons (evBin oAdd (evC (.int 1)) (evCall c__law_take (evCons (evVar 0) (evCons (evC (.int 99)) evNil)))) evNil)))))) evNil))) (tgN 2))
    (evSeq (evAsg (evCall c__law_one (evCons (evVar 0) (evCons (evLst (evCons (evTup (evCons (evTup (evCons (evC (.str "send")) (evCons (evVar 2) evNil))) evNil)) (evCons (evTup (evCons (evTup (evCons (evC (.str "log")) (evCons (evC (.int 1)) evNil))) (evCons (evTup (evCons (evC (.str "flush")) (evCons (evVar 2) evNil))) evNil))) (evCons (evTup (evCons (evTup (evCons (evC (.str "f")) (evCons (evVar 2) evNil))) (evCons (evTup (evCons (evC (.str "g2")) (evCons (evVar 2) evNil))) evNil))) evNil)))) evNil))) (tgN 3))
    (evRet (evTup (evCons (evVar 1) (evCons (evVar 3) (evCons (evCall c__law_one (evCons (evVar 0) (evCons (evLst (evCons (evTup (evCons (evC (.str "done")) (evCons (evC (.str "fail")) evNil))) (evCons (evTup (evCons (evC (.str "ok")) evNil)) (evCons (evTup (evCons (evC (.str "out")) (evCons (evC (.str "err")) (evCons (evC (.str "bad")) evNil)))) evNil)))) evNil))) evNil))))))))
theorem sc__law_ground : FnScope ["source", "cells", "price", "kinds"] ["source"] (defScope (top 71)) := ⟨rfl, rfl, rfl, by decide +kernel, rfl, by decide +kernel, by decide +kernel⟩
noncomputable def c__law_ground : List D → Store → R D := fnR .pl 1 4 b__law_ground
theorem has__law_ground {P : Program} {w : World} {K : PySem.W.Frag} {mg : Str → Option Value} {base : Heap} (F : Fx P w K mg base) : Has P w K mg base 3 "_law_ground" c__law_ground := by
  obtain ⟨f, fd, Df, hm⟩ := F.d__law_ground
  refine has_of .pl (N := ["source", "cells", "price", "kinds"]) (ps := ["source"]) Df hm sc__law_ground rfl (fun _ _ _ _ _ _ us hl => match us, hl with | [_], _ => rfl) fun cdv A outer s H E Y hr air => ?_
  have nd : (["source", "cells", "price", "kinds"] : List Str).Nodup := sc__law_ground.nd
  have hu := hr.units
  have hu65 := room65 hr
  exact (sb_cons (ss_set (i := 1) nd rfl (by first | exact Or.inl rfl | exact Or.inr rfl) (Or.inl rfl) (se_call (has__law_one F) hr (by first | decide | omega) air rfl (sa_cons (se_v 0) (sa_cons (se_lst (sa_cons (se_tup (sa_cons (se_tup (sa_cons se_str (sa_cons se_int sa_nil))) sa_nil)) (sa_cons (se_tup (sa_cons (se_tup (sa_cons se_str (sa_cons se_int sa_nil))) sa_nil)) (sa_cons (se_tup (sa_cons (se_tup (sa_cons se_str (sa_cons se_int sa_nil))) (sa_cons (se_tup (sa_cons se_str (sa_cons se_int sa_nil))) sa_nil))) (sa_cons (se_tup (sa_cons (se_tup (sa_cons se_str (sa_cons se_int sa_nil))) (sa_cons (se_tup (sa_cons se_str (sa_cons se_int sa_nil))) sa_nil))) (sa_cons (se_tup (sa_cons (se_tup (sa_cons se_str (sa_cons se_int sa_nil))) sa_nil)) (sa_cons (se_tup sa_nil) sa_nil))))))) sa_nil))))
    (sb_cons (ss_set (i := 2) nd rfl (by first | exact Or.inl rfl | exact Or.inr rfl) (Or.inl rfl) (se_call (has__law_one F) hr (by first | decide | omega) air rfl (sa_cons (se_v 0) (sa_cons (se_lst (sa_cons se_int (sa_cons se_int (sa_cons se_int (sa_cons se_int (sa_cons (se_bin op_addD se_int (se_call (has__law_take F) hr (by first | decide | omega) air rfl (sa_cons (se_v 0) (sa_cons se_int sa_nil)))) sa_nil)))))) sa_nil))))
    (sb_cons (ss_set (i := 3) nd rfl (by first | exact Or.inl rfl | exact Or.inr rfl) (Or.inl rfl) (se_call (has__law_one F) hr (by first | decide | omega) air rfl (sa_cons (se_v 0) (sa_cons (se_lst (sa_cons (se_tup (sa_cons (se_tup (sa_cons se_str (sa_cons (se_v 2) sa_nil))) sa_nil)) (sa_cons (se_tup (sa_cons (se_tup (sa_cons se_str (sa_cons se_int sa_nil))) (sa_cons (se_tup (sa_cons se_str (sa_cons (se_v 2) sa_nil))) sa_nil))) (sa_cons (se_tup (sa_cons (se_tup (sa_cons se_str (sa_cons (se_v 2) sa_nil))) (sa_cons (se_tup (sa_cons se_str (sa_cons (se_v 2) sa_nil))) sa_nil))) sa_nil)))) sa_nil))))
    (sb_one (ss_ret (se_tup (sa_cons (se_v 1) (sa_cons (se_v 3) (sa_cons (se_call (has__law_one F) hr (by first | decide | omega) air rfl (sa_cons (se_v 0) (sa_cons (se_lst (sa_cons (se_tup (sa_cons se_str (sa_cons se_str sa_nil))) (sa_cons (se_tup (sa_cons se_str sa_nil)) (sa_cons (se_tup (sa_cons se_str (sa_cons se_str (sa_cons se_str sa_nil)))) sa_nil)))) sa_nil))) sa_nil)))))))))
end K84
end
section
set_option Elab.async false
set_option linter.all false
set_option maxRecDepth 100000
set_option maxHeartbeats 4000000
/-! what the defs do, 4 -/
namespace K84
open PySem PySem.Spec PyProof.Rows L2 DL
/-! _law_states -/
noncomputable def b__law_states : DEnv → Store → R Fl :=
  (evSeq (evAsg (evLst (evCons (evTup evNil) evNil)) (tgN 1))
    (evSeq (evFor (itSeq (evBin ixD (evVar 0) (evC (.int 0)))) (tgN 2) (evSeq (evAsg (evNew evNil) (tgN 3))
    (evSeq (evFor (itSeq (evVar 1)) (tgN 4) (evDrop (evMeth mExtend (evVar 3) (evCons (evMk mkI (evComp [5] (itOf itmR1 (evCons (evBin ixD (evVar 2) (evC (.int 1))) evNil)) (tgN 5) evYes (evBin oAdd (evVar 4) (evTup (evCons (evVar 5) evNil))))) evNil))))
    (evAsg (evVar 3) (tgN 1)))))
    (evRet (evVar 1))))
theorem sc__law_states : FnScope ["ground", "found", "cell", "longer", "state", "value"] ["ground"] (defScope (top 72)) := ⟨rfl, rfl, rfl, by decide +kernel, rfl, by decide +kernel, by decide +kernel⟩
noncomputable def c__law_states : List D → Store → R D := fnR .fz 1 6 b__law_states
theorem has__law_states {P : Program} {w : World} {K : PySem.W.Frag} {mg : Str → Option Value} {base : Heap} (F : Fx P w K mg base) : Has P w K mg base 1 "_law_states" c__law_states := by
  obtain ⟨f, fd, Df, hm⟩ := F.d__law_states
  refine has_of .fz (N := ["ground", "found", "cell", "longer", "state", "value"]) (ps := ["ground"]) Df hm sc__law_states rfl (fun _ _ _ _ _ _ us hl => match us, hl with | [_], _ => rfl) fun cdv A outer s H E Y hr air => ?_
  have nd : (["ground", "found", "cell", "longer", "state", "value"] : List Str).Nodup := sc__law_states.nd
  have hu := hr.units
  have hu65 := room65 hr
  exact (sb_cons (ss_set (i := 1) nd rfl (by first | exact Or.inl rfl | exact Or.inr rfl) (Or.inl rfl) (se_lst (sa_cons (se_tup sa_nil) sa_nil)))
    (sb_cons (ss_for (passes_of rfl) rfl (si_seq (se_ix (se_v 0) se_int (fun _ _ => rfl))) (sg_n 2 nd) (sb_cons (ss_set (i := 3) nd rfl (by first | exact Or.inl rfl | exact Or.inr rfl) (Or.inl rfl) (se_new sa_nil))
    (sb_cons (ss_for (passes_of rfl) rfl (si_seq (se_v 1)) (sg_n 4 nd) (sb_one (ss_expr (se_bmL PySem.F.slot_list_extend ty_extend mt_extendD (se_v 3) (sa_cons (se_lc mkI_ok rfl nd (own := [("value", 5)]) (blkOk_by (by kernel_rfl)) (by decide) (si_range1 F.f_range (sa_cons (se_ix (se_v 2) se_int (fun _ _ => rfl)) sa_nil)) (fun _ _ _ _ _ => (sg_n 5 nd)) (fun _ _ _ _ _ => sc_nil) (fun _ _ _ _ _ => (se_bin op_addD (se_v 4) (se_tup (sa_cons (se_v 5) sa_nil))))) sa_nil)))))
    (sb_one (ss_set (i := 1) nd rfl (by first | exact Or.inl rfl | exact Or.inr rfl) (Or.inl rfl) (se_v 3))))))
    (sb_one (ss_ret (se_v 1)))))
/-! _law_place -/
noncomputable def b__law_place : DEnv → Store → R Fl :=
  (evRet (evMeth mIndex (evMk mkI (evComp [2] (itSeq (evVar 0)) (tgN 2) evYes (evBin ixD (evVar 2) (evC (.int 0))))) (evCons (evVar 1) evNil)))
theorem sc__law_place : FnScope ["pairs", "name", "pair"] ["pairs", "name"] (defScope (top 73)) := ⟨rfl, rfl, rfl, by decide +kernel, rfl, by decide +kernel, by decide +kernel⟩
noncomputable def c__law_place : List D → Store → R D := fnR .pl 2 3 b__law_place
theorem has__law_place {P : Program} {w : World} {K : PySem.W.Frag} {mg : Str → Option Value} {base : Heap} (F : Fx P w K mg base) : Has P w K mg base 1 "_law_place" c__law_place := by
  obtain ⟨f, fd, Df, hm⟩ := F.d__law_place
  refine has_of .pl (N := ["pairs", "name", "pair"]) (ps := ["pairs", "name"]) Df hm sc__law_place rfl (fun _ _ _ _ _ _ us hl => match us, hl with | [_, _], _ => rfl) fun cdv A outer s H E Y hr air => ?_
  have nd : (["pairs", "name", "pair"] : List Str).Nodup := sc__law_place.nd
  have hu := hr.units
  have hu65 := room65 hr
  exact (sb_one (ss_ret (se_bmL PySem.F.slot_list_index ty_index (mt_indexDD hu65) (se_lc mkI_ok rfl nd (own := [("pair", 2)]) (blkOk_by (by kernel_rfl)) (by decide) (si_seq (se_v 0)) (fun _ _ _ _ _ => (sg_n 2 nd)) (fun _ _ _ _ _ => sc_nil) (fun _ _ _ _ _ => (se_ix (se_v 2) se_int (fun _ _ => rfl)))) (sa_cons (se_v 1) sa_nil))))
/-! _law_number -/
noncomputable def b__law_number (rec : List D → Store → R D) : DEnv → Store → R Fl :=
  (evSeq (evAsg (evBin ixD (evVar 2) (evC (.int 0))) (tgN 3))
    (evSeq (evIfS (evTest (evBin oEq (evVar 3) (evC (.str "num")))) (evRet (evBin ixD (evVar 2) (evC (.int 1)))) evNext)
    (evSeq (evIfS (evTest (evBin oEq (evVar 3) (evC (.str "cell")))) (evRet (evBin ixD (evVar 1) (evCall c__law_place (evCons (evBin ixD (evVar 0) (evC (.int 0))) (evCons (evBin ixD (evVar 2) (evC (.int 1))) evNil))))) evNext)
    (evSeq (evPar2 4 5 (evCons (evCall rec (evCons (evVar 0) (evCons (evVar 1) (evCons (evBin ixD (evVar 2) (evC (.int 1))) evNil)))) (evCons (evCall rec (evCons (evVar 0) (evCons (evVar 1) (evCons (evBin ixD (evVar 2) (evC (.int 2))) evNil)))) evNil)))
    (evSeq (evIfS (evTest (evBin oEq (evVar 3) (evC (.str "mul")))) (evRet (evBin oMul (evVar 4) (evVar 5))) evNext)
    (evRet (evIte (evTest (evBin oEq (evVar 3) (evC (.str "add")))) (evBin oAdd (evVar 4) (evVar 5)) (evBin oSub (evVar 4) (evVar 5)))))))))
theorem sc__law_number : FnScope ["ground", "state", "thing", "word", "one", "two"] ["ground", "state", "thing"] (defScope (top 74)) := ⟨rfl, rfl, rfl, by decide +kernel, rfl, by decide +kernel, by decide +kernel⟩
noncomputable def c__law_number : Nat → List D → Store → R D
  | 0 => fun _ _ => .bad
  | n + 1 => fnR .pl 3 6 (b__law_number (c__law_number n))
theorem has__law_number {P : Program} {w : World} {K : PySem.W.Frag} {mg : Str → Option Value} {base : Heap} (F : Fx P w K mg base) : ∀ n : Nat, Has P w K mg base (1 + n) "_law_number" (c__law_number n)
  | 0 => by
    obtain ⟨f, fd, Df, hm⟩ := F.d__law_number
    exact has_never (ps := ["ground", "state", "thing"]) Df hm (fun _ _ _ _ _ _ us hl => match us, hl with | [_, _, _], _ => rfl)
  | n + 1 => by
    have ih := has__law_number F n
    obtain ⟨f, fd, Df, hm⟩ := F.d__law_number
    refine has_of (k := 1 + n) .pl (N := ["ground", "state", "thing", "word", "one", "two"]) (ps := ["ground", "state", "thing"]) Df hm sc__law_number rfl (fun _ _ _ _ _ _ us hl => match us, hl with | [_, _, _], _ => rfl) fun cdv A outer s H E Y hr air => ?_
    have nd : (["ground", "state", "thing", "word", "one", "two"] : List Str).Nodup := sc__law_number.nd
    have hu := hr.units
    have hu65 := room65 hr
    exact (sb_cons (ss_set (i := 3) nd rfl (by first | exact Or.inl rfl | exact Or.inr rfl) (Or.inl rfl) (se_ix (se_v 2) se_int (fun _ _ => rfl)))
    (sb_cons (ss_if (st_cmp (op_eqDD hu) (se_v 3) se_str) (sb_one (ss_ret (se_ix (se_v 2) se_int (fun _ _ => rfl)))) sb_nil)
    (sb_cons (ss_if (st_cmp (op_eqDD hu) (se_v 3) se_str) (sb_one (ss_ret (se_ix (se_v 1) (se_call (has__law_place F) hr (by first | decide | omega) air rfl (sa_cons (se_ix (se_v 0) se_int (fun _ _ => rfl)) (sa_cons (se_ix (se_v 2) se_int (fun _ _ => rfl)) sa_nil))) (fun _ _ => rfl)))) sb_nil)
    (sb_cons (ss_par2 (i := 4) (j := 5) rfl nd rfl rfl (by decide) rfl rfl (sa_cons (se_call ih hr (by first | exact Nat.le_refl _ | omega) air rfl (sa_cons (se_v 0) (sa_cons (se_v 1) (sa_cons (se_ix (se_v 2) se_int (fun _ _ => rfl)) sa_nil)))) (sa_cons (se_call ih hr (by first | exact Nat.le_refl _ | omega) air rfl (sa_cons (se_v 0) (sa_cons (se_v 1) (sa_cons (se_ix (se_v 2) se_int (fun _ _ => rfl)) sa_nil)))) sa_nil)))
    (sb_cons (ss_if (st_cmp (op_eqDD hu) (se_v 3) se_str) (sb_one (ss_ret (se_bin op_mulD (se_v 4) (se_v 5)))) sb_nil)
    (sb_one (ss_ret (se_ite (st_cmp (op_eqDD hu) (se_v 3) se_str) (se_bin op_addD (se_v 4) (se_v 5)) (se_bin op_subD (se_v 4) (se_v 5))))))))))
/-! _law_holds -/
noncomputable def b__law_holds (rec : List D → Store → R D) : DEnv → Store → R Fl :=
  (evSeq (evAsg (evBin ixD (evVar 2) (evC (.int 0))) (tgN 3))
    (evSeq (evIfS (evTest (evBin (memD false) (evVar 3) (evLst (evCons (evC (.str "eq")) (evCons (evC (.str "less")) evNil))))) (evSeq (evPar2 4 5 (evCons (evCall (c__law_number 8) (evCons (evVar 0) (evCons (evVar 1) (evCons (evBin ixD (evVar 2) (evC (.int 1))) evNil)))) (evCons (evCall (c__law_number 8) (evCons (evVar 0) (evCons (evVar 1) (evCons (evBin ixD (evVar 2) (evC (.int 2))) evNil)))) evNil)))
    (evRet (evIte (evTest (evBin oEq (evVar 3) (evC (.str "eq")))) (evBin oEq (evVar 4) (evVar 5)) (evBin oLt (evVar 4) (evVar 5))))) evNext)
    (evSeq (evIfS (evTest (evBin oEq (evVar 3) (evC (.str "not")))) (evRet (evNot (evCall rec (evCons (evVar 0) (evCons (evVar 1) (evCons (evBin ixD (evVar 2) (evC (.int 1))) evNil)))))) evNext)
    (evSeq (evPar2 4 5 (evCons (evCall rec (evCons (evVar 0) (evCons (evVar 1) (evCons (evBin ixD (evVar 2) (evC (.int 1))) evNil)))) (evCons (evCall rec (evCons (evVar 0) (evCons (evVar 1) (evCons (evBin ixD (evVar 2) (evC (.int 2))) evNil)))) evNil)))
    (evRet (evIte (evTest (evBin oEq (evVar 3) (evC (.str "and")))) (evAnd (evVar 4) (evVar 5)) (evOr (evVar 4) (evVar 5))))))))
theorem sc__law_holds : FnScope ["ground", "state", "thing", "word", "one", "two"] ["ground", "state", "thing"] (defScope (top 75)) := ⟨rfl, rfl, rfl, by decide +kernel, rfl, by decide +kernel, by decide +kernel⟩
noncomputable def c__law_holds : Nat → List D → Store → R D
  | 0 => fun _ _ => .bad
  | n + 1 => fnR .pl 3 6 (b__law_holds (c__law_holds n))
theorem has__law_holds {P : Program} {w : World} {K : PySem.W.Frag} {mg : Str → Option Value} {base : Heap} (F : Fx P w K mg base) : ∀ n : Nat, Has P w K mg base (9 + n) "_law_holds" (c__law_holds n)
  | 0 => by
    obtain ⟨f, fd, Df, hm⟩ := F.d__law_holds
    exact has_never (ps := ["ground", "state", "thing"]) Df hm (fun _ _ _ _ _ _ us hl => match us, hl with | [_, _, _], _ => rfl)
  | n + 1 => by
    have ih := has__law_holds F n
    obtain ⟨f, fd, Df, hm⟩ := F.d__law_holds
    refine has_of (k := 9 + n) .pl (N := ["ground", "state", "thing", "word", "one", "two"]) (ps := ["ground", "state", "thing"]) Df hm sc__law_holds rfl (fun _ _ _ _ _ _ us hl => match us, hl with | [_, _, _], _ => rfl) fun cdv A outer s H E Y hr air => ?_
    have nd : (["ground", "state", "thing", "word", "one", "two"] : List Str).Nodup := sc__law_holds.nd
    have hu := hr.units
    have hu65 := room65 hr
    exact (sb_cons (ss_set (i := 3) nd rfl (by first | exact Or.inl rfl | exact Or.inr rfl) (Or.inl rfl) (se_ix (se_v 2) se_int (fun _ _ => rfl)))
    (sb_cons (ss_if (st_cmp op_inDD (se_v 3) (se_lst (sa_cons se_str (sa_cons se_str sa_nil)))) (sb_cons (ss_par2 (i := 4) (j := 5) rfl nd rfl rfl (by decide) rfl rfl (sa_cons (se_call (has__law_number F 8) hr (by first | decide | omega) air rfl (sa_cons (se_v 0) (sa_cons (se_v 1) (sa_cons (se_ix (se_v 2) se_int (fun _ _ => rfl)) sa_nil)))) (sa_cons (se_call (has__law_number F 8) hr (by first | decide | omega) air rfl (sa_cons (se_v 0) (sa_cons (se_v 1) (sa_cons (se_ix (se_v 2) se_int (fun _ _ => rfl)) sa_nil)))) sa_nil)))
    (sb_one (ss_ret (se_ite (st_cmp (op_eqDD hu) (se_v 3) se_str) (se_cmp (op_eqDD hu) (se_v 4) (se_v 5)) (se_cmp op_ltD (se_v 4) (se_v 5)))))) sb_nil)
    (sb_cons (ss_if (st_cmp (op_eqDD hu) (se_v 3) se_str) (sb_one (ss_ret (se_not (se_call ih hr (by first | exact Nat.le_refl _ | omega) air rfl (sa_cons (se_v 0) (sa_cons (se_v 1) (sa_cons (se_ix (se_v 2) se_int (fun _ _ => rfl)) sa_nil))))))) sb_nil)
    (sb_cons (ss_par2 (i := 4) (j := 5) rfl nd rfl rfl (by decide) rfl rfl (sa_cons (se_call ih hr (by first | exact Nat.le_refl _ | omega) air rfl (sa_cons (se_v 0) (sa_cons (se_v 1) (sa_cons (se_ix (se_v 2) se_int (fun _ _ => rfl)) sa_nil)))) (sa_cons (se_call ih hr (by first | exact Nat.le_refl _ | omega) air rfl (sa_cons (se_v 0) (sa_cons (se_v 1) (sa_cons (se_ix (se_v 2) se_int (fun _ _ => rfl)) sa_nil)))) sa_nil)))
    (sb_one (ss_ret (se_ite (st_cmp (op_eqDD hu) (se_v 3) se_str) (se_and (se_v 4) (se_one (se_v 5))) (se_or (se_v 4) (se_one (se_v 5))))))))))
/-! _law_prices_of -/
noncomputable def b__law_prices_of : DEnv → Store → R Fl :=
  (evRet (evCallO bTuple (evCons (evMk mkI (evComp [1] (itSeq (evBin ixD (evVar 0) (evC (.int 1)))) (tgN 1) evYes (evBin ixD (evVar 1) (evC (.int 1))))) evNil)))
theorem sc__law_prices_of : FnScope ["ground", "kind"] ["ground"] (defScope (top 76)) := ⟨rfl, rfl, rfl, by decide +kernel, rfl, by decide +kernel, by decide +kernel⟩
noncomputable def c__law_prices_of : List D → Store → R D := fnR .pl 1 2 b__law_prices_of
theorem has__law_prices_of {P : Program} {w : World} {K : PySem.W.Frag} {mg : Str → Option Value} {base : Heap} (F : Fx P w K mg base) : Has P w K mg base 1 "_law_prices_of" c__law_prices_of := by
  obtain ⟨f, fd, Df, hm⟩ := F.d__law_prices_of
  refine has_of .pl (N := ["ground", "kind"]) (ps := ["ground"]) Df hm sc__law_prices_of rfl (fun _ _ _ _ _ _ us hl => match us, hl with | [_], _ => rfl) fun cdv A outer s H E Y hr air => ?_
  have nd : (["ground", "kind"] : List Str).Nodup := sc__law_prices_of.nd
  have hu := hr.units
  have hu65 := room65 hr
  exact (sb_one (ss_ret (se_callTy call_tupleD F.f_tuple (sa_cons (se_lc mkI_ok rfl nd (own := [("kind", 1)]) (blkOk_by (by kernel_rfl)) (by decide) (si_seq (se_ix (se_v 0) se_int (fun _ _ => rfl))) (fun _ _ _ _ _ => (sg_n 1 nd)) (fun _ _ _ _ _ => sc_nil) (fun _ _ _ _ _ => (se_ix (se_v 1) se_int (fun _ _ => rfl)))) sa_nil))))
/-! _law_value -/
noncomputable def b__law_value (rec : List D → Store → R D) : DEnv → Store → R Fl :=
  (evSeq (evAsg (evCall c__law_take (evCons (evVar 0) (evCons (evC (.int 6)) evNil))) (tgN 3))
    (evSeq (evIfS (evOrT (evTest (evBin oLt (evVar 3) (evC (.int 2)))) (evTest (evBin oEq (evBin ixD (evVar 1) (evC (.int 0))) (evTup evNil)))) (evRet (evTup (evCons (evC (.str "num")) (evCons (evCall c__law_one (evCons (evVar 0) (evCons (evLst (evCons (evC (.int 0)) (evCons (evC (.int 1)) (evCons (evC (.int 2)) (evCons (evCall c__law_take (evCons (evVar 0) (evCons (evC (.int 100)) evNil))) evNil))))) evNil))) evNil)))) evNext)
    (evSeq (evIfS (evOrT (evTest (evBin oLt (evVar 3) (evC (.int 4)))) (evTest (evBin oEq (evVar 2) (evC (.int 0))))) (evRet (evTup (evCons (evC (.str "cell")) (evCons (evBin ixD (evCall c__law_one (evCons (evVar 0) (evCons (evBin ixD (evVar 1) (evC (.int 0))) evNil))) (evC (.int 0))) evNil)))) evNext)
    (evSeq (evAsg (evCall rec (evCons (evVar 0) (evCons (evVar 1) (evCons (evBin oSub (evVar 2) (evC (.int 1))) evNil)))) (tgN 4))
    (evRet (evTup (evCons (evCall c__law_one (evCons (evVar 0) (evCons (evLst (evCons (evC (.str "add")) (evCons (evC (.str "sub")) (evCons (evC (.str "mul")) evNil)))) evNil))) (evCons (evVar 4) (evCons (evCall rec (evCons (evVar 0) (evCons (evVar 1) (evCons (evBin oSub (evVar 2) (evC (.int 1))) evNil)))) evNil)))))))))
theorem sc__law_value : FnScope ["source", "ground", "deep", "way", "one"] ["source", "ground", "deep"] (defScope (top 77)) := ⟨rfl, rfl, rfl, by decide +kernel, rfl, by decide +kernel, by decide +kernel⟩
noncomputable def c__law_value : Nat → List D → Store → R D
  | 0 => fun _ _ => .bad
  | n + 1 => fnR .pl 3 5 (b__law_value (c__law_value n))
theorem has__law_value {P : Program} {w : World} {K : PySem.W.Frag} {mg : Str → Option Value} {base : Heap} (F : Fx P w K mg base) : ∀ n : Nat, Has P w K mg base (2 + n) "_law_value" (c__law_value n)
  | 0 => by
    obtain ⟨f, fd, Df, hm⟩ := F.d__law_value
    exact has_never (ps := ["source", "ground", "deep"]) Df hm (fun _ _ _ _ _ _ us hl => match us, hl with | [_, _, _], _ => rfl)
  | n + 1 => by
    have ih := has__law_value F n
    obtain ⟨f, fd, Df, hm⟩ := F.d__law_value
    refine has_of (k := 2 + n) .pl (N := ["source", "ground", "deep", "way", "one"]) (ps := ["source", "ground", "deep"]) Df hm sc__law_value rfl (fun _ _ _ _ _ _ us hl => match us, hl with | [_, _, _], _ => rfl) fun cdv A outer s H E Y hr air => ?_
    have nd : (["source", "ground", "deep", "way", "one"] : List Str).Nodup := sc__law_value.nd
    have hu := hr.units
    have hu65 := room65 hr
    exact (sb_cons (ss_set (i := 3) nd rfl (by first | exact Or.inl rfl | exact Or.inr rfl) (Or.inl rfl) (se_call (has__law_take F) hr (by first | decide | omega) air rfl (sa_cons (se_v 0) (sa_cons se_int sa_nil))))
    (sb_cons (ss_if (SW.st (sw_or (st_cmp op_ltD (se_v 3) se_int) (sw_or1 (st_cmp (op_eqDD hu) (se_ix (se_v 1) se_int (fun _ _ => rfl)) (se_tup sa_nil))))) (sb_one (ss_ret (se_tup (sa_cons se_str (sa_cons (se_call (has__law_one F) hr (by first | decide | omega) air rfl (sa_cons (se_v 0) (sa_cons (se_lst (sa_cons se_int (sa_cons se_int (sa_cons se_int (sa_cons (se_call (has__law_take F) hr (by first | decide | omega) air rfl (sa_cons (se_v 0) (sa_cons se_int sa_nil))) sa_nil))))) sa_nil))) sa_nil))))) sb_nil)
    (sb_cons (ss_if (SW.st (sw_or (st_cmp op_ltD (se_v 3) se_int) (sw_or1 (st_cmp (op_eqDD hu) (se_v 2) se_int)))) (sb_one (ss_ret (se_tup (sa_cons se_str (sa_cons (se_ix (se_call (has__law_one F) hr (by first | decide | omega) air rfl (sa_cons (se_v 0) (sa_cons (se_ix (se_v 1) se_int (fun _ _ => rfl)) sa_nil))) se_int (fun _ _ => rfl)) sa_nil))))) sb_nil)
    (sb_cons (ss_set (i := 4) nd rfl (by first | exact Or.inl rfl | exact Or.inr rfl) (Or.inl rfl) (se_call ih hr (by first | exact Nat.le_refl _ | omega) air rfl (sa_cons (se_v 0) (sa_cons (se_v 1) (sa_cons (se_bin op_subD (se_v 2) se_int) sa_nil)))))
    (sb_one (ss_ret (se_tup (sa_cons (se_call (has__law_one F) hr (by first | decide | omega) air rfl (sa_cons (se_v 0) (sa_cons (se_lst (sa_cons se_str (sa_cons se_str (sa_cons se_str sa_nil)))) sa_nil))) (sa_cons (se_v 4) (sa_cons (se_call ih hr (by first | exact Nat.le_refl _ | omega) air rfl (sa_cons (se_v 0) (sa_cons (se_v 1) (sa_cons (se_bin op_subD (se_v 2) se_int) sa_nil)))) sa_nil))))))))))
/-! _law_test -/
noncomputable def b__law_test (rec : List D → Store → R D) : DEnv → Store → R Fl :=
  (evSeq (evAsg (evCall c__law_take (evCons (evVar 0) (evCons (evC (.int 6)) evNil))) (tgN 3))
    (evSeq (evIfS (evOrT (evTest (evBin oLt (evVar 3) (evC (.int 4)))) (evTest (evBin oEq (evVar 2) (evC (.int 0))))) (evSeq (evAsg (evCall (c__law_value 4) (evCons (evVar 0) (evCons (evVar 1) (evCons (evC (.int 1)) evNil)))) (tgN 4))
    (evRet (evTup (evCons (evCall c__law_one (evCons (evVar 0) (evCons (evLst (evCons (evC (.str "eq")) (evCons (evC (.str "less")) evNil))) evNil))) (evCons (evVar 4) (evCons (evCall (c__law_value 4) (evCons (evVar 0) (evCons (evVar 1) (evCons (evC (.int 1)) evNil)))) evNil)))))) evNext)
    (evSeq (evIfS (evTest (evBin oEq (evVar 3) (evC (.int 4)))) (evRet (evTup (evCons (evC (.str "not")) (evCons (evCall rec (evCons (evVar 0) (evCons (evVar 1) (evCons (evBin oSub (evVar 2) (evC (.int 1))) evNil)))) evNil)))) evNext)
    (evSeq (evAsg (evCall rec (evCons (evVar 0) (evCons (evVar 1) (evCons (evBin oSub (evVar 2) (evC (.int 1))) evNil)))) (tgN 4))
    (evRet (evTup (evCons (evCall c__law_one (evCons (evVar 0) (evCons (evLst (evCons (evC (.str "and")) (evCons (evC (.str "or")) evNil))) evNil))) (evCons (evVar 4) (evCons (evCall rec (evCons (evVar 0) (evCons (evVar 1) (evCons (evBin oSub (evVar 2) (evC (.int 1))) evNil)))) evNil)))))))))
theorem sc__law_test : FnScope ["source", "ground", "deep", "way", "one"] ["source", "ground", "deep"] (defScope (top 78)) := ⟨rfl, rfl, rfl, by decide +kernel, rfl, by decide +kernel, by decide +kernel⟩
noncomputable def c__law_test : Nat → List D → Store → R D
  | 0 => fun _ _ => .bad
  | n + 1 => fnR .pl 3 5 (b__law_test (c__law_test n))
theorem has__law_test {P : Program} {w : World} {K : PySem.W.Frag} {mg : Str → Option Value} {base : Heap} (F : Fx P w K mg base) : ∀ n : Nat, Has P w K mg base (6 + n) "_law_test" (c__law_test n)
  | 0 => by
    obtain ⟨f, fd, Df, hm⟩ := F.d__law_test
    exact has_never (ps := ["source", "ground", "deep"]) Df hm (fun _ _ _ _ _ _ us hl => match us, hl with | [_, _, _], _ => rfl)
  | n + 1 => by
    have ih := has__law_test F n
    obtain ⟨f, fd, Df, hm⟩ := F.d__law_test
    refine has_of (k := 6 + n) .pl (N := ["source", "ground", "deep", "way", "one"]) (ps := ["source", "ground", "deep"]) Df hm sc__law_test rfl (fun _ _ _ _ _ _ us hl => match us, hl with | [_, _, _], _ => rfl) fun cdv A outer s H E Y hr air => ?_
    have nd : (["source", "ground", "deep", "way", "one"] : List Str).Nodup := sc__law_test.nd
    have hu := hr.units
    have hu65 := room65 hr
    exact (sb_cons (ss_set (i := 3) nd rfl (by first | exact Or.inl rfl | exact Or.inr rfl) (Or.inl rfl) (se_call (has__law_take F) hr (by first | decide | omega) air rfl (sa_cons (se_v 0) (sa_cons se_int sa_nil))))
    (sb_cons (ss_if (SW.st (sw_or (st_cmp op_ltD (se_v 3) se_int) (sw_or1 (st_cmp (op_eqDD hu) (se_v 2) se_int)))) (sb_cons (ss_set (i := 4) nd rfl (by first | exact Or.inl rfl | exact Or.inr rfl) (Or.inl rfl) (se_call (has__law_value F 4) hr (by first | decide | omega) air rfl (sa_cons (se_v 0) (sa_cons (se_v 1) (sa_cons se_int sa_nil)))))
    (sb_one (ss_ret (se_tup (sa_cons (se_call (has__law_one F) hr (by first | decide | omega) air rfl (sa_cons (se_v 0) (sa_cons (se_lst (sa_cons se_str (sa_cons se_str sa_nil))) sa_nil))) (sa_cons (se_v 4) (sa_cons (se_call (has__law_value F 4) hr (by first | decide | omega) air rfl (sa_cons (se_v 0) (sa_cons (se_v 1) (sa_cons se_int sa_nil)))) sa_nil))))))) sb_nil)
    (sb_cons (ss_if (st_cmp (op_eqDD hu) (se_v 3) se_int) (sb_one (ss_ret (se_tup (sa_cons se_str (sa_cons (se_call ih hr (by first | exact Nat.le_refl _ | omega) air rfl (sa_cons (se_v 0) (sa_cons (se_v 1) (sa_cons (se_bin op_subD (se_v 2) se_int) sa_nil)))) sa_nil))))) sb_nil)
    (sb_cons (ss_set (i := 4) nd rfl (by first | exact Or.inl rfl | exact Or.inr rfl) (Or.inl rfl) (se_call ih hr (by first | exact Nat.le_refl _ | omega) air rfl (sa_cons (se_v 0) (sa_cons (se_v 1) (sa_cons (se_bin op_subD (se_v 2) se_int) sa_nil)))))
    (sb_one (ss_ret (se_tup (sa_cons (se_call (has__law_one F) hr (by first | decide | omega) air rfl (sa_cons (se_v 0) (sa_cons (se_lst (sa_cons se_str (sa_cons se_str sa_nil))) sa_nil))) (sa_cons (se_v 4) (sa_cons (se_call ih hr (by first | exact Nat.le_refl _ | omega) air rfl (sa_cons (se_v 0) (sa_cons (se_v 1) (sa_cons (se_bin op_subD (se_v 2) se_int) sa_nil)))) sa_nil))))))))))
/-! _law_code_row -/
noncomputable def b__law_code_row : DEnv → Store → R Fl :=
  (evSeq (evPar2 3 4 (evCons (evCall c__law_take (evCons (evVar 0) (evCons (evC (.int 8)) evNil))) (evCons (evCall c__law_take (evCons (evVar 0) (evCons (evVar 2) evNil))) evNil)))
    (evSeq (evIfS (evAndT (evTest (evBin oLt (evVar 3) (evC (.int 2)))) (evTest (evBin oNe (evBin ixD (evVar 1) (evC (.int 0))) (evTup evNil)))) (evRet (evTup (evCons (evC (.str "set")) (evCons (evBin ixD (evCall c__law_one (evCons (evVar 0) (evCons (evBin ixD (evVar 1) (evC (.int 0))) evNil))) (evC (.int 0))) (evCons (evCall (c__law_value 4) (evCons (evVar 0) (evCons (evVar 1) (evCons (evC (.int 1)) evNil)))) evNil))))) evNext)
    (evSeq (evIfS (evTest (evBin oLt (evVar 3) (evC (.int 4)))) (evRet (evTup (evCons (evC (.str "deed")) (evCons (evBin ixD (evCall c__law_one (evCons (evVar 0) (evCons (evBin ixD (evVar 1) (evC (.int 1))) evNil))) (evC (.int 0))) (evCons (evBin oAdd (evC (.int 1)) (evCall c__law_take (evCons (evVar 0) (evCons (evC (.int 30)) evNil)))) evNil))))) evNext)
    (evSeq (evIfS (evTest (evBin oEq (evVar 3) (evC (.int 4)))) (evRet (evTup (evCons (evC (.str "branch")) (evCons (evCall (c__law_test 4) (evCons (evVar 0) (evCons (evVar 1) (evCons (evC (.int 1)) evNil)))) (evCons (evVar 4) evNil))))) evNext)
    (evSeq (evIfS (evAndT (evTest (evBin oEq (evVar 3) (evC (.int 5)))) (evTest (evBin oNe (evBin ixD (evVar 1) (evC (.int 0))) (evTup evNil)))) (evSeq (evAsg (evCall c__law_one (evCons (evVar 0) (evCons (evBin ixD (evVar 1) (evC (.int 0))) evNil))) (tgTup 2 (tgCons (tgN 5) (tgCons (tgN 6) tgNil))))
    (evRet (evTup (evCons (evC (.str "switch")) (evCons (evVar 5) (evCons (evCallO bTuple (evCons (evMk mkI (evComp [7] (itOf itmR1 (evCons (evVar 6) evNil)) (tgN 7) evYes (evCall c__law_take (evCons (evVar 0) (evCons (evVar 2) evNil))))) evNil)) evNil)))))) evNext)
    (evRet (evIte (evTest (evBin oEq (evVar 3) (evC (.int 6)))) (evTup (evCons (evC (.str "exit")) (evCons (evCall c__law_one (evCons (evVar 0) (evCons (evBin ixD (evVar 1) (evC (.int 2))) evNil))) evNil))) (evTup (evCons (evC (.str "jump")) (evCons (evVar 4) evNil))))))))))
theorem sc__law_code_row : FnScope ["source", "ground", "many", "way", "to", "name", "size", "value"] ["source", "ground", "many"] (defScope (top 79)) := ⟨rfl, rfl, rfl, by decide +kernel, rfl, by decide +kernel, by decide +kernel⟩
noncomputable def c__law_code_row : List D → Store → R D := fnR .pl 3 8 b__law_code_row
theorem has__law_code_row {P : Program} {w : World} {K : PySem.W.Frag} {mg : Str → Option Value} {base : Heap} (F : Fx P w K mg base) : Has P w K mg base 11 "_law_code_row" c__law_code_row := by
  obtain ⟨f, fd, Df, hm⟩ := F.d__law_code_row
  refine has_of .pl (N := ["source", "ground", "many", "way", "to", "name", "size", "value"]) (ps := ["source", "ground", "many"]) Df hm sc__law_code_row rfl (fun _ _ _ _ _ _ us hl => match us, hl with | [_, _, _], _ => rfl) fun cdv A outer s H E Y hr air => ?_
  have nd : (["source", "ground", "many", "way", "to", "name", "size", "value"] : List Str).Nodup := sc__law_code_row.nd
  have hu := hr.units
  have hu65 := room65 hr
  exact (sb_cons (ss_par2 (i := 3) (j := 4) rfl nd rfl rfl (by decide) rfl rfl (sa_cons (se_call (has__law_take F) hr (by first | decide | omega) air rfl (sa_cons (se_v 0) (sa_cons se_int sa_nil))) (sa_cons (se_call (has__law_take F) hr (by first | decide | omega) air rfl (sa_cons (se_v 0) (sa_cons (se_v 2) sa_nil))) sa_nil)))
    (sb_cons (ss_if (SW.st (sw_and (st_cmp op_ltD (se_v 3) se_int) (sw_and1 (st_cmp (op_neDD hu) (se_ix (se_v 1) se_int (fun _ _ => rfl)) (se_tup sa_nil))))) (sb_one (ss_ret (se_tup (sa_cons se_str (sa_cons (se_ix (se_call (has__law_one F) hr (by first | decide | omega) air rfl (sa_cons (se_v 0) (sa_cons (se_ix (se_v 1) se_int (fun _ _ => rfl)) sa_nil))) se_int (fun _ _ => rfl)) (sa_cons (se_call (has__law_value F 4) hr (by first | decide | omega) air rfl (sa_cons (se_v 0) (sa_cons (se_v 1) (sa_cons se_int sa_nil)))) sa_nil)))))) sb_nil)
    (sb_cons (ss_if (st_cmp op_ltD (se_v 3) se_int) (sb_one (ss_ret (se_tup (sa_cons se_str (sa_cons (se_ix (se_call (has__law_one F) hr (by first | decide | omega) air rfl (sa_cons (se_v 0) (sa_cons (se_ix (se_v 1) se_int (fun _ _ => rfl)) sa_nil))) se_int (fun _ _ => rfl)) (sa_cons (se_bin op_addD se_int (se_call (has__law_take F) hr (by first | decide | omega) air rfl (sa_cons (se_v 0) (sa_cons se_int sa_nil)))) sa_nil)))))) sb_nil)
    (sb_cons (ss_if (st_cmp (op_eqDD hu) (se_v 3) se_int) (sb_one (ss_ret (se_tup (sa_cons se_str (sa_cons (se_call (has__law_test F 4) hr (by first | decide | omega) air rfl (sa_cons (se_v 0) (sa_cons (se_v 1) (sa_cons se_int sa_nil)))) (sa_cons (se_v 4) sa_nil)))))) sb_nil)
    (sb_cons (ss_if (SW.st (sw_and (st_cmp (op_eqDD hu) (se_v 3) se_int) (sw_and1 (st_cmp (op_neDD hu) (se_ix (se_v 1) se_int (fun _ _ => rfl)) (se_tup sa_nil))))) (sb_cons (ss_asg (se_call (has__law_one F) hr (by first | decide | omega) air rfl (sa_cons (se_v 0) (sa_cons (se_ix (se_v 1) se_int (fun _ _ => rfl)) sa_nil))) (sg_tupR rfl (sgs_cons (sg_n 5 nd) (sgs_cons (sg_n 6 nd) sgs_nil))))
    (sb_one (ss_ret (se_tup (sa_cons se_str (sa_cons (se_v 5) (sa_cons (se_callTy call_tupleD F.f_tuple (sa_cons (se_lc mkI_ok rfl nd (own := [("value", 7)]) (blkOk_by (by kernel_rfl)) (by decide) (si_range1 F.f_range (sa_cons (se_v 6) sa_nil)) (fun _ _ _ _ _ => (sg_n 7 nd)) (fun _ _ _ _ _ => sc_nil) (fun _ _ _ _ _ => (se_call (has__law_take F) hr (by first | decide | omega) air_blk rfl (sa_cons (se_v 0) (sa_cons (se_v 2) sa_nil))))) sa_nil)) sa_nil))))))) sb_nil)
    (sb_one (ss_ret (se_ite (st_cmp (op_eqDD hu) (se_v 3) se_int) (se_tup (sa_cons se_str (sa_cons (se_call (has__law_one F) hr (by first | decide | omega) air rfl (sa_cons (se_v 0) (sa_cons (se_ix (se_v 1) se_int (fun _ _ => rfl)) sa_nil))) sa_nil))) (se_tup (sa_cons se_str (sa_cons (se_v 4) sa_nil)))))))))))
/-! _law_code -/
noncomputable def b__law_code : DEnv → Store → R Fl :=
  (evSeq (evAsg (evBin oAdd (evC (.int 2)) (evCall c__law_take (evCons (evVar 0) (evCons (evC (.int 8)) evNil)))) (tgN 2))
    (evSeq (evAsg (evMk mkI (evComp [4] (itOf itmR1 (evCons (evBin oSub (evVar 2) (evC (.int 1))) evNil)) (tgN 4) evYes (evCall c__law_code_row (evCons (evVar 0) (evCons (evVar 1) (evCons (evVar 2) evNil)))))) (tgN 3))
    (evRet (evCallO bTuple (evCons (evBin oAdd (evVar 3) (evLst (evCons (evCall c__law_one (evCons (evVar 0) (evCons (evLst (evCons (evTup (evCons (evC (.str "exit")) (evCons (evBin ixD (evBin ixD (evVar 1) (evC (.int 2))) (evC (.int 0))) evNil))) (evCons (evTup (evCons (evC (.str "jump")) (evCons (evCall c__law_take (evCons (evVar 0) (evCons (evVar 2) evNil))) evNil))) evNil))) evNil))) evNil))) evNil)))))
theorem sc__law_code : FnScope ["source", "ground", "many", "rows", "at"] ["source", "ground"] (defScope (top 80)) := ⟨rfl, rfl, rfl, by decide +kernel, rfl, by decide +kernel, by decide +kernel⟩
noncomputable def c__law_code : List D → Store → R D := fnR .pl 2 5 b__law_code
theorem has__law_code {P : Program} {w : World} {K : PySem.W.Frag} {mg : Str → Option Value} {base : Heap} (F : Fx P w K mg base) : Has P w K mg base 12 "_law_code" c__law_code := by
  obtain ⟨f, fd, Df, hm⟩ := F.d__law_code
  refine has_of .pl (N := ["source", "ground", "many", "rows", "at"]) (ps := ["source", "ground"]) Df hm sc__law_code rfl (fun _ _ _ _ _ _ us hl => match us, hl with | [_, _], _ => rfl) fun cdv A outer s H E Y hr air => ?_
  have nd : (["source", "ground", "many", "rows", "at"] : List Str).Nodup := sc__law_code.nd
  have hu := hr.units
  have hu65 := room65 hr
  exact (sb_cons (ss_set (i := 2) nd rfl (by first | exact Or.inl rfl | exact Or.inr rfl) (Or.inl rfl) (se_bin op_addD se_int (se_call (has__law_take F) hr (by first | decide | omega) air rfl (sa_cons (se_v 0) (sa_cons se_int sa_nil)))))
    (sb_cons (ss_lc (i := 3) mkI_ok rfl nd rfl rfl (own := [("at", 4)]) (blkOk_by (by kernel_rfl)) (by decide) (si_range1 F.f_range (sa_cons (se_bin op_subD (se_v 2) se_int) sa_nil)) (fun _ _ _ _ _ => (sg_n 4 nd)) (fun _ _ _ _ _ => sc_nil) (fun _ _ _ _ _ => (se_call (has__law_code_row F) hr (by first | decide | omega) air_blk rfl (sa_cons (se_v 0) (sa_cons (se_v 1) (sa_cons (se_v 2) sa_nil))))))
    (sb_one (ss_ret (se_callTy call_tupleD F.f_tuple (sa_cons (se_bin op_addD (se_v 3) (se_lst (sa_cons (se_call (has__law_one F) hr (by first | decide | omega) air rfl (sa_cons (se_v 0) (sa_cons (se_lst (sa_cons (se_tup (sa_cons se_str (sa_cons (se_ix (se_ix (se_v 1) se_int (fun _ _ => rfl)) se_int (fun _ _ => rfl)) sa_nil))) (sa_cons (se_tup (sa_cons se_str (sa_cons (se_call (has__law_take F) hr (by first | decide | omega) air rfl (sa_cons (se_v 0) (sa_cons (se_v 2) sa_nil))) sa_nil))) sa_nil))) sa_nil))) sa_nil))) sa_nil))))))
/-! _law_next -/
noncomputable def b__law_next : DEnv → Store → R Fl :=
  (evSeq (evIfS (evTest (evBin oEq (evBin ixD (evVar 1) (evC (.int 0))) (evC (.str "jump")))) (evRet (evBin ixD (evVar 1) (evC (.int 1)))) evNext)
    (evSeq (evIfS (evTest (evBin oEq (evBin ixD (evVar 1) (evC (.int 0))) (evC (.str "switch")))) (evRet (evBin ixD (evBin ixD (evVar 1) (evC (.int 2))) (evBin ixD (evVar 3) (evCall c__law_place (evCons (evBin ixD (evVar 0) (evC (.int 0))) (evCons (evBin ixD (evVar 1) (evC (.int 1))) evNil)))))) evNext)
    (evSeq (evIfS (evAndT (evTest (evBin oEq (evBin ixD (evVar 1) (evC (.int 0))) (evC (.str "branch")))) (evNotT (evTruth (evCall (c__law_holds 8) (evCons (evVar 0) (evCons (evVar 3) (evCons (evBin ixD (evVar 1) (evC (.int 1))) evNil))))))) (evRet (evBin ixD (evVar 1) (evC (.int 2)))) evNext)
    (evRet (evBin oAdd (evVar 2) (evC (.int 1)))))))
theorem sc__law_next : FnScope ["ground", "row", "at", "state"] ["ground", "row", "at", "state"] (defScope (top 81)) := ⟨rfl, rfl, rfl, by decide +kernel, rfl, by decide +kernel, by decide +kernel⟩
noncomputable def c__law_next : List D → Store → R D := fnR .pl 4 4 b__law_next
theorem has__law_next {P : Program} {w : World} {K : PySem.W.Frag} {mg : Str → Option Value} {base : Heap} (F : Fx P w K mg base) : Has P w K mg base 18 "_law_next" c__law_next := by
  obtain ⟨f, fd, Df, hm⟩ := F.d__law_next
  refine has_of .pl (N := ["ground", "row", "at", "state"]) (ps := ["ground", "row", "at", "state"]) Df hm sc__law_next rfl (fun _ _ _ _ _ _ us hl => match us, hl with | [_, _, _, _], _ => rfl) fun cdv A outer s H E Y hr air => ?_
  have nd : (["ground", "row", "at", "state"] : List Str).Nodup := sc__law_next.nd
  have hu := hr.units
  have hu65 := room65 hr
  exact (sb_cons (ss_if (st_cmp (op_eqDD hu) (se_ix (se_v 1) se_int (fun _ _ => rfl)) se_str) (sb_one (ss_ret (se_ix (se_v 1) se_int (fun _ _ => rfl)))) sb_nil)
    (sb_cons (ss_if (st_cmp (op_eqDD hu) (se_ix (se_v 1) se_int (fun _ _ => rfl)) se_str) (sb_one (ss_ret (se_ix (se_ix (se_v 1) se_int (fun _ _ => rfl)) (se_ix (se_v 3) (se_call (has__law_place F) hr (by first | decide | omega) air rfl (sa_cons (se_ix (se_v 0) se_int (fun _ _ => rfl)) (sa_cons (se_ix (se_v 1) se_int (fun _ _ => rfl)) sa_nil))) (fun _ _ => rfl)) (fun _ _ => rfl)))) sb_nil)
    (sb_cons (ss_if (SW.st (sw_and (st_cmp (op_eqDD hu) (se_ix (se_v 1) se_int (fun _ _ => rfl)) se_str) (sw_and1 (st_not (st_truth (se_call (has__law_holds F 8) hr (by first | decide | omega) air rfl (sa_cons (se_v 0) (sa_cons (se_v 3) (sa_cons (se_ix (se_v 1) se_int (fun _ _ => rfl)) sa_nil))))))))) (sb_one (ss_ret (se_ix (se_v 1) se_int (fun _ _ => rfl)))) sb_nil)
    (sb_one (ss_ret (se_bin op_addD (se_v 2) se_int))))))
/-! _law_code_run -/
noncomputable def b__law_code_run : DEnv → Store → R Fl :=
  (evSeq (evAsg (evTup (evCons (evC (.int 0)) (evCons (evMk mkN (evComp [7] (itSeq (evBin ixD (evVar 0) (evC (.int 1)))) (tgN 7) evYes (evC (.int 0)))) (evCons evNewD (evCons (evCall c__law_states (evCons (evVar 0) evNil)) evNil))))) (tgTup 4 (tgCons (tgN 3) (tgCons (tgN 4) (tgCons (tgN 5) (tgCons (tgN 6) tgNil))))))
    (evSeq (evFor (itOf itmR1 (evCons (evBin oAdd (evBin oMul (evCallO bLen (evCons (evVar 1) evNil)) (evCallO bLen (evCons (evVar 6) evNil))) (evC (.int 1))) evNil)) (tgN 8) (evSeq (evIfS (evTest (evBin (inDc false) (evTup (evCons (evVar 3) (evCons (evVar 2) evNil))) (evVar 5))) (evRet (evTup (evCons (evC .non) (evCons (evCallO bLenD (evCons (evVar 5) evNil)) evNil)))) evNext)
    (evSeq (evAsg (evC (.bl true)) (tgSub setDc (evVar 5) (evTup (evCons (evVar 3) (evCons (evVar 2) evNil)))))
    (evSeq (evAsg (evBin ixD (evVar 1) (evVar 3)) (tgN 9))
    (evSeq (evIfS (evTest (evBin oEq (evBin ixD (evVar 9) (evC (.int 0))) (evC (.str "exit")))) (evRet (evTup (evCons (evTup (evCons (evCallO bTuple (evCons (evVar 4) evNil)) (evCons (evMeth mIndex (evVar 6) (evCons (evVar 2) evNil)) (evCons (evMethT tIndex (evBin ixD (evVar 0) (evC (.int 2))) (evCons (evBin ixD (evVar 9) (evC (.int 1))) evNil)) evNil)))) (evCons (evCallO bLenD (evCons (evVar 5) evNil)) evNil)))) evNext)
    (evSeq (evAsg (evCall c__law_next (evCons (evVar 0) (evCons (evVar 9) (evCons (evVar 3) (evCons (evVar 2) evNil))))) (tgN 3))
    (evSeq (evIfS (evTest (evBin oEq (evBin ixD (evVar 9) (evC (.int 0))) (evC (.str "deed")))) (evSeq (evAsg (evCall c__law_place (evCons (evBin ixD (evVar 0) (evC (.int 1))) (evCons (evBin ixD (evVar 9) (evC (.int 1))) evNil))) (tgN 7))
    (evAsg (evBin oAdd (evBin ixD (evVar 4) (evVar 7)) (evBin ixD (evVar 9) (evC (.int 2)))) (tgSub setL (evVar 4) (evVar 7)))) evNext)
    (evIfS (evTest (evBin oEq (evBin ixD (evVar 9) (evC (.int 0))) (evC (.str "set")))) (evSeq (evAsg (evCall c__law_place (evCons (evBin ixD (evVar 0) (evC (.int 0))) (evCons (evBin ixD (evVar 9) (evC (.int 1))) evNil))) (tgN 10))
    (evSeq (evAsg (evBin oMod (evCallO bInt (evCons (evCall (c__law_number 8) (evCons (evVar 0) (evCons (evVar 2) (evCons (evBin ixD (evVar 9) (evC (.int 2))) evNil)))) evNil)) (evBin ixD (evBin ixD (evBin ixD (evVar 0) (evC (.int 0))) (evVar 10)) (evC (.int 1)))) (tgN 11))
    (evAsg (evBin oAdd (evBin oAdd (evSl (evVar 2) evNoPart (evPart (evVar 10))) (evTup (evCons (evVar 11) evNil))) (evSl (evVar 2) (evPart (evBin oAdd (evVar 10) (evC (.int 1)))) evNoPart)) (tgN 2)))) evNext))))))))
    (evRet (evTup (evCons (evC .non) (evCons (evCallO bLenD (evCons (evVar 5) evNil)) evNil))))))
theorem sc__law_code_run : FnScope ["ground", "told", "state", "at", "count", "met", "states", "kind", "turn", "row", "place", "value"] ["ground", "told", "state"] (defScope (top 82)) := ⟨rfl, rfl, rfl, by decide +kernel, rfl, by decide +kernel, by decide +kernel⟩
noncomputable def c__law_code_run : List D → Store → R D := fnR .pl 3 12 b__law_code_run
theorem has__law_code_run {P : Program} {w : World} {K : PySem.W.Frag} {mg : Str → Option Value} {base : Heap} (F : Fx P w K mg base) : Has P w K mg base 19 "_law_code_run" c__law_code_run := by
  obtain ⟨f, fd, Df, hm⟩ := F.d__law_code_run
  refine has_of .pl (N := ["ground", "told", "state", "at", "count", "met", "states", "kind", "turn", "row", "place", "value"]) (ps := ["ground", "told", "state"]) Df hm sc__law_code_run rfl (fun _ _ _ _ _ _ us hl => match us, hl with | [_, _, _], _ => rfl) fun cdv A outer s H E Y hr air => ?_
  have nd : (["ground", "told", "state", "at", "count", "met", "states", "kind", "turn", "row", "place", "value"] : List Str).Nodup := sc__law_code_run.nd
  have hu := hr.units
  have hu65 := room65 hr
  exact (sb_cons (ss_asg (se_tup (sa_cons se_int (sa_cons (se_lc mkN_ok rfl nd (own := [("kind", 7)]) (blkOk_by (by kernel_rfl)) (by decide) (si_seq (se_ix (se_v 0) se_int (fun _ _ => rfl))) (fun _ _ _ _ _ => (sg_n 7 nd)) (fun _ _ _ _ _ => sc_nil) (fun _ _ _ _ _ => se_int)) (sa_cons se_newD (sa_cons (se_call (has__law_states F) hr (by first | decide | omega) air rfl (sa_cons (se_v 0) sa_nil)) sa_nil))))) (sg_tupR rfl (sgs_cons (sg_n 3 nd) (sgs_cons (sg_n 4 nd) (sgs_cons (sg_n 5 nd) (sgs_cons (sg_n 6 nd) sgs_nil))))))
    (sb_cons (ss_for (passes_of rfl) rfl (si_range1 F.f_range (sa_cons (se_bin op_addD (se_bin op_mulD (se_callB call_lenD F.f_len (sa_cons (se_v 1) sa_nil)) (se_callB call_lenD F.f_len (sa_cons (se_v 6) sa_nil))) se_int) sa_nil)) (sg_n 8 nd) (sb_cons (ss_if (st_cmp (op_inDc hu) (se_tup (sa_cons (se_v 3) (sa_cons (se_v 2) sa_nil))) (se_v 5)) (sb_one (ss_ret (se_tup (sa_cons se_non (sa_cons (se_callB call_lenDc F.f_len (sa_cons (se_v 5) sa_nil)) sa_nil))))) sb_nil)
    (sb_cons (ss_asg se_bl (sg_sub (set_dictD hu) (se_v 5) (se_tup (sa_cons (se_v 3) (sa_cons (se_v 2) sa_nil)))))
    (sb_cons (ss_set (i := 9) nd rfl (by first | exact Or.inl rfl | exact Or.inr rfl) (Or.inl rfl) (se_ix (se_v 1) (se_v 3) (fun _ _ => rfl)))
    (sb_cons (ss_if (st_cmp (op_eqDD hu) (se_ix (se_v 9) se_int (fun _ _ => rfl)) se_str) (sb_one (ss_ret (se_tup (sa_cons (se_tup (sa_cons (se_callTy call_tupleD F.f_tuple (sa_cons (se_v 4) sa_nil)) (sa_cons (se_bmL PySem.F.slot_list_index ty_index (mt_indexDD hu65) (se_v 6) (sa_cons (se_v 2) sa_nil)) (sa_cons (se_bmT PySem.F.slot_tuple_index ty_tindex mt_tupIndexD (se_ix (se_v 0) se_int (fun _ _ => rfl)) (sa_cons (se_ix (se_v 9) se_int (fun _ _ => rfl)) sa_nil)) sa_nil)))) (sa_cons (se_callB call_lenDc F.f_len (sa_cons (se_v 5) sa_nil)) sa_nil))))) sb_nil)
    (sb_cons (ss_set (i := 3) nd rfl (by first | exact Or.inl rfl | exact Or.inr rfl) (Or.inl rfl) (se_call (has__law_next F) hr (by first | decide | omega) air rfl (sa_cons (se_v 0) (sa_cons (se_v 9) (sa_cons (se_v 3) (sa_cons (se_v 2) sa_nil))))))
    (sb_cons (ss_if (st_cmp (op_eqDD hu) (se_ix (se_v 9) se_int (fun _ _ => rfl)) se_str) (sb_cons (ss_set (i := 7) nd rfl (by first | exact Or.inl rfl | exact Or.inr rfl) (Or.inl rfl) (se_call (has__law_place F) hr (by first | decide | omega) air rfl (sa_cons (se_ix (se_v 0) se_int (fun _ _ => rfl)) (sa_cons (se_ix (se_v 9) se_int (fun _ _ => rfl)) sa_nil))))
    (sb_one (ss_asg (se_bin op_addD (se_ix (se_v 4) (se_v 7) (fun _ _ => rfl)) (se_ix (se_v 9) se_int (fun _ _ => rfl))) (sg_sub set_listD (se_v 4) (se_v 7))))) sb_nil)
    (sb_one (ss_if (st_cmp (op_eqDD hu) (se_ix (se_v 9) se_int (fun _ _ => rfl)) se_str) (sb_cons (ss_set (i := 10) nd rfl (by first | exact Or.inl rfl | exact Or.inr rfl) (Or.inl rfl) (se_call (has__law_place F) hr (by first | decide | omega) air rfl (sa_cons (se_ix (se_v 0) se_int (fun _ _ => rfl)) (sa_cons (se_ix (se_v 9) se_int (fun _ _ => rfl)) sa_nil))))
    (sb_cons (ss_set (i := 11) nd rfl (by first | exact Or.inl rfl | exact Or.inr rfl) (Or.inl rfl) (se_bin op_modD (se_callTy call_intD F.f_int (sa_cons (se_call (has__law_number F 8) hr (by first | decide | omega) air rfl (sa_cons (se_v 0) (sa_cons (se_v 2) (sa_cons (se_ix (se_v 9) se_int (fun _ _ => rfl)) sa_nil)))) sa_nil)) (se_ix (se_ix (se_ix (se_v 0) se_int (fun _ _ => rfl)) (se_v 10) (fun _ _ => rfl)) se_int (fun _ _ => rfl))))
    (sb_one (ss_set (i := 2) nd rfl (by first | exact Or.inl rfl | exact Or.inr rfl) (Or.inl rfl) (se_bin op_addD (se_bin op_addD (se_slice (se_v 2) so_none (so_some (se_v 10))) (se_tup (sa_cons (se_v 11) sa_nil))) (se_slice (se_v 2) (so_some (se_bin op_addD (se_v 10) se_int)) so_none)))))) sb_nil)))))))))
    (sb_one (ss_ret (se_tup (sa_cons se_non (sa_cons (se_callB call_lenDc F.f_len (sa_cons (se_v 5) sa_nil)) sa_nil)))))))
/-! _law_refusal -/
noncomputable def b__law_refusal : DEnv → Store → R Fl :=
  (evSeq (evTry xtab 4 3 (evDrop (evCall c_run_code (evCons (evVar 0) (evCons (evVar 1) (evCons (evVar 2) evNil))))) (("BadCode", (evRet (evTup (evCons (evIte (evTruth (evIsE xtab "BadState" (evVar 3))) (evC (.str "other")) (evC (.str "code"))) (evCons (evWhat (evVar 3)) evNil))))) :: (("BadState", (evRet (evTup (evCons (evC (.str "state")) (evCons (evWhat (evVar 3)) evNil))))) :: (("Refused", (evRet (evTup (evCons (evC (.str "other")) (evCons (evWhat (evVar 3)) evNil))))) :: []))))
    (evRet (evTup (evCons (evC (.str "none")) (evCons (evC (.int 0)) evNil)))))
theorem sc__law_refusal : FnScope ["ground", "told", "state", "fault"] ["ground", "told", "state"] (defScope (top 83)) := ⟨rfl, rfl, rfl, by decide +kernel, rfl, by decide +kernel, by decide +kernel⟩
noncomputable def c__law_refusal : List D → Store → R D := fnR .pl 3 4 b__law_refusal
theorem has__law_refusal {P : Program} {w : World} {K : PySem.W.Frag} {mg : Str → Option Value} {base : Heap} (F : Fx P w K mg base) : Has P w K mg base 24 "_law_refusal" c__law_refusal := by
  obtain ⟨f, fd, Df, hm⟩ := F.d__law_refusal
  refine has_of .pl (N := ["ground", "told", "state", "fault"]) (ps := ["ground", "told", "state"]) Df hm sc__law_refusal rfl (fun _ _ _ _ _ _ us hl => match us, hl with | [_, _, _], _ => rfl) fun cdv A outer s H E Y hr air => ?_
  have nd : (["ground", "told", "state", "fault"] : List Str).Nodup := sc__law_refusal.nd
  have hu := hr.units
  have hu65 := room65 hr
  exact (sb_cons (ss_try 4 F.t_exc air rfl rfl nd rfl rfl rfl (fun pn xe Y air po => (sb_one (ss_expr (se_call (has_run_code F) hr (by first | decide | omega) air rfl (sa_cons (se_v 0) (sa_cons (se_v 1) (sa_cons (se_v 2) sa_nil)))))))
    (SHs.cons rfl (by decide) (F.t_exc.mg_at (by decide))
    (fun a oe pn Y hd => (sb_one (ss_ret (se_tup (sa_cons (se_ite (st_truth (se_isE F.t_exc hd F.f_isinstance (by decide) (se_v 3))) se_str se_str) (sa_cons (se_what F.t_exc hd (se_v 3)) sa_nil))))))
    (SHs.cons rfl (by decide) (F.t_exc.mg_at (by decide))
    (fun a oe pn Y hd => (sb_one (ss_ret (se_tup (sa_cons se_str (sa_cons (se_what F.t_exc hd (se_v 3)) sa_nil))))))
    (SHs.cons rfl (by decide) (F.t_exc.mg_at (by decide))
    (fun a oe pn Y hd => (sb_one (ss_ret (se_tup (sa_cons se_str (sa_cons (se_what F.t_exc hd (se_v 3)) sa_nil))))))
    SHs.nil))))
    (sb_one (ss_ret (se_tup (sa_cons se_str (sa_cons se_int sa_nil))))))
end K84
end
section
set_option Elab.async false
set_option linter.all false
set_option maxRecDepth 100000
set_option maxHeartbeats 4000000
/-! what the defs do, 5 -/
namespace K84
open PySem PySem.Spec PyProof.Rows L2 DL
/-! _law_odd_states -/
noncomputable def b__law_odd_states : DEnv → Store → R Fl :=
  (evSeq (evAsg (evMk mkI (evComp [2] (itSeq (evBin ixD (evVar 0) (evC (.int 0)))) (tgN 2) evYes (evBin ixD (evVar 2) (evC (.int 1))))) (tgN 1))
    (evSeq (evAsg (evNew (evCons (evBin oMul (evTup (evCons (evC (.int 0)) evNil)) (evBin oAdd (evCallO bLen (evCons (evVar 1) evNil)) (evC (.int 1)))) (evCons (evC .non) (evCons (evC (.str "state")) (evCons (evC (.int 0)) evNil))))) (tgN 3))
    (evSeq (evFor (itOf itmR1 (evCons (evCallO bLen (evCons (evVar 1) evNil)) evNil)) (tgN 4) (evDrop (evMeth mExtend (evVar 3) (evCons (evMk mkI (evComp [5] (itSeq (evLst (evCons (evBin ixD (evVar 1) (evVar 4)) (evCons (evUn dNeg (evC (.int 1))) (evCons (evC (.str "0")) evNil))))) (tgN 5) evYes (evBin oAdd (evBin oAdd (evBin oMul (evTup (evCons (evC (.int 0)) evNil)) (evVar 4)) (evTup (evCons (evVar 5) evNil))) (evBin oMul (evTup (evCons (evC (.int 0)) evNil)) (evBin oSub (evBin oSub (evCallO bLen (evCons (evVar 1) evNil)) (evVar 4)) (evC (.int 1))))))) evNil))))
    (evRet (evVar 3)))))
theorem sc__law_odd_states : FnScope ["ground", "sizes", "cell", "found", "k", "size"] ["ground"] (defScope (top 84)) := ⟨rfl, rfl, rfl, by decide +kernel, rfl, by decide +kernel, by decide +kernel⟩
noncomputable def c__law_odd_states : List D → Store → R D := fnR .fz 1 6 b__law_odd_states
theorem has__law_odd_states {P : Program} {w : World} {K : PySem.W.Frag} {mg : Str → Option Value} {base : Heap} (F : Fx P w K mg base) : Has P w K mg base 1 "_law_odd_states" c__law_odd_states := by
  obtain ⟨f, fd, Df, hm⟩ := F.d__law_odd_states
  refine has_of .fz (N := ["ground", "sizes", "cell", "found", "k", "size"]) (ps := ["ground"]) Df hm sc__law_odd_states rfl (fun _ _ _ _ _ _ us hl => match us, hl with | [_], _ => rfl) fun cdv A outer s H E Y hr air => ?_
  have nd : (["ground", "sizes", "cell", "found", "k", "size"] : List Str).Nodup := sc__law_odd_states.nd
  have hu := hr.units
  have hu65 := room65 hr
  exact (sb_cons (ss_set (i := 1) nd rfl (by first | exact Or.inl rfl | exact Or.inr rfl) (Or.inl rfl) (se_lc mkI_ok rfl nd (own := [("cell", 2)]) (blkOk_by (by kernel_rfl)) (by decide) (si_seq (se_ix (se_v 0) se_int (fun _ _ => rfl))) (fun _ _ _ _ _ => (sg_n 2 nd)) (fun _ _ _ _ _ => sc_nil) (fun _ _ _ _ _ => (se_ix (se_v 2) se_int (fun _ _ => rfl)))))
    (sb_cons (ss_set (i := 3) nd rfl (by first | exact Or.inl rfl | exact Or.inr rfl) (Or.inl rfl) (se_new (sa_cons (se_bin op_mulD (se_tup (sa_cons se_int sa_nil)) (se_bin op_addD (se_callB call_lenD F.f_len (sa_cons (se_v 1) sa_nil)) se_int)) (sa_cons se_non (sa_cons se_str (sa_cons se_int sa_nil))))))
    (sb_cons (ss_for (passes_of rfl) rfl (si_range1 F.f_range (sa_cons (se_callB call_lenD F.f_len (sa_cons (se_v 1) sa_nil)) sa_nil)) (sg_n 4 nd) (sb_one (ss_expr (se_bmL PySem.F.slot_list_extend ty_extend mt_extendD (se_v 3) (sa_cons (se_lc mkI_ok rfl nd (own := [("size", 5)]) (blkOk_by (by kernel_rfl)) (by decide) (si_seq (se_lst (sa_cons (se_ix (se_v 1) (se_v 4) (fun _ _ => rfl)) (sa_cons (se_neg se_int) (sa_cons se_str sa_nil))))) (fun _ _ _ _ _ => (sg_n 5 nd)) (fun _ _ _ _ _ => sc_nil) (fun _ _ _ _ _ => (se_bin op_addD (se_bin op_addD (se_bin op_mulD (se_tup (sa_cons se_int sa_nil)) (se_v 4)) (se_tup (sa_cons (se_v 5) sa_nil))) (se_bin op_mulD (se_tup (sa_cons se_int sa_nil)) (se_bin op_subD (se_bin op_subD (se_callB call_lenD F.f_len (sa_cons (se_v 1) sa_nil)) (se_v 4)) se_int))))) sa_nil)))))
    (sb_one (ss_ret (se_v 3))))))
/-! _law_long_code -/
noncomputable def b__law_long_code : DEnv → Store → R Fl :=
  (evSeq (evPar2 1 2 (evCons (evCall c__law_one (evCons (evVar 0) (evCons (evLst (evCons (evTup (evCons (evTup (evCons (evC (.str "a")) (evCons (evC (.int 8)) evNil))) (evCons (evTup (evCons (evC (.str "b")) (evCons (evC (.int 8)) evNil))) evNil))) (evCons (evTup (evCons (evTup (evCons (evC (.str "n1")) (evCons (evC (.int 8)) evNil))) (evCons (evTup (evCons (evC (.str "b")) (evCons (evC (.int 7)) evNil))) evNil))) evNil))) evNil))) (evCons (evBin oAdd (evC (.int 32)) (evCall c__law_take (evCons (evVar 0) (evCons (evC (.int 30)) evNil)))) evNil)))
    (evSeq (evAsg (evTup (evCons (evVar 1) (evCons (evCall c__law_one (evCons (evVar 0) (evCons (evLst (evCons (evTup (evCons (evTup (evCons (evC (.str "send")) (evCons (evC (.int 3)) evNil))) evNil)) (evCons (evTup (evCons (evTup (evCons (evC (.str "log")) (evCons (evC (.int 1)) evNil))) (evCons (evTup (evCons (evC (.str "flush")) (evCons (evC (.int 99)) evNil))) evNil))) evNil))) evNil))) (evCons (evTup (evCons (evC (.str "done")) (evCons (evC (.str "full")) evNil))) evNil)))) (tgN 3))
    (evSeq (evPar3 4 5 6 (evCons (evBin ixD (evBin ixD (evVar 1) (evC (.int 0))) (evC (.int 0))) (evCons (evBin ixD (evBin ixD (evVar 1) (evC (.int 1))) (evC (.int 0))) (evCons (evNew evNil) evNil))))
    (evSeq (evFor (itOf itmR1 (evCons (evVar 2) evNil)) (tgN 7) (evSeq (evAsg (evLst (evCons (evTup (evCons (evC (.str "deed")) (evCons (evBin ixD (evCall c__law_one (evCons (evVar 0) (evCons (evBin ixD (evVar 3) (evC (.int 1))) evNil))) (evC (.int 0))) (evCons (evBin oAdd (evC (.int 1)) (evCall c__law_take (evCons (evVar 0) (evCons (evC (.int 9)) evNil)))) evNil)))) (evCons (evTup (evCons (evC (.str "jump")) (evCons (evBin oAdd (evVar 7) (evC (.int 1))) evNil))) (evCons (evTup (evCons (evC (.str "set")) (evCons (evVar 4) (evCons (evTup (evCons (evC (.str "cell")) (evCons (evVar 4) evNil))) evNil)))) evNil)))) (tgN 8))
    (evDrop (evMeth mAppend (evVar 6) (evCons (evCall c__law_one (evCons (evVar 0) (evCons (evBin oAdd (evVar 8) (evLst (evCons (evTup (evCons (evC (.str "branch")) (evCons (evTup (evCons (evC (.str "less")) (evCons (evTup (evCons (evC (.str "cell")) (evCons (evVar 5) evNil))) (evCons (evTup (evCons (evC (.str "num")) (evCons (evC (.int 4)) evNil))) evNil)))) (evCons (evBin oAdd (evVar 7) (evC (.int 1))) evNil)))) evNil))) evNil))) evNil)))))
    (evSeq (evFor (itSeq (evVar 1)) (tgTup 2 (tgCons (tgN 9) (tgCons (tgN 10) tgNil))) (evSeq (evDrop (evMeth mAppend (evVar 6) (evCons (evTup (evCons (evC (.str "set")) (evCons (evVar 9) (evCons (evTup (evCons (evC (.str "add")) (evCons (evTup (evCons (evC (.str "cell")) (evCons (evVar 9) evNil))) (evCons (evTup (evCons (evC (.str "num")) (evCons (evC (.int 1)) evNil))) evNil)))) evNil)))) evNil)))
    (evDrop (evMeth mAppend (evVar 6) (evCons (evTup (evCons (evC (.str "branch")) (evCons (evTup (evCons (evC (.str "eq")) (evCons (evTup (evCons (evC (.str "cell")) (evCons (evVar 9) evNil))) (evCons (evTup (evCons (evC (.str "num")) (evCons (evC (.int 0)) evNil))) evNil)))) (evCons (evC (.int 0)) evNil)))) evNil)))))
    (evRet (evTup (evCons (evVar 3) (evCons (evCallO bTuple (evCons (evBin oAdd (evVar 6) (evLst (evCons (evTup (evCons (evC (.str "exit")) (evCons (evCall c__law_one (evCons (evVar 0) (evCons (evBin ixD (evVar 3) (evC (.int 2))) evNil))) evNil))) evNil))) evNil)) evNil)))))))))
theorem sc__law_long_code : FnScope ["source", "cells", "many", "ground", "one", "two", "rows", "at", "some", "name", "size"] ["source"] (defScope (top 85)) := ⟨rfl, rfl, rfl, by decide +kernel, rfl, by decide +kernel, by decide +kernel⟩
noncomputable def c__law_long_code : List D → Store → R D := fnR .pl 1 11 b__law_long_code
theorem has__law_long_code {P : Program} {w : World} {K : PySem.W.Frag} {mg : Str → Option Value} {base : Heap} (F : Fx P w K mg base) : Has P w K mg base 3 "_law_long_code" c__law_long_code := by
  obtain ⟨f, fd, Df, hm⟩ := F.d__law_long_code
  refine has_of .pl (N := ["source", "cells", "many", "ground", "one", "two", "rows", "at", "some", "name", "size"]) (ps := ["source"]) Df hm sc__law_long_code rfl (fun _ _ _ _ _ _ us hl => match us, hl with | [_], _ => rfl) fun cdv A outer s H E Y hr air => ?_
  have nd : (["source", "cells", "many", "ground", "one", "two", "rows", "at", "some", "name", "size"] : List Str).Nodup := sc__law_long_code.nd
  have hu := hr.units
  have hu65 := room65 hr
  exact (sb_cons (ss_par2 (i := 1) (j := 2) rfl nd rfl rfl (by decide) rfl rfl (sa_cons (se_call (has__law_one F) hr (by first | decide | omega) air rfl (sa_cons (se_v 0) (sa_cons (se_lst (sa_cons (se_tup (sa_cons (se_tup (sa_cons se_str (sa_cons se_int sa_nil))) (sa_cons (se_tup (sa_cons se_str (sa_cons se_int sa_nil))) sa_nil))) (sa_cons (se_tup (sa_cons (se_tup (sa_cons se_str (sa_cons se_int sa_nil))) (sa_cons (se_tup (sa_cons se_str (sa_cons se_int sa_nil))) sa_nil))) sa_nil))) sa_nil))) (sa_cons (se_bin op_addD se_int (se_call (has__law_take F) hr (by first | decide | omega) air rfl (sa_cons (se_v 0) (sa_cons se_int sa_nil)))) sa_nil)))
    (sb_cons (ss_set (i := 3) nd rfl (by first | exact Or.inl rfl | exact Or.inr rfl) (Or.inl rfl) (se_tup (sa_cons (se_v 1) (sa_cons (se_call (has__law_one F) hr (by first | decide | omega) air rfl (sa_cons (se_v 0) (sa_cons (se_lst (sa_cons (se_tup (sa_cons (se_tup (sa_cons se_str (sa_cons se_int sa_nil))) sa_nil)) (sa_cons (se_tup (sa_cons (se_tup (sa_cons se_str (sa_cons se_int sa_nil))) (sa_cons (se_tup (sa_cons se_str (sa_cons se_int sa_nil))) sa_nil))) sa_nil))) sa_nil))) (sa_cons (se_tup (sa_cons se_str (sa_cons se_str sa_nil))) sa_nil)))))
    (sb_cons (ss_par3 (i := 4) (j := 5) (l := 6) rfl nd rfl rfl rfl (by decide) (by decide) (by decide) rfl rfl rfl (sa_cons (se_ix (se_ix (se_v 1) se_int (fun _ _ => rfl)) se_int (fun _ _ => rfl)) (sa_cons (se_ix (se_ix (se_v 1) se_int (fun _ _ => rfl)) se_int (fun _ _ => rfl)) (sa_cons (se_new sa_nil) sa_nil))))
    (sb_cons (ss_for (passes_of rfl) rfl (si_range1 F.f_range (sa_cons (se_v 2) sa_nil)) (sg_n 7 nd) (sb_cons (ss_set (i := 8) nd rfl (by first | exact Or.inl rfl | exact Or.inr rfl) (Or.inl rfl) (se_lst (sa_cons (se_tup (sa_cons se_str (sa_cons (se_ix (se_call (has__law_one F) hr (by first | decide | omega) air rfl (sa_cons (se_v 0) (sa_cons (se_ix (se_v 3) se_int (fun _ _ => rfl)) sa_nil))) se_int (fun _ _ => rfl)) (sa_cons (se_bin op_addD se_int (se_call (has__law_take F) hr (by first | decide | omega) air rfl (sa_cons (se_v 0) (sa_cons se_int sa_nil)))) sa_nil)))) (sa_cons (se_tup (sa_cons se_str (sa_cons (se_bin op_addD (se_v 7) se_int) sa_nil))) (sa_cons (se_tup (sa_cons se_str (sa_cons (se_v 4) (sa_cons (se_tup (sa_cons se_str (sa_cons (se_v 4) sa_nil))) sa_nil)))) sa_nil)))))
    (sb_one (ss_expr (se_bmL PySem.F.slot_list_append ty_append mt_appendD (se_v 6) (sa_cons (se_call (has__law_one F) hr (by first | decide | omega) air rfl (sa_cons (se_v 0) (sa_cons (se_bin op_addD (se_v 8) (se_lst (sa_cons (se_tup (sa_cons se_str (sa_cons (se_tup (sa_cons se_str (sa_cons (se_tup (sa_cons se_str (sa_cons (se_v 5) sa_nil))) (sa_cons (se_tup (sa_cons se_str (sa_cons se_int sa_nil))) sa_nil)))) (sa_cons (se_bin op_addD (se_v 7) se_int) sa_nil)))) sa_nil))) sa_nil))) sa_nil))))))
    (sb_cons (ss_for (passes_of rfl) rfl (si_seq (se_v 1)) (sg_tupR rfl (sgs_cons (sg_n 9 nd) (sgs_cons (sg_n 10 nd) sgs_nil))) (sb_cons (ss_expr (se_bmL PySem.F.slot_list_append ty_append mt_appendD (se_v 6) (sa_cons (se_tup (sa_cons se_str (sa_cons (se_v 9) (sa_cons (se_tup (sa_cons se_str (sa_cons (se_tup (sa_cons se_str (sa_cons (se_v 9) sa_nil))) (sa_cons (se_tup (sa_cons se_str (sa_cons se_int sa_nil))) sa_nil)))) sa_nil)))) sa_nil)))
    (sb_one (ss_expr (se_bmL PySem.F.slot_list_append ty_append mt_appendD (se_v 6) (sa_cons (se_tup (sa_cons se_str (sa_cons (se_tup (sa_cons se_str (sa_cons (se_tup (sa_cons se_str (sa_cons (se_v 9) sa_nil))) (sa_cons (se_tup (sa_cons se_str (sa_cons se_int sa_nil))) sa_nil)))) (sa_cons se_int sa_nil)))) sa_nil))))))
    (sb_one (ss_ret (se_tup (sa_cons (se_v 3) (sa_cons (se_callTy call_tupleD F.f_tuple (sa_cons (se_bin op_addD (se_v 6) (se_lst (sa_cons (se_tup (sa_cons se_str (sa_cons (se_call (has__law_one F) hr (by first | decide | omega) air rfl (sa_cons (se_v 0) (sa_cons (se_ix (se_v 3) se_int (fun _ _ => rfl)) sa_nil))) sa_nil))) sa_nil))) sa_nil)) sa_nil))))))))))
/-! _law_long_right -/
noncomputable def b__law_long_right : DEnv → Store → R Fl :=
  (evSeq (evAsg (evCall c__law_long_code (evCons (evVar 0) evNil)) (tgTup 2 (tgCons (tgN 1) (tgCons (tgN 2) tgNil))))
    (evSeq (evAsg (evMk mkI (evComp [4] (itSeq (evCall c__law_states (evCons (evVar 1) evNil))) (tgN 4) evYes (evCall c__law_code_run (evCons (evVar 1) (evCons (evVar 2) (evCons (evVar 4) evNil)))))) (tgN 3))
    (evSeq (evIfS (evOrT (evTest (evBin oLt (evCallO bMax (evCons (evMk mkI (evComp [5] (itSeq (evVar 3)) (tgN 5) evYes (evBin ixD (evVar 5) (evC (.int 1))))) evNil)) (evC (.int 1700)))) (evTest (evBin oNe (evCall c_code_table (evCons (evVar 1) (evCons (evVar 2) evNil))) (evCallO bTuple (evCons (evMk mkI (evComp [5] (itSeq (evVar 3)) (tgN 5) evYes (evBin ixD (evVar 5) (evC (.int 0))))) evNil))))) (evRet (evC (.bl false))) evNext)
    (evSeq (evAsg (evCall c__law_prices_of (evCons (evVar 1) evNil)) (tgN 6))
    (evRet (evBin oEq (evCall c_meter (evCons (evVar 1) (evCons (evVar 2) evNil))) (evCallO bTuple (evCons (evMk mkI (evComp [5] (itSeq (evVar 3)) (tgN 5) evYes (evTup (evCons (evBin ixD (evVar 5) (evC (.int 1))) (evCons (evCall c__law_cost (evCons (evVar 6) (evCons (evBin ixD (evBin ixD (evVar 5) (evC (.int 0))) (evC (.int 0))) evNil))) evNil))))) evNil))))))))
theorem sc__law_long_right : FnScope ["source", "ground", "told", "rows", "state", "row", "costs"] ["source"] (defScope (top 86)) := ⟨rfl, rfl, rfl, by decide +kernel, rfl, by decide +kernel, by decide +kernel⟩
noncomputable def c__law_long_right : List D → Store → R D := fnR .pl 1 7 b__law_long_right
theorem has__law_long_right {P : Program} {w : World} {K : PySem.W.Frag} {mg : Str → Option Value} {base : Heap} (F : Fx P w K mg base) : Has P w K mg base 24 "_law_long_right" c__law_long_right := by
  obtain ⟨f, fd, Df, hm⟩ := F.d__law_long_right
  refine has_of .pl (N := ["source", "ground", "told", "rows", "state", "row", "costs"]) (ps := ["source"]) Df hm sc__law_long_right rfl (fun _ _ _ _ _ _ us hl => match us, hl with | [_], _ => rfl) fun cdv A outer s H E Y hr air => ?_
  have nd : (["source", "ground", "told", "rows", "state", "row", "costs"] : List Str).Nodup := sc__law_long_right.nd
  have hu := hr.units
  have hu65 := room65 hr
  exact (sb_cons (ss_asg (se_call (has__law_long_code F) hr (by first | decide | omega) air rfl (sa_cons (se_v 0) sa_nil)) (sg_tupR rfl (sgs_cons (sg_n 1 nd) (sgs_cons (sg_n 2 nd) sgs_nil))))
    (sb_cons (ss_lc (i := 3) mkI_ok rfl nd rfl rfl (own := [("state", 4)]) (blkOk_by (by kernel_rfl)) (by decide) (si_seq (se_call (has__law_states F) hr (by first | decide | omega) air rfl (sa_cons (se_v 1) sa_nil))) (fun _ _ _ _ _ => (sg_n 4 nd)) (fun _ _ _ _ _ => sc_nil) (fun _ _ _ _ _ => (se_call (has__law_code_run F) hr (by first | decide | omega) air_blk rfl (sa_cons (se_v 1) (sa_cons (se_v 2) (sa_cons (se_v 4) sa_nil))))))
    (sb_cons (ss_if (SW.st (sw_or (st_cmp op_ltD (se_callB (call_maxD rfl) F.f_max (sa_cons (se_lc mkI_ok rfl nd (own := [("row", 5)]) (blkOk_by (by kernel_rfl)) (by decide) (si_seq (se_v 3)) (fun _ _ _ _ _ => (sg_n 5 nd)) (fun _ _ _ _ _ => sc_nil) (fun _ _ _ _ _ => (se_ix (se_v 5) se_int (fun _ _ => rfl)))) sa_nil)) se_int) (sw_or1 (st_cmp (op_neDD hu) (se_call (has_code_table F) hr (by first | decide | omega) air rfl (sa_cons (se_v 1) (sa_cons (se_v 2) sa_nil))) (se_callTy call_tupleD F.f_tuple (sa_cons (se_lc mkI_ok rfl nd (own := [("row", 5)]) (blkOk_by (by kernel_rfl)) (by decide) (si_seq (se_v 3)) (fun _ _ _ _ _ => (sg_n 5 nd)) (fun _ _ _ _ _ => sc_nil) (fun _ _ _ _ _ => (se_ix (se_v 5) se_int (fun _ _ => rfl)))) sa_nil)))))) (sb_one (ss_ret se_bl)) sb_nil)
    (sb_cons (ss_set (i := 6) nd rfl (by first | exact Or.inl rfl | exact Or.inr rfl) (Or.inl rfl) (se_call (has__law_prices_of F) hr (by first | decide | omega) air rfl (sa_cons (se_v 1) sa_nil)))
    (sb_one (ss_ret (se_cmp (op_eqDD hu) (se_call (has_meter F) hr (by first | decide | omega) air rfl (sa_cons (se_v 1) (sa_cons (se_v 2) sa_nil))) (se_callTy call_tupleD F.f_tuple (sa_cons (se_lc mkI_ok rfl nd (own := [("row", 5)]) (blkOk_by (by kernel_rfl)) (by decide) (si_seq (se_v 3)) (fun _ _ _ _ _ => (sg_n 5 nd)) (fun _ _ _ _ _ => sc_nil) (fun _ _ _ _ _ => (se_tup (sa_cons (se_ix (se_v 5) se_int (fun _ _ => rfl)) (sa_cons (se_call (has__law_cost F) hr (by first | decide | omega) air_blk rfl (sa_cons (se_v 6) (sa_cons (se_ix (se_ix (se_v 5) se_int (fun _ _ => rfl)) se_int (fun _ _ => rfl)) sa_nil))) sa_nil))))) sa_nil)))))))))
/-! law -/
noncomputable def b_law : DEnv → Store → R Fl :=
  (evSeq (evAsg (evCall c__law_pool (evCons (evVar 0) (evCons (evC (.int 0)) evNil))) (tgN 1))
    (evSeq (evIfS (evAndT (evTest (evBin oEq (evCall c__law_take (evCons (evVar 1) (evCons (evC (.int 12)) evNil))) (evC (.int 0)))) (evNotT (evTruth (evCall c__law_long_right (evCons (evVar 1) evNil))))) (evRet (evC (.bl false))) evNext)
    (evSeq (evAsg (evCall c__law_ground (evCons (evVar 1) evNil)) (tgN 2))
    (evSeq (evAsg (evTup (evCons (evCall c__law_states (evCons (evVar 2) evNil)) (evCons (evCall c__law_prices_of (evCons (evVar 2) evNil)) evNil))) (tgTup 2 (tgCons (tgN 3) (tgCons (tgN 4) tgNil))))
    (evSeq (evFor (itOf itmR1 (evCons (evC (.int 2)) evNil)) (tgN 5) (evSeq (evPar2 6 7 (evCons (evCall c__law_code (evCons (evVar 1) (evCons (evVar 2) evNil))) (evCons (evNew evNil) evNil)))
    (evSeq (evFor (itSeq (evVar 3)) (tgN 8) (evSeq (evDrop (evMeth mAppend (evVar 7) (evCons (evCall c__law_code_run (evCons (evVar 2) (evCons (evVar 6) (evCons (evVar 8) evNil)))) evNil)))
    (evIfS (evTest (evBin oNe (evCall c_run_code (evCons (evVar 2) (evCons (evVar 6) (evCons (evVar 8) evNil)))) (evBin ixD (evBin ixD (evVar 7) (evUn dNeg (evC (.int 1)))) (evC (.int 0))))) (evRet (evC (.bl false))) evNext)))
    (evSeq (evIfS (evTest (evBin oNe (evCall c_code_table (evCons (evVar 2) (evCons (evVar 6) evNil))) (evCallO bTuple (evCons (evMk mkI (evComp [9] (itSeq (evVar 7)) (tgN 9) evYes (evBin ixD (evVar 9) (evC (.int 0))))) evNil)))) (evRet (evC (.bl false))) evNext)
    (evSeq (evAsg (evMk mkI (evComp [9] (itSeq (evVar 7)) (tgN 9) evYes (evIte (evTest (evBin oIsN (evBin ixD (evVar 9) (evC (.int 0))) (evC .non))) (evC .non) (evTup (evCons (evBin ixD (evVar 9) (evC (.int 1))) (evCons (evCall c__law_cost (evCons (evVar 4) (evCons (evBin ixD (evBin ixD (evVar 9) (evC (.int 0))) (evC (.int 0))) evNil))) evNil)))))) (tgN 10))
    (evIfS (evTest (evBin oNe (evCall c_meter (evCons (evVar 2) (evCons (evVar 6) evNil))) (evCallO bTuple (evCons (evVar 10) evNil)))) (evRet (evC (.bl false))) evNext))))))
    (evSeq (evAsg (evCall c__law_one (evCons (evVar 1) (evCons (evCall c__law_odd_states (evCons (evVar 2) evNil)) evNil))) (tgN 11))
    (evSeq (evIfS (evTest (evBin oNe (evCall c__law_refusal (evCons (evVar 2) (evCons (evVar 6) (evCons (evVar 11) evNil)))) (evTup (evCons (evC (.str "state")) (evCons (evC (.int 0)) evNil))))) (evRet (evC (.bl false))) evNext)
    (evSeq (evAsg (evLst (evCons (evC .non) (evCons (evTup evNil) (evCons (evC (.str "code")) (evCons (evBin oAdd (evVar 6) (evTup (evCons (evTup (evCons (evC (.str "jump")) (evCons (evBin oAdd (evCallO bLen (evCons (evVar 6) evNil)) (evC (.int 1))) evNil))) evNil))) (evCons (evTup (evCons (evTup (evCons (evC (.str "jump")) evNil)) evNil)) evNil)))))) (tgN 12))
    (evSeq (evFor (itSeq (evBin oAdd (evVar 12) (evLst (evCons (evBin oAdd (evVar 6) (evTup (evCons (evTup (evCons (evC (.str "deed")) (evCons (evBin ixD (evBin ixD (evBin ixD (evVar 2) (evC (.int 1))) (evC (.int 0))) (evC (.int 0))) (evCons (evC (.int 0)) evNil)))) evNil))) evNil)))) (tgN 13) (evIfS (evTest (evBin oNe (evCall c__law_refusal (evCons (evVar 2) (evCons (evVar 13) (evCons (evVar 11) evNil)))) (evTup (evCons (evC (.str "code")) (evCons (evUn dNeg (evC (.int 1))) evNil))))) (evRet (evC (.bl false))) evNext))
    (evRet (evC (.bl true))))))))))))
theorem sc_law : FnScope ["script", "source", "ground", "states", "costs", "turn", "told", "rows", "state", "row", "due", "odd", "wrong", "bad"] ["script"] (defScope (top 87)) := ⟨rfl, rfl, rfl, by decide +kernel, rfl, by decide +kernel, by decide +kernel⟩
noncomputable def c_law : List D → Store → R D := fnR .pl 1 14 b_law
theorem ok_law {P : Program} {w : World} {K : PySem.W.Frag} {mg : Str → Option Value} {base : Heap} {f : Addr} {fd : FuncData} (F : Fx P w K mg base) (Df : FunD K "law" "law" (defArgs (top 87)) (defBody (top 87)) (defScope (top 87)) [] [] f fd) : FnOk P w K mg base (L2.CX P w) 25 f fd ["script"] (liftSp K mg c_law) := by
  refine fnok_of .pl (N := ["script", "source", "ground", "states", "costs", "turn", "told", "rows", "state", "row", "due", "odd", "wrong", "bad"]) (ps := ["script"]) Df sc_law rfl fun cdv A outer s H E Y hr air => ?_
  have nd : (["script", "source", "ground", "states", "costs", "turn", "told", "rows", "state", "row", "due", "odd", "wrong", "bad"] : List Str).Nodup := sc_law.nd
  have hu := hr.units
  have hu65 := room65 hr
  exact (sb_cons (ss_set (i := 1) nd rfl (by first | exact Or.inl rfl | exact Or.inr rfl) (Or.inl rfl) (se_call (has__law_pool F) hr (by first | decide | omega) air rfl (sa_cons (se_v 0) (sa_cons se_int sa_nil))))
    (sb_cons (ss_if (SW.st (sw_and (st_cmp (op_eqDD hu) (se_call (has__law_take F) hr (by first | decide | omega) air rfl (sa_cons (se_v 1) (sa_cons se_int sa_nil))) se_int) (sw_and1 (st_not (st_truth (se_call (has__law_long_right F) hr (by first | decide | omega) air rfl (sa_cons (se_v 1) sa_nil))))))) (sb_one (ss_ret se_bl)) sb_nil)
    (sb_cons (ss_set (i := 2) nd rfl (by first | exact Or.inl rfl | exact Or.inr rfl) (Or.inl rfl) (se_call (has__law_ground F) hr (by first | decide | omega) air rfl (sa_cons (se_v 1) sa_nil)))
    (sb_cons (ss_asg (se_tup (sa_cons (se_call (has__law_states F) hr (by first | decide | omega) air rfl (sa_cons (se_v 2) sa_nil)) (sa_cons (se_call (has__law_prices_of F) hr (by first | decide | omega) air rfl (sa_cons (se_v 2) sa_nil)) sa_nil))) (sg_tupR rfl (sgs_cons (sg_n 3 nd) (sgs_cons (sg_n 4 nd) sgs_nil))))
    (sb_cons (ss_for (passes_of rfl) rfl (si_range1 F.f_range (sa_cons se_int sa_nil)) (sg_n 5 nd) (sb_cons (ss_par2 (i := 6) (j := 7) rfl nd rfl rfl (by decide) rfl rfl (sa_cons (se_call (has__law_code F) hr (by first | decide | omega) air rfl (sa_cons (se_v 1) (sa_cons (se_v 2) sa_nil))) (sa_cons (se_new sa_nil) sa_nil)))
    (sb_cons (ss_for (passes_of rfl) rfl (si_seq (se_v 3)) (sg_n 8 nd) (sb_cons (ss_expr (se_bmL PySem.F.slot_list_append ty_append mt_appendD (se_v 7) (sa_cons (se_call (has__law_code_run F) hr (by first | decide | omega) air rfl (sa_cons (se_v 2) (sa_cons (se_v 6) (sa_cons (se_v 8) sa_nil)))) sa_nil)))
    (sb_one (ss_if (st_cmp (op_neDD hu) (se_call (has_run_code F) hr (by first | decide | omega) air rfl (sa_cons (se_v 2) (sa_cons (se_v 6) (sa_cons (se_v 8) sa_nil)))) (se_ix (se_ix (se_v 7) (se_neg se_int) (fun _ _ => rfl)) se_int (fun _ _ => rfl))) (sb_one (ss_ret se_bl)) sb_nil))))
    (sb_cons (ss_if (st_cmp (op_neDD hu) (se_call (has_code_table F) hr (by first | decide | omega) air rfl (sa_cons (se_v 2) (sa_cons (se_v 6) sa_nil))) (se_callTy call_tupleD F.f_tuple (sa_cons (se_lc mkI_ok rfl nd (own := [("row", 9)]) (blkOk_by (by kernel_rfl)) (by decide) (si_seq (se_v 7)) (fun _ _ _ _ _ => (sg_n 9 nd)) (fun _ _ _ _ _ => sc_nil) (fun _ _ _ _ _ => (se_ix (se_v 9) se_int (fun _ _ => rfl)))) sa_nil))) (sb_one (ss_ret se_bl)) sb_nil)
    (sb_cons (ss_lc (i := 10) mkI_ok rfl nd rfl rfl (own := [("row", 9)]) (blkOk_by (by kernel_rfl)) (by decide) (si_seq (se_v 7)) (fun _ _ _ _ _ => (sg_n 9 nd)) (fun _ _ _ _ _ => sc_nil) (fun _ _ _ _ _ => (se_ite (st_cmp op_isND (se_ix (se_v 9) se_int (fun _ _ => rfl)) se_non) se_non (se_tup (sa_cons (se_ix (se_v 9) se_int (fun _ _ => rfl)) (sa_cons (se_call (has__law_cost F) hr (by first | decide | omega) air_blk rfl (sa_cons (se_v 4) (sa_cons (se_ix (se_ix (se_v 9) se_int (fun _ _ => rfl)) se_int (fun _ _ => rfl)) sa_nil))) sa_nil))))))
    (sb_one (ss_if (st_cmp (op_neDD hu) (se_call (has_meter F) hr (by first | decide | omega) air rfl (sa_cons (se_v 2) (sa_cons (se_v 6) sa_nil))) (se_callTy call_tupleD F.f_tuple (sa_cons (se_v 10) sa_nil))) (sb_one (ss_ret se_bl)) sb_nil)))))))
    (sb_cons (ss_set (i := 11) nd rfl (by first | exact Or.inl rfl | exact Or.inr rfl) (Or.inl rfl) (se_call (has__law_one F) hr (by first | decide | omega) air rfl (sa_cons (se_v 1) (sa_cons (se_call (has__law_odd_states F) hr (by first | decide | omega) air rfl (sa_cons (se_v 2) sa_nil)) sa_nil))))
    (sb_cons (ss_if (st_cmp (op_neDD hu) (se_call (has__law_refusal F) hr (by first | decide | omega) air rfl (sa_cons (se_v 2) (sa_cons (se_v 6) (sa_cons (se_v 11) sa_nil)))) (se_tup (sa_cons se_str (sa_cons se_int sa_nil)))) (sb_one (ss_ret se_bl)) sb_nil)
    (sb_cons (ss_set (i := 12) nd rfl (by first | exact Or.inl rfl | exact Or.inr rfl) (Or.inl rfl) (se_lst (sa_cons se_non (sa_cons (se_tup sa_nil) (sa_cons se_str (sa_cons (se_bin op_addD (se_v 6) (se_tup (sa_cons (se_tup (sa_cons se_str (sa_cons (se_bin op_addD (se_callB call_lenD F.f_len (sa_cons (se_v 6) sa_nil)) se_int) sa_nil))) sa_nil))) (sa_cons (se_tup (sa_cons (se_tup (sa_cons se_str sa_nil)) sa_nil)) sa_nil)))))))
    (sb_cons (ss_for (passes_of rfl) rfl (si_seq (se_bin op_addD (se_v 12) (se_lst (sa_cons (se_bin op_addD (se_v 6) (se_tup (sa_cons (se_tup (sa_cons se_str (sa_cons (se_ix (se_ix (se_ix (se_v 2) se_int (fun _ _ => rfl)) se_int (fun _ _ => rfl)) se_int (fun _ _ => rfl)) (sa_cons se_int sa_nil)))) sa_nil))) sa_nil)))) (sg_n 13 nd) (sb_one (ss_if (st_cmp (op_neDD hu) (se_call (has__law_refusal F) hr (by first | decide | omega) air rfl (sa_cons (se_v 2) (sa_cons (se_v 13) (sa_cons (se_v 11) sa_nil)))) (se_tup (sa_cons se_str (sa_cons (se_neg se_int) sa_nil)))) (sb_one (ss_ret se_bl)) sb_nil)))
    (sb_one (ss_ret se_bl)))))))))))
end K84
end
section
set_option Elab.async false
set_option linter.all false
set_option maxRecDepth 100000
set_option maxHeartbeats 0
/-! the head: facts by names, the run -/
namespace K84
open PySem PySem.Spec PyProof.Rows L2 DL
def dd16 : He.DefD := ⟨("is_whole", none), "is_whole", "is_whole", defArgs (top 16), defBody (top 16), defScope (top 16), [], []⟩
def dd17 : He.DefD := ⟨("is_name", none), "is_name", "is_name", defArgs (top 17), defBody (top 17), defScope (top 17), [], []⟩
def dd18 : He.DefD := ⟨("is_priced", none), "is_priced", "is_priced", defArgs (top 18), defBody (top 18), defScope (top 18), [], []⟩
def dd19 : He.DefD := ⟨("first_bad", none), "first_bad", "first_bad", defArgs (top 19), defBody (top 19), defScope (top 19), [], []⟩
def dd20 : He.DefD := ⟨("many_of", none), "many_of", "many_of", defArgs (top 20), defBody (top 20), defScope (top 20), [], []⟩
def dd21 : He.DefD := ⟨("wrong_part", none), "wrong_part", "wrong_part", defArgs (top 21), defBody (top 21), defScope (top 21), [], []⟩
def dd22 : He.DefD := ⟨("is_triple", none), "is_triple", "is_triple", defArgs (top 22), defBody (top 22), defScope (top 22), [], []⟩
def dd23 : He.DefD := ⟨("made_ground", none), "made_ground", "made_ground", defArgs (top 23), defBody (top 23), defScope (top 23), [], []⟩
def dd24 : He.DefD := ⟨("is_ground", none), "is_ground", "is_ground", defArgs (top 24), defBody (top 24), defScope (top 24), [], []⟩
def dd25 : He.DefD := ⟨("all_states", none), "all_states", "all_states", defArgs (top 25), defBody (top 25), defScope (top 25), [], []⟩
def dd26 : He.DefD := ⟨("number_of", none), "number_of", "number_of", defArgs (top 26), defBody (top 26), defScope (top 26), [], []⟩
def dd27 : He.DefD := ⟨("is_state", none), "is_state", "is_state", defArgs (top 27), defBody (top 27), defScope (top 27), [], []⟩
def dd28 : He.DefD := ⟨("want_state", none), "want_state", "want_state", defArgs (top 28), defBody (top 28), defScope (top 28), [], []⟩
def dd29 : He.DefD := ⟨("nought_of", none), "nought_of", "nought_of", defArgs (top 29), defBody (top 29), defScope (top 29), [], []⟩
def dd30 : He.DefD := ⟨("price_of", none), "price_of", "price_of", defArgs (top 30), defBody (top 30), defScope (top 30), [], []⟩
def dd34 : He.DefD := ⟨("names_in", none), "names_in", "names_in", defArgs (top 34), defBody (top 34), defScope (top 34), [], []⟩
def dd35 : He.DefD := ⟨("is_worded", none), "is_worded", "is_worded", defArgs (top 35), defBody (top 35), defScope (top 35), [], []⟩
def dd36 : He.DefD := ⟨("is_one_of", none), "is_one_of", "is_one_of", defArgs (top 36), defBody (top 36), defScope (top 36), [], []⟩
def dd37 : He.DefD := ⟨("is_number", none), "is_number", "is_number", defArgs (top 37), defBody (top 37), defScope (top 37), [], []⟩
def dd38 : He.DefD := ⟨("is_test", none), "is_test", "is_test", defArgs (top 38), defBody (top 38), defScope (top 38), [], []⟩
def dd39 : He.DefD := ⟨("is_number_text", none), "is_number_text", "is_number_text", defArgs (top 39), defBody (top 39), defScope (top 39), [], []⟩
def dd40 : He.DefD := ⟨("is_test_text", none), "is_test_text", "is_test_text", defArgs (top 40), defBody (top 40), defScope (top 40), [], []⟩
def dd42 : He.DefD := ⟨("worth_in", none), "worth_in", "worth_in", defArgs (top 42), defBody (top 42), defScope (top 42), [], []⟩
def dd43 : He.DefD := ⟨("holds", none), "holds", "holds", defArgs (top 43), defBody (top 43), defScope (top 43), [], []⟩
def dd44 : He.DefD := ⟨("changed", none), "changed", "changed", defArgs (top 44), defBody (top 44), defScope (top 44), [], []⟩
def dd45 : He.DefD := ⟨("set_in", none), "set_in", "set_in", defArgs (top 45), defBody (top 45), defScope (top 45), [], []⟩
def dd48 : He.DefD := ⟨("is_row_number", none), "is_row_number", "is_row_number", defArgs (top 48), defBody (top 48), defScope (top 48), [], []⟩
def dd49 : He.DefD := ⟨("size_of", none), "size_of", "size_of", defArgs (top 49), defBody (top 49), defScope (top 49), [], []⟩
def dd50 : He.DefD := ⟨("is_switch", none), "is_switch", "is_switch", defArgs (top 50), defBody (top 50), defScope (top 50), [], []⟩
def dd51 : He.DefD := ⟨("is_triple_row", none), "is_triple_row", "is_triple_row", defArgs (top 51), defBody (top 51), defScope (top 51), [], []⟩
def dd52 : He.DefD := ⟨("is_row", none), "is_row", "is_row", defArgs (top 52), defBody (top 52), defScope (top 52), [], []⟩
def dd53 : He.DefD := ⟨("is_code", none), "is_code", "is_code", defArgs (top 53), defBody (top 53), defScope (top 53), [], []⟩
def dd55 : He.DefD := ⟨("name_place", none), "name_place", "name_place", defArgs (top 55), defBody (top 55), defScope (top 55), [], []⟩
def dd56 : He.DefD := ⟨("next_row", none), "next_row", "next_row", defArgs (top 56), defBody (top 56), defScope (top 56), [], []⟩
def dd57 : He.DefD := ⟨("state_behind", none), "state_behind", "state_behind", defArgs (top 57), defBody (top 57), defScope (top 57), [], []⟩
def dd58 : He.DefD := ⟨("count_behind", none), "count_behind", "count_behind", defArgs (top 58), defBody (top 58), defScope (top 58), [], []⟩
def dd59 : He.DefD := ⟨("run_rows", none), "run_rows", "run_rows", defArgs (top 59), defBody (top 59), defScope (top 59), [], []⟩
def dd60 : He.DefD := ⟨("made_code", none), "made_code", "made_code", defArgs (top 60), defBody (top 60), defScope (top 60), [], []⟩
def dd61 : He.DefD := ⟨("run_code", none), "run_code", "run_code", defArgs (top 61), defBody (top 61), defScope (top 61), [], []⟩
def dd62 : He.DefD := ⟨("table_of_code", none), "table_of_code", "table_of_code", defArgs (top 62), defBody (top 62), defScope (top 62), [], []⟩
def dd63 : He.DefD := ⟨("code_table", none), "code_table", "code_table", defArgs (top 63), defBody (top 63), defScope (top 63), [], []⟩
def dd64 : He.DefD := ⟨("metered", none), "metered", "metered", defArgs (top 64), defBody (top 64), defScope (top 64), [], []⟩
def dd65 : He.DefD := ⟨("meter", none), "meter", "meter", defArgs (top 65), defBody (top 65), defScope (top 65), [], []⟩
def dd67 : He.DefD := ⟨("_law_pool", none), "_law_pool", "_law_pool", defArgs (top 67), defBody (top 67), defScope (top 67), [], []⟩
def dd68 : He.DefD := ⟨("_law_take", none), "_law_take", "_law_take", defArgs (top 68), defBody (top 68), defScope (top 68), [], []⟩
def dd69 : He.DefD := ⟨("_law_one", none), "_law_one", "_law_one", defArgs (top 69), defBody (top 69), defScope (top 69), [], []⟩
def dd70 : He.DefD := ⟨("_law_cost", none), "_law_cost", "_law_cost", defArgs (top 70), defBody (top 70), defScope (top 70), [], []⟩
def dd71 : He.DefD := ⟨("_law_ground", none), "_law_ground", "_law_ground", defArgs (top 71), defBody (top 71), defScope (top 71), [], []⟩
def dd72 : He.DefD := ⟨("_law_states", none), "_law_states", "_law_states", defArgs (top 72), defBody (top 72), defScope (top 72), [], []⟩
def dd73 : He.DefD := ⟨("_law_place", none), "_law_place", "_law_place", defArgs (top 73), defBody (top 73), defScope (top 73), [], []⟩
def dd74 : He.DefD := ⟨("_law_number", none), "_law_number", "_law_number", defArgs (top 74), defBody (top 74), defScope (top 74), [], []⟩
def dd75 : He.DefD := ⟨("_law_holds", none), "_law_holds", "_law_holds", defArgs (top 75), defBody (top 75), defScope (top 75), [], []⟩
def dd76 : He.DefD := ⟨("_law_prices_of", none), "_law_prices_of", "_law_prices_of", defArgs (top 76), defBody (top 76), defScope (top 76), [], []⟩
def dd77 : He.DefD := ⟨("_law_value", none), "_law_value", "_law_value", defArgs (top 77), defBody (top 77), defScope (top 77), [], []⟩
def dd78 : He.DefD := ⟨("_law_test", none), "_law_test", "_law_test", defArgs (top 78), defBody (top 78), defScope (top 78), [], []⟩
def dd79 : He.DefD := ⟨("_law_code_row", none), "_law_code_row", "_law_code_row", defArgs (top 79), defBody (top 79), defScope (top 79), [], []⟩
def dd80 : He.DefD := ⟨("_law_code", none), "_law_code", "_law_code", defArgs (top 80), defBody (top 80), defScope (top 80), [], []⟩
def dd81 : He.DefD := ⟨("_law_next", none), "_law_next", "_law_next", defArgs (top 81), defBody (top 81), defScope (top 81), [], []⟩
def dd82 : He.DefD := ⟨("_law_code_run", none), "_law_code_run", "_law_code_run", defArgs (top 82), defBody (top 82), defScope (top 82), [], []⟩
def dd83 : He.DefD := ⟨("_law_refusal", none), "_law_refusal", "_law_refusal", defArgs (top 83), defBody (top 83), defScope (top 83), [], []⟩
def dd84 : He.DefD := ⟨("_law_odd_states", none), "_law_odd_states", "_law_odd_states", defArgs (top 84), defBody (top 84), defScope (top 84), [], []⟩
def dd85 : He.DefD := ⟨("_law_long_code", none), "_law_long_code", "_law_long_code", defArgs (top 85), defBody (top 85), defScope (top 85), [], []⟩
def dd86 : He.DefD := ⟨("_law_long_right", none), "_law_long_right", "_law_long_right", defArgs (top 86), defBody (top 86), defScope (top 86), [], []⟩
def dd87 : He.DefD := ⟨("law", none), "law", "law", defArgs (top 87), defBody (top 87), defScope (top 87), [], []⟩
def fn_0 : List He.DefD := [dd16, dd17, dd18, dd19, dd20, dd21, dd22, dd23, dd24, dd25, dd26, dd27, dd28, dd29, dd30, dd34, dd35, dd36, dd37, dd38, dd39, dd40, dd42, dd43, dd44, dd45, dd48, dd49, dd50, dd51]
def fn_1 : List He.DefD := [dd52, dd53, dd55, dd56, dd57, dd58, dd59, dd60, dd61, dd62, dd63, dd64, dd65, dd67, dd68, dd69, dd70, dd71, dd72, dd73, dd74, dd75, dd76, dd77, dd78, dd79, dd80, dd81, dd82, dd83]
def fn_2 : List He.DefD := [dd84, dd85, dd86, dd87]
def fn : List He.DefD := fn_0 ++ (fn_1 ++ (fn_2))
def fa_0 : List He.Fa := [.glo "is_whole", .glo "is_name", .glo "is_priced", .glo "first_bad", .glo "many_of", .glo "wrong_part", .glo "is_triple", .glo "made_ground", .glo "is_ground", .glo "all_states", .glo "number_of", .glo "is_state", .glo "want_state", .glo "nought_of", .glo "price_of", .glo "names_in", .glo "is_worded", .glo "is_one_of", .glo "is_number", .glo "is_test", .glo "is_number_text", .glo "is_test_text", .glo "worth_in", .glo "holds", .glo "changed", .glo "set_in", .glo "is_row_number", .glo "size_of", .glo "is_switch", .glo "is_triple_row"]
def fa_1 : List He.Fa := [.glo "is_row", .glo "is_code", .glo "name_place", .glo "next_row", .glo "state_behind", .glo "count_behind", .glo "run_rows", .glo "made_code", .glo "run_code", .glo "table_of_code", .glo "code_table", .glo "metered", .glo "meter", .glo "_law_pool", .glo "_law_take", .glo "_law_one", .glo "_law_cost", .glo "_law_ground", .glo "_law_states", .glo "_law_place", .glo "_law_number", .glo "_law_holds", .glo "_law_prices_of", .glo "_law_value", .glo "_law_test", .glo "_law_code_row", .glo "_law_code", .glo "_law_next", .glo "_law_code_run", .glo "_law_refusal"]
def fa_2 : List He.Fa := [.glo "_law_odd_states", .glo "_law_long_code", .glo "_law_long_right", .glo "law", .str "FIGURES" "0123456789", .str "LETTERS" "abcdefghijklmnopqrstuvwxyz", .int "MOST_CELLS" 4, .int "MOST_CODE" 2000, .int "MOST_EXITS" 4, .int "MOST_KINDS" 3, .int "MOST_NAME" 12, .int "MOST_NUMBER" 99, .int "MOST_NUMBER_DEEP" 6, .int "MOST_PRICE" 99, .int "MOST_SIZE" 8, .int "MOST_STATES" 64, .free "all", .free "any", .free "bool", .free "enumerate", .free "int", .free "isinstance", .free "len", .free "max", .free "range", .free "str", .free "sum", .free "tuple", .free "zip"]
def fa : List He.Fa := fa_0 ++ (fa_1 ++ (fa_2))
def loose_0 : List PySem.Str := ["Refused", "BadGround", "BadState", "BadCode", "LETTERS", "FIGURES", "RESERVED", "MOST_NAME", "MOST_CELLS", "MOST_SIZE", "MOST_STATES", "MOST_KINDS", "MOST_PRICE", "MOST_EXITS", "is_whole", "is_name", "is_priced", "first_bad", "many_of", "wrong_part", "is_triple", "made_ground", "is_ground", "all_states", "number_of", "is_state", "want_state", "nought_of", "price_of", "MOST_NUMBER_DEEP"]
def loose_1 : List PySem.Str := ["MOST_NUMBER", "names_in", "is_worded", "is_one_of", "is_number", "is_test", "is_number_text", "is_test_text", "worth_in", "holds", "changed", "set_in", "MOST_CODE", "is_row_number", "size_of", "is_switch", "is_triple_row", "is_row", "is_code", "name_place", "next_row", "state_behind", "count_behind", "run_rows", "made_code", "run_code", "table_of_code", "code_table", "metered", "meter"]
def loose_2 : List PySem.Str := ["_law_pool", "_law_take", "_law_one", "_law_cost", "_law_ground", "_law_states", "_law_place", "_law_number", "_law_holds", "_law_prices_of", "_law_value", "_law_test", "_law_code_row", "_law_code", "_law_next", "_law_code_run", "_law_refusal", "_law_odd_states", "_law_long_code", "_law_long_right"]
def loose : List PySem.Str := loose_0 ++ (loose_1 ++ (loose_2))
abbrev iSt : Stmt := inClass (top 1) 0
abbrev Rowk : PySem.W.OpenRow := PySem.W.OpenLaw.row PySem.Challenge.rw_agedlaws_k84_codes_that_come_round
def ex (K : PySem.W.Frag) : Bool := DLH.supIB Rowk.prog K "Refused" && (DLH.tabB K "Refused" xtab && (decide (PySem.W.typeIn K (.ref (He.fAd K ("Refused", some "__init__"))) = some (.type "function")) && (DLH.gtupB K "RESERVED" ["cells", "deeds", "exits", "if", "else", "while", "catch", "exit", "and", "or", "not", "law"])))
def iv : DLH.IV := some (("__init__" : Str), "Refused.__init__", defArgs iSt, FuncBody.stmts (defBody iSt), defScope iSt, mainGlobals, builtinsNs, Value.none)
abbrev hk : PySem.W.Hook := DLH.hookK 4 fa fn ex "Refused" iv
def ob (s : PySem.W.SharedT) : DLH.AlK := DLH.obsK 4 fa fn ex "Refused" (HandSHeadRun.getT s)
theorem ob_eq (s : PySem.W.SharedT) : ob s = hk.obs s.abs := DLH.obsK_eq (HandSHeadRun.getT_eq s)
theorem run (w : World) : HandSHeadRun.RunEq Rowk (PySem.W.view Rowk.prog [87]) hk ob 20000 loose w := by
  intro os
  kernel_rfl
theorem fx {w : World} {K : PySem.W.Frag} {h base : Heap} {mg : Str → Option Value} (X : K.In h) (G : h.Ns mainGlobals mg) (c : DLH.SaysK fa fn ex "Refused" iv K) : Fx Rowk.prog w K mg base := by
  obtain ⟨c1, c2, c3⟩ := c
  obtain ⟨e1, c2⟩ := He.ba c2
  obtain ⟨e2, c2⟩ := He.ba c2
  obtain ⟨e3, c2⟩ := He.ba c2
  have t0 := c2
  obtain ⟨fd, T, kV, doc, pm, an, cda, ct, cc, efd⟩ := DLH.supIB_ok (ar := (defArgs iSt).args.head!) e1 c3 rfl rfl
  have I : FnOk Rowk.prog w K mg base (L2.CX Rowk.prog w) 1 (He.fAd K ("Refused", some "__init__")) fd ["self", "what"] (DXi.spI K (He.ga K "Refused")) := DXi.init_ok T rfl rfl rfl rfl (by decide +kernel) rfl rfl rfl (by decide +kernel) (fun _ => rfl)
  have B : Binds K fd ["self", "what"] [] := by
    subst efd
    exact .all fun us hl => match us, hl with | [_, _], _ => rfl
  have tI := of_decide_eq_true e3
  exact {
    f_FIGURES := He.str_ok X G (c1.fact 64 rfl)
    f_LETTERS := He.str_ok X G (c1.fact 65 rfl)
    f_MOST_CELLS := He.int_ok X G (c1.fact 66 rfl)
    f_MOST_CODE := He.int_ok X G (c1.fact 67 rfl)
    f_MOST_EXITS := He.int_ok X G (c1.fact 68 rfl)
    f_MOST_KINDS := He.int_ok X G (c1.fact 69 rfl)
    f_MOST_NAME := He.int_ok X G (c1.fact 70 rfl)
    f_MOST_NUMBER := He.int_ok X G (c1.fact 71 rfl)
    f_MOST_NUMBER_DEEP := He.int_ok X G (c1.fact 72 rfl)
    f_MOST_PRICE := He.int_ok X G (c1.fact 73 rfl)
    f_MOST_SIZE := He.int_ok X G (c1.fact 74 rfl)
    f_MOST_STATES := He.int_ok X G (c1.fact 75 rfl)
    f_RESERVED := DLH.gtupB_ok X G t0
    f_all := He.free_ok X G (c1.fact 76 rfl)
    f_any := He.free_ok X G (c1.fact 77 rfl)
    f_bool := He.free_ok X G (c1.fact 78 rfl)
    f_enumerate := He.free_ok X G (c1.fact 79 rfl)
    f_int := He.free_ok X G (c1.fact 80 rfl)
    f_isinstance := He.free_ok X G (c1.fact 81 rfl)
    f_len := He.free_ok X G (c1.fact 82 rfl)
    f_max := He.free_ok X G (c1.fact 83 rfl)
    f_range := He.free_ok X G (c1.fact 84 rfl)
    f_str := He.free_ok X G (c1.fact 85 rfl)
    f_sum := He.free_ok X G (c1.fact 86 rfl)
    f_tuple := He.free_ok X G (c1.fact 87 rfl)
    f_zip := He.free_ok X G (c1.fact 88 rfl)
    d_is_whole := by
      obtain ⟨fd, Fd⟩ := c1.def_ 0 (d := dd16) rfl
      exact ⟨_, fd, Fd, He.glo_ok X G (c1.fact 0 (f := .glo "is_whole") rfl)⟩
    d_is_name := by
      obtain ⟨fd, Fd⟩ := c1.def_ 1 (d := dd17) rfl
      exact ⟨_, fd, Fd, He.glo_ok X G (c1.fact 1 (f := .glo "is_name") rfl)⟩
    d_is_priced := by
      obtain ⟨fd, Fd⟩ := c1.def_ 2 (d := dd18) rfl
      exact ⟨_, fd, Fd, He.glo_ok X G (c1.fact 2 (f := .glo "is_priced") rfl)⟩
    d_first_bad := by
      obtain ⟨fd, Fd⟩ := c1.def_ 3 (d := dd19) rfl
      exact ⟨_, fd, Fd, He.glo_ok X G (c1.fact 3 (f := .glo "first_bad") rfl)⟩
    d_many_of := by
      obtain ⟨fd, Fd⟩ := c1.def_ 4 (d := dd20) rfl
      exact ⟨_, fd, Fd, He.glo_ok X G (c1.fact 4 (f := .glo "many_of") rfl)⟩
    d_wrong_part := by
      obtain ⟨fd, Fd⟩ := c1.def_ 5 (d := dd21) rfl
      exact ⟨_, fd, Fd, He.glo_ok X G (c1.fact 5 (f := .glo "wrong_part") rfl)⟩
    d_is_triple := by
      obtain ⟨fd, Fd⟩ := c1.def_ 6 (d := dd22) rfl
      exact ⟨_, fd, Fd, He.glo_ok X G (c1.fact 6 (f := .glo "is_triple") rfl)⟩
    d_made_ground := by
      obtain ⟨fd, Fd⟩ := c1.def_ 7 (d := dd23) rfl
      exact ⟨_, fd, Fd, He.glo_ok X G (c1.fact 7 (f := .glo "made_ground") rfl)⟩
    d_is_ground := by
      obtain ⟨fd, Fd⟩ := c1.def_ 8 (d := dd24) rfl
      exact ⟨_, fd, Fd, He.glo_ok X G (c1.fact 8 (f := .glo "is_ground") rfl)⟩
    d_all_states := by
      obtain ⟨fd, Fd⟩ := c1.def_ 9 (d := dd25) rfl
      exact ⟨_, fd, Fd, He.glo_ok X G (c1.fact 9 (f := .glo "all_states") rfl)⟩
    d_number_of := by
      obtain ⟨fd, Fd⟩ := c1.def_ 10 (d := dd26) rfl
      exact ⟨_, fd, Fd, He.glo_ok X G (c1.fact 10 (f := .glo "number_of") rfl)⟩
    d_is_state := by
      obtain ⟨fd, Fd⟩ := c1.def_ 11 (d := dd27) rfl
      exact ⟨_, fd, Fd, He.glo_ok X G (c1.fact 11 (f := .glo "is_state") rfl)⟩
    d_want_state := by
      obtain ⟨fd, Fd⟩ := c1.def_ 12 (d := dd28) rfl
      exact ⟨_, fd, Fd, He.glo_ok X G (c1.fact 12 (f := .glo "want_state") rfl)⟩
    d_nought_of := by
      obtain ⟨fd, Fd⟩ := c1.def_ 13 (d := dd29) rfl
      exact ⟨_, fd, Fd, He.glo_ok X G (c1.fact 13 (f := .glo "nought_of") rfl)⟩
    d_price_of := by
      obtain ⟨fd, Fd⟩ := c1.def_ 14 (d := dd30) rfl
      exact ⟨_, fd, Fd, He.glo_ok X G (c1.fact 14 (f := .glo "price_of") rfl)⟩
    d_names_in := by
      obtain ⟨fd, Fd⟩ := c1.def_ 15 (d := dd34) rfl
      exact ⟨_, fd, Fd, He.glo_ok X G (c1.fact 15 (f := .glo "names_in") rfl)⟩
    d_is_worded := by
      obtain ⟨fd, Fd⟩ := c1.def_ 16 (d := dd35) rfl
      exact ⟨_, fd, Fd, He.glo_ok X G (c1.fact 16 (f := .glo "is_worded") rfl)⟩
    d_is_one_of := by
      obtain ⟨fd, Fd⟩ := c1.def_ 17 (d := dd36) rfl
      exact ⟨_, fd, Fd, He.glo_ok X G (c1.fact 17 (f := .glo "is_one_of") rfl)⟩
    d_is_number := by
      obtain ⟨fd, Fd⟩ := c1.def_ 18 (d := dd37) rfl
      exact ⟨_, fd, Fd, He.glo_ok X G (c1.fact 18 (f := .glo "is_number") rfl)⟩
    d_is_test := by
      obtain ⟨fd, Fd⟩ := c1.def_ 19 (d := dd38) rfl
      exact ⟨_, fd, Fd, He.glo_ok X G (c1.fact 19 (f := .glo "is_test") rfl)⟩
    d_is_number_text := by
      obtain ⟨fd, Fd⟩ := c1.def_ 20 (d := dd39) rfl
      exact ⟨_, fd, Fd, He.glo_ok X G (c1.fact 20 (f := .glo "is_number_text") rfl)⟩
    d_is_test_text := by
      obtain ⟨fd, Fd⟩ := c1.def_ 21 (d := dd40) rfl
      exact ⟨_, fd, Fd, He.glo_ok X G (c1.fact 21 (f := .glo "is_test_text") rfl)⟩
    d_worth_in := by
      obtain ⟨fd, Fd⟩ := c1.def_ 22 (d := dd42) rfl
      exact ⟨_, fd, Fd, He.glo_ok X G (c1.fact 22 (f := .glo "worth_in") rfl)⟩
    d_holds := by
      obtain ⟨fd, Fd⟩ := c1.def_ 23 (d := dd43) rfl
      exact ⟨_, fd, Fd, He.glo_ok X G (c1.fact 23 (f := .glo "holds") rfl)⟩
    d_changed := by
      obtain ⟨fd, Fd⟩ := c1.def_ 24 (d := dd44) rfl
      exact ⟨_, fd, Fd, He.glo_ok X G (c1.fact 24 (f := .glo "changed") rfl)⟩
    d_set_in := by
      obtain ⟨fd, Fd⟩ := c1.def_ 25 (d := dd45) rfl
      exact ⟨_, fd, Fd, He.glo_ok X G (c1.fact 25 (f := .glo "set_in") rfl)⟩
    d_is_row_number := by
      obtain ⟨fd, Fd⟩ := c1.def_ 26 (d := dd48) rfl
      exact ⟨_, fd, Fd, He.glo_ok X G (c1.fact 26 (f := .glo "is_row_number") rfl)⟩
    d_size_of := by
      obtain ⟨fd, Fd⟩ := c1.def_ 27 (d := dd49) rfl
      exact ⟨_, fd, Fd, He.glo_ok X G (c1.fact 27 (f := .glo "size_of") rfl)⟩
    d_is_switch := by
      obtain ⟨fd, Fd⟩ := c1.def_ 28 (d := dd50) rfl
      exact ⟨_, fd, Fd, He.glo_ok X G (c1.fact 28 (f := .glo "is_switch") rfl)⟩
    d_is_triple_row := by
      obtain ⟨fd, Fd⟩ := c1.def_ 29 (d := dd51) rfl
      exact ⟨_, fd, Fd, He.glo_ok X G (c1.fact 29 (f := .glo "is_triple_row") rfl)⟩
    d_is_row := by
      obtain ⟨fd, Fd⟩ := c1.def_ 30 (d := dd52) rfl
      exact ⟨_, fd, Fd, He.glo_ok X G (c1.fact 30 (f := .glo "is_row") rfl)⟩
    d_is_code := by
      obtain ⟨fd, Fd⟩ := c1.def_ 31 (d := dd53) rfl
      exact ⟨_, fd, Fd, He.glo_ok X G (c1.fact 31 (f := .glo "is_code") rfl)⟩
    d_name_place := by
      obtain ⟨fd, Fd⟩ := c1.def_ 32 (d := dd55) rfl
      exact ⟨_, fd, Fd, He.glo_ok X G (c1.fact 32 (f := .glo "name_place") rfl)⟩
    d_next_row := by
      obtain ⟨fd, Fd⟩ := c1.def_ 33 (d := dd56) rfl
      exact ⟨_, fd, Fd, He.glo_ok X G (c1.fact 33 (f := .glo "next_row") rfl)⟩
    d_state_behind := by
      obtain ⟨fd, Fd⟩ := c1.def_ 34 (d := dd57) rfl
      exact ⟨_, fd, Fd, He.glo_ok X G (c1.fact 34 (f := .glo "state_behind") rfl)⟩
    d_count_behind := by
      obtain ⟨fd, Fd⟩ := c1.def_ 35 (d := dd58) rfl
      exact ⟨_, fd, Fd, He.glo_ok X G (c1.fact 35 (f := .glo "count_behind") rfl)⟩
    d_run_rows := by
      obtain ⟨fd, Fd⟩ := c1.def_ 36 (d := dd59) rfl
      exact ⟨_, fd, Fd, He.glo_ok X G (c1.fact 36 (f := .glo "run_rows") rfl)⟩
    d_made_code := by
      obtain ⟨fd, Fd⟩ := c1.def_ 37 (d := dd60) rfl
      exact ⟨_, fd, Fd, He.glo_ok X G (c1.fact 37 (f := .glo "made_code") rfl)⟩
    d_run_code := by
      obtain ⟨fd, Fd⟩ := c1.def_ 38 (d := dd61) rfl
      exact ⟨_, fd, Fd, He.glo_ok X G (c1.fact 38 (f := .glo "run_code") rfl)⟩
    d_table_of_code := by
      obtain ⟨fd, Fd⟩ := c1.def_ 39 (d := dd62) rfl
      exact ⟨_, fd, Fd, He.glo_ok X G (c1.fact 39 (f := .glo "table_of_code") rfl)⟩
    d_code_table := by
      obtain ⟨fd, Fd⟩ := c1.def_ 40 (d := dd63) rfl
      exact ⟨_, fd, Fd, He.glo_ok X G (c1.fact 40 (f := .glo "code_table") rfl)⟩
    d_metered := by
      obtain ⟨fd, Fd⟩ := c1.def_ 41 (d := dd64) rfl
      exact ⟨_, fd, Fd, He.glo_ok X G (c1.fact 41 (f := .glo "metered") rfl)⟩
    d_meter := by
      obtain ⟨fd, Fd⟩ := c1.def_ 42 (d := dd65) rfl
      exact ⟨_, fd, Fd, He.glo_ok X G (c1.fact 42 (f := .glo "meter") rfl)⟩
    d__law_pool := by
      obtain ⟨fd, Fd⟩ := c1.def_ 43 (d := dd67) rfl
      exact ⟨_, fd, Fd, He.glo_ok X G (c1.fact 43 (f := .glo "_law_pool") rfl)⟩
    d__law_take := by
      obtain ⟨fd, Fd⟩ := c1.def_ 44 (d := dd68) rfl
      exact ⟨_, fd, Fd, He.glo_ok X G (c1.fact 44 (f := .glo "_law_take") rfl)⟩
    d__law_one := by
      obtain ⟨fd, Fd⟩ := c1.def_ 45 (d := dd69) rfl
      exact ⟨_, fd, Fd, He.glo_ok X G (c1.fact 45 (f := .glo "_law_one") rfl)⟩
    d__law_cost := by
      obtain ⟨fd, Fd⟩ := c1.def_ 46 (d := dd70) rfl
      exact ⟨_, fd, Fd, He.glo_ok X G (c1.fact 46 (f := .glo "_law_cost") rfl)⟩
    d__law_ground := by
      obtain ⟨fd, Fd⟩ := c1.def_ 47 (d := dd71) rfl
      exact ⟨_, fd, Fd, He.glo_ok X G (c1.fact 47 (f := .glo "_law_ground") rfl)⟩
    d__law_states := by
      obtain ⟨fd, Fd⟩ := c1.def_ 48 (d := dd72) rfl
      exact ⟨_, fd, Fd, He.glo_ok X G (c1.fact 48 (f := .glo "_law_states") rfl)⟩
    d__law_place := by
      obtain ⟨fd, Fd⟩ := c1.def_ 49 (d := dd73) rfl
      exact ⟨_, fd, Fd, He.glo_ok X G (c1.fact 49 (f := .glo "_law_place") rfl)⟩
    d__law_number := by
      obtain ⟨fd, Fd⟩ := c1.def_ 50 (d := dd74) rfl
      exact ⟨_, fd, Fd, He.glo_ok X G (c1.fact 50 (f := .glo "_law_number") rfl)⟩
    d__law_holds := by
      obtain ⟨fd, Fd⟩ := c1.def_ 51 (d := dd75) rfl
      exact ⟨_, fd, Fd, He.glo_ok X G (c1.fact 51 (f := .glo "_law_holds") rfl)⟩
    d__law_prices_of := by
      obtain ⟨fd, Fd⟩ := c1.def_ 52 (d := dd76) rfl
      exact ⟨_, fd, Fd, He.glo_ok X G (c1.fact 52 (f := .glo "_law_prices_of") rfl)⟩
    d__law_value := by
      obtain ⟨fd, Fd⟩ := c1.def_ 53 (d := dd77) rfl
      exact ⟨_, fd, Fd, He.glo_ok X G (c1.fact 53 (f := .glo "_law_value") rfl)⟩
    d__law_test := by
      obtain ⟨fd, Fd⟩ := c1.def_ 54 (d := dd78) rfl
      exact ⟨_, fd, Fd, He.glo_ok X G (c1.fact 54 (f := .glo "_law_test") rfl)⟩
    d__law_code_row := by
      obtain ⟨fd, Fd⟩ := c1.def_ 55 (d := dd79) rfl
      exact ⟨_, fd, Fd, He.glo_ok X G (c1.fact 55 (f := .glo "_law_code_row") rfl)⟩
    d__law_code := by
      obtain ⟨fd, Fd⟩ := c1.def_ 56 (d := dd80) rfl
      exact ⟨_, fd, Fd, He.glo_ok X G (c1.fact 56 (f := .glo "_law_code") rfl)⟩
    d__law_next := by
      obtain ⟨fd, Fd⟩ := c1.def_ 57 (d := dd81) rfl
      exact ⟨_, fd, Fd, He.glo_ok X G (c1.fact 57 (f := .glo "_law_next") rfl)⟩
    d__law_code_run := by
      obtain ⟨fd, Fd⟩ := c1.def_ 58 (d := dd82) rfl
      exact ⟨_, fd, Fd, He.glo_ok X G (c1.fact 58 (f := .glo "_law_code_run") rfl)⟩
    d__law_refusal := by
      obtain ⟨fd, Fd⟩ := c1.def_ 59 (d := dd83) rfl
      exact ⟨_, fd, Fd, He.glo_ok X G (c1.fact 59 (f := .glo "_law_refusal") rfl)⟩
    d__law_odd_states := by
      obtain ⟨fd, Fd⟩ := c1.def_ 60 (d := dd84) rfl
      exact ⟨_, fd, Fd, He.glo_ok X G (c1.fact 60 (f := .glo "_law_odd_states") rfl)⟩
    d__law_long_code := by
      obtain ⟨fd, Fd⟩ := c1.def_ 61 (d := dd85) rfl
      exact ⟨_, fd, Fd, He.glo_ok X G (c1.fact 61 (f := .glo "_law_long_code") rfl)⟩
    d__law_long_right := by
      obtain ⟨fd, Fd⟩ := c1.def_ 62 (d := dd86) rfl
      exact ⟨_, fd, Fd, He.glo_ok X G (c1.fact 62 (f := .glo "_law_long_right") rfl)⟩
    d_law := by
      obtain ⟨fd, Fd⟩ := c1.def_ 63 (d := dd87) rfl
      exact ⟨_, fd, Fd, He.glo_ok X G (c1.fact 63 (f := .glo "law") rfl)⟩
    x_BadCode := DLH.exC_ok (l := ["BadCode", "Refused"]) X G e2 (by decide +kernel) tI I B
    x_BadGround := DLH.exC_ok (l := ["BadGround", "Refused"]) X G e2 (by decide +kernel) tI I B
    x_BadState := DLH.exC_ok (l := ["BadState", "Refused"]) X G e2 (by decide +kernel) tI I B
    t_exc := DLH.tabB_ok X G e2 }
end K84
end
section
set_option Elab.async false
set_option linter.all false
set_option maxRecDepth 100000
set_option maxHeartbeats 0
/-! the end -/
namespace K84
open PySem PySem.Spec PyProof.Rows L2 DL
theorem lift_law {K : PySem.W.Frag} {mg : Str → Option Value} {H : Hp} {a : Addr} {ns : List Int} (h : c_law [.lst (ns.map D.int)] [] = .ok (.bl true) []) (hS : SqL K H a (ns.map V.int)) : liftSp K mg c_law [.ref a] H (fun v _ => v = .bl true) fun _ _ _ => False := by
  have r : ∀ ns : List Int, Reps K Ix.none H (ns.map D.int) (ns.map V.int) := fun ns => by
    induction ns with
    | nil => exact .nil
    | cons n ns ih => exact .cons (.int n) ih
  refine ⟨Ix.none, [], [.lst (ns.map D.int)], ⟨rfl, List.nodup_nil, fun b hb => (nomatch hb), fun b hb => False.elim hb, fun n m a h1 => (nomatch h1)⟩, .cons (.lst (hS.elim (fun z => .inl ⟨fun q => q.elim (fun q => nomatch q) fun q => False.elim q, z⟩) .inr) (r ns)) .nil, ?_⟩
  rw [h]
  intro ι' H' _ _ v rv
  cases rv
  rfl
end K84
open PySem PySem.W PySem.Calls PyProof.Rows
theorem K84.holds_of (plain : ∀ ns : List Int, ns.length ≤ 63 → (∀ z ∈ ns, Builtin.Int.intBits z ≤ 1048576) → K84.c_law [.lst (ns.map DL.D.int)] [] = .ok (.bl true) []) : PySem.Challenge.rw_agedlaws_k84_codes_that_come_round.Holds := by
  w_on; o_law
  refine HandSHeadRun.head_any (r := OpenLaw.row PySem.Challenge.rw_agedlaws_k84_codes_that_come_round) (q := view (OpenLaw.row PySem.Challenge.rw_agedlaws_k84_codes_that_come_round).prog [87]) (H := K84.hk) (ob := K84.ob) (M := 20000) (loose := K84.loose) (d := HandSHeadRun.topDef (OpenLaw.row PySem.Challenge.rw_agedlaws_k84_codes_that_come_round).prog 87) (kwd := []) K84.ob_eq
    (by kernel_rfl) (fun s => by kernel_rfl) K84.run (by kernel_rfl) (by kernel_rfl) (by kernel_rfl) (by rfl) (by first | assumption | decide +kernel) (by decide +kernel) ⟨rfl, rfl, rfl, rfl, rfl, by decide +kernel⟩ ?hw ?hc
  case hw => w_witness2
  case hc =>
    refine DLH.walk_ofEB (l := PySem.Challenge.rw_agedlaws_k84_codes_that_come_round) (n := 63) (k := 25) (x := "script") (CX := fun w => L2.CX (PySem.Challenge.rw_agedlaws_k84_codes_that_come_round).prog w) rfl (by decide) (by kernel_rfl) ⟨rfl, by decide, by decide⟩ ?F (fun _ _ _ _ _ z => by
      obtain ⟨_, _, _, _, _, _, _, _, _, _, _, _, z⟩ := z
      exact z.elim)
    intro w mg fa h Y G hmg0
    obtain ⟨K, KX, c⟩ := Y
    have hmg : mg ("law" : PySem.Str) = some (.ref fa) := by
      have e : (HandSHeadRun.topDef (OpenLaw.row PySem.Challenge.rw_agedlaws_k84_codes_that_come_round).prog 87).name = ("law" : PySem.Str) := by kernel_rfl
      rw [← e]
      exact hmg0
    obtain ⟨f, fd, Df, hm⟩ := (K84.fx (w := w) (base := h) KX G c).d_law
    have e := hm.symm.trans hmg
    cases e
    have b := L2.FunD.bindsA (ps := ["script"]) Df fun _ _ _ _ _ _ us hl => match us, hl with | [_], _ => rfl
    exact ⟨K, fd, DL.liftSp K mg K84.c_law, KX, fun s v => b s [v] rfl, fun H a ns hl hb _ hS => K84.lift_law (plain ns hl hb) hS, fun base KB GB => K84.ok_law (K84.fx KB GB c) Df⟩
end
section
set_option Elab.async false
set_option linter.all false
set_option maxRecDepth 100000
set_option maxHeartbeats 4000000
/-! plain: words -/
namespace K84
open PySem PySem.Spec PyProof.Rows L2 DL
/-- step through what a piece does -/
local macro_rules | `(tactic| walk_at "ev") => `(tactic| skip)
theorem gcOk_self {S : Store} {d : D} (h : clD S.length d = true) : gcOk S d S := ⟨h, fun _ _ _ e => .inl e⟩
theorem gcOk_app {S J : Store} {d : D} (h : clD S.length d = true) : gcOk S d (S ++ J) := ⟨h, fun n m hn e => .inl (by rwa [List.getElem?_append_left hn] at e)⟩
mutual
theorem cl_pure {k : Nat} : ∀ d : D, pureD d = true → clD k d = true
  | .non, _ => rfl
  | .bl _, _ => rfl
  | .int _, _ => rfl
  | .str _, _ => rfl
  | .tup ds, h => cls_pure ds h
  | .lst ds, h => cls_pure ds h
  | .ref _, h => by simp [pureD] at h
  | .exn _ _, h => by simp [pureD] at h
theorem cls_pure {k : Nat} : ∀ ds : List D, pureDs ds = true → clDs k ds = true
  | [], _ => rfl
  | d :: ds, h => by
    have h' : (pureD d && pureDs ds) = true := h
    rw [Bool.and_eq_true] at h'
    show (clD k d && clDs k ds) = true
    rw [cl_pure d h'.1, cls_pure ds h'.2]
    rfl
end
theorem fn_rt {np nN : Nat} {body : DEnv → Store → R Fl} {ds : List D} {S : Store} {d : D} (hc : pureD d = true) (h : body (startD nN ds) S = .ok (.rt d) S) (hn : ds.length = np := by rfl) : fnR .pl np nN body ds S = .ok d S := by
  unfold fnR
  rw [if_pos hn, h, bind_ok]
  show gcV S d S .pl = _
  unfold gcV
  rw [if_pos (gcOk_self (cl_pure d hc)), List.take_length]
theorem fn_rtJ {np nN : Nat} {body : DEnv → Store → R Fl} {ds : List D} {S : Store} {d : D} (J : Store) (hc : pureD d = true) (h : body (startD nN ds) S = .ok (.rt d) (S ++ J)) (hn : ds.length = np := by rfl) : fnR .pl np nN body ds S = .ok d S := by
  unfold fnR
  rw [if_pos hn, h, bind_ok]
  show gcV S d (S ++ J) .pl = _
  unfold gcV
  rw [if_pos (gcOk_app (cl_pure d hc)), List.take_left]
/-! ### comprehensions over what is made from a plain list -/
theorem compGo_map {α : Type} {chk : Store → Prop} {tg : D → DEnv → Store → R DEnv} {ft : DEnv → Store → R Bool} {fe : DEnv → Store → R D} {δ : DEnv} {S : Store} (f g : α → D) (p : α → Bool) (hc : chk S) : ∀ xs : List α,
    (∀ x ∈ xs, ∃ δ1, tg (f x) δ S = .ok δ1 S ∧ ft δ1 S = .ok (p x) S ∧ (p x = true → fe δ1 S = .ok (g x) S)) → compGo chk tg ft fe δ (xs.map f) S = .ok ((xs.filter p).map g) S
  | [], _ => by
    unfold compGo
    rw [List.map_nil]
    simp only
    rw [if_pos hc]
    rfl
  | x :: xs, h => by
    obtain ⟨δ1, h1, h2, h3⟩ := h x (List.mem_cons_self ..)
    have ih := compGo_map (tg := tg) (ft := ft) (fe := fe) (δ := δ) f g p hc xs fun y hy => h y (List.mem_cons_of_mem _ hy)
    rw [List.map_cons]
    unfold compGo
    rw [if_pos hc, h1, bind_ok, h2, bind_ok]
    cases hp : p x with
    | true =>
      rw [if_pos rfl, h3 hp, bind_ok, ih, bind_ok, List.filter_cons, if_pos hp]
      rfl
    | false => rw [if_neg (by decide), ih, List.filter_cons, if_neg (by simp [hp])]
theorem comp_map {α : Type} {vs : List Nat} {fi : DEnv → Store → R Itm} {tg : D → DEnv → Store → R DEnv} {ft : DEnv → Store → R Bool} {fe : DEnv → Store → R D} {δ : DEnv} {S : Store} {xs : List α} {m : Itm} (f g : α → D) (p : α → Bool)
    (hi : fi δ S = .ok m S) (hm : m.items = xs.map f) (hc : m.chk S) (h : ∀ x ∈ xs, ∃ δ1, tg (f x) (wipeD δ vs) S = .ok δ1 S ∧ ft δ1 S = .ok (p x) S ∧ (p x = true → fe δ1 S = .ok (g x) S)) (hl : xs.length ≤ sizeLine) :
    evComp vs fi tg ft fe δ S = .ok ((xs.filter p).map g) S := by
  unfold evComp
  rw [hi, bind_ok, hm, compGo_map f g p hc xs h]
  simp only [noX, bind_ok]
  rw [if_pos]
  rw [List.length_map]
  exact Nat.le_trans (List.length_filter_le _ _) hl
/-- without a test -/
theorem comp_all {α : Type} {vs : List Nat} {fi : DEnv → Store → R Itm} {tg : D → DEnv → Store → R DEnv} {fe : DEnv → Store → R D} {δ : DEnv} {S : Store} {xs : List α} {m : Itm} (f g : α → D)
    (hi : fi δ S = .ok m S) (hm : m.items = xs.map f) (hc : m.chk S) (h : ∀ x ∈ xs, ∃ δ1, tg (f x) (wipeD δ vs) S = .ok δ1 S ∧ fe δ1 S = .ok (g x) S) (hl : xs.length ≤ sizeLine) :
    evComp vs fi tg evYes fe δ S = .ok (xs.map g) S := by
  have z := comp_map (ft := evYes) (vs := vs) (tg := tg) (fe := fe) f g (fun _ => true) hi hm hc (fun x hx => by
    obtain ⟨δ1, h1, h2⟩ := h x hx
    exact ⟨δ1, h1, rfl, fun _ => h2⟩) hl
  rw [z, List.filter_eq_self.mpr fun _ _ => rfl]
theorem blsOf_of {α : Type} (q : α → Bool) (xs : List α) : blsOf (xs.map fun x => D.bl (q x)) = some (xs.map q) := by
  rw [← blsOf_map (xs.map q), List.map_map]
  rfl
theorem intsOf_of {α : Type} (q : α → Int) (xs : List α) : intsOf (xs.map fun x => D.int (q x)) = some (xs.map q) := by
  rw [← intsOf_map (xs.map q), List.map_map]
  rfl
/-! ### equality -/
mutual
theorem eqv_self : ∀ d : D, pureD d = true → PyData.eqv (toPy d) (toPy d) = true
  | .non, _ => rfl
  | .bl b, _ => by simp [toPy, PyData.eqv]
  | .int i, _ => by simp [toPy, PyData.eqv]
  | .str x, _ => by simp [toPy, PyData.eqv]
  | .tup ds, h => by
    show PyData.eqvAll (toPys ds) (toPys ds) = true
    exact eqvs_self ds h
  | .lst ds, h => by
    show PyData.eqvAll (toPys ds) (toPys ds) = true
    exact eqvs_self ds h
  | .ref _, h => by simp [pureD] at h
  | .exn _ _, h => by simp [pureD] at h
theorem eqvs_self : ∀ ds : List D, pureDs ds = true → PyData.eqvAll (toPys ds) (toPys ds) = true
  | [], _ => rfl
  | d :: ds, h => by
    have h' : (pureD d && pureDs ds) = true := h
    rw [Bool.and_eq_true] at h'
    show (PyData.eqv (toPy d) (toPy d) && PyData.eqvAll (toPys ds) (toPys ds)) = true
    rw [eqv_self d h'.1, eqvs_self ds h'.2]
    rfl
end
/-- pure, texts laid, not deeper than n -/
def okN : Nat → D → Bool
  | _, .non => true
  | _, .bl _ => true
  | _, .int _ => true
  | _, .str z => PyData.strOk z
  | 0, .tup _ => false
  | 0, .lst _ => false
  | n + 1, .tup xs => xs.all (okN n)
  | n + 1, .lst xs => xs.all (okN n)
  | _, .ref _ => false
  | _, .exn _ _ => false
mutual
theorem okN_ok : ∀ (n : Nat) (d : D), okN n d = true → pureD d = true ∧ (toPy d).canLay0 = true ∧ (toPy d).depth ≤ n
  | n, .non, _ => ⟨rfl, by simp [toPy, PyData.canLay0], Nat.zero_le _⟩
  | n, .bl b, _ => ⟨rfl, by simp [toPy, PyData.canLay0], Nat.zero_le _⟩
  | n, .int i, _ => ⟨rfl, by simp [toPy, PyData.canLay0], Nat.zero_le _⟩
  | n, .str x, h => ⟨rfl, by
      have h' : PyData.strOk x = true := by cases n <;> exact h
      simpa [toPy, PyData.canLay0] using h', Nat.zero_le _⟩
  | 0, .tup ds, h => by simp [okN] at h
  | 0, .lst ds, h => by simp [okN] at h
  | n + 1, .tup ds, h => by
    obtain ⟨h1, h2, h3⟩ := okNs_ok n ds h
    exact ⟨h1, by simpa [toPy, PyData.canLay0] using h2, Nat.succ_le_succ h3⟩
  | n + 1, .lst ds, h => by
    obtain ⟨h1, h2, h3⟩ := okNs_ok n ds h
    exact ⟨h1, by simpa [toPy, PyData.canLay0] using h2, Nat.succ_le_succ h3⟩
  | n, .ref _, h => by cases n <;> simp [okN] at h
  | n, .exn _ _, h => by cases n <;> simp [okN] at h
theorem okNs_ok : ∀ (n : Nat) (ds : List D), ds.all (okN n) = true → pureDs ds = true ∧ PyData.canLayAll0 (toPys ds) = true ∧ PyData.depthAll (toPys ds) ≤ n
  | n, [], _ => ⟨rfl, rfl, Nat.zero_le _⟩
  | n, d :: ds, h => by
    rw [List.all_cons, Bool.and_eq_true] at h
    obtain ⟨a1, a2, a3⟩ := okN_ok n d h.1
    obtain ⟨b1, b2, b3⟩ := okNs_ok n ds h.2
    refine ⟨?_, ?_, Nat.max_le.mpr ⟨a3, b3⟩⟩
    · show (pureD d && pureDs ds) = true
      rw [a1, b1]; rfl
    · show (PyData.canLay0 (toPy d) && PyData.canLayAll0 (toPys ds)) = true
      rw [a2, b2]; rfl
end
theorem okD_of {n : Nat} {d : D} (h : okN n d = true) (hn : n ≤ 64) : okD d = true := by
  obtain ⟨h1, h2, h3⟩ := okN_ok n d h
  unfold okD SeqAt.shaped
  rw [h1, h2, decide_eq_true (Nat.le_trans h3 hn)]
  rfl
theorem pure_of {n : Nat} {d : D} (h : okN n d = true) : pureD d = true := (okN_ok n d h).1
theorem okN_up : ∀ {n m : Nat} {d : D}, okN n d = true → n ≤ m → okN m d = true := by
  intro n
  induction n with
  | zero => intro m d h hm; cases d <;> cases m <;> simp_all [okN]
  | succ n ih =>
    intro m d h hm
    obtain ⟨m, rfl⟩ : ∃ k, m = k + 1 := ⟨m - 1, by omega⟩
    cases d with
    | tup ds =>
      simp only [okN, List.all_eq_true] at h ⊢
      exact fun x hx => ih (h x hx) (by omega)
    | lst ds =>
      simp only [okN, List.all_eq_true] at h ⊢
      exact fun x hx => ih (h x hx) (by omega)
    | _ => simp_all [okN]
theorem eqD_self {d : D} (h : pureD d = true) : eqD d d = true := eqv_self d h
theorem eqD_str (a b : Str) : eqD (.str a) (.str b) = (a == b) := rfl
theorem eqD_int (a b : Int) : eqD (.int a) (.int b) = (a == b) := rfl
end K84
end
section
set_option Elab.async false
set_option linter.all false
set_option maxRecDepth 100000
set_option maxHeartbeats 4000000
/-! plain: grounds -/
namespace K84
open PySem PySem.Spec PyProof.Rows L2 DL
local macro_rules | `(tactic| walk_at "ev") => `(tactic| simp only [evSeq, evIfS, evRet, evRetN, evVar, evC, evBin, evUn, p2, evNil, evCons, evTup, evLst, evNew, evTest, evAndT, evOrT, evNotT, evAnd, evOr, evNot, evIte, evIteT, evTruth, evChain, evCall, evCallO, evIsi, evAsg, evDrop, evMk, mkI, mkN, evNext, tgN, tgTup, tgCons, tgNil, asB, dTruth, notRef, isiD, bLen, oLe, oLt, oGe, oGt, oSub, oInt, oAdd, oIsN, oNotN, DL.isNon,
  bind_ok, bind_bad, ofO_some, ofO_none, Option.map_some, Option.map_none, List.getElem?_cons_zero, List.getElem?_cons_succ, List.set_cons_zero, List.set_cons_succ, List.length_cons, List.length_nil, if_true, if_false, Bool.false_eq_true, Bool.not_true, Bool.not_false, decide_true, decide_false, and_self, reduceIte, *])
def isIntD : D → Bool
  | .int _ => true
  | _ => false
theorem is_whole_d {d : D} {S : Store} (h : notRef d = true) : c_is_whole [d] S = .ok (.bl (isIntD d)) S := by
  refine fn_rt rfl ?_
  unfold b_is_whole
  cases d <;> first | (simp [notRef] at h; done) | rfl
theorem is_whole_int {n : Int} {S : Store} : c_is_whole [.int n] S = .ok (.bl true) S := is_whole_d rfl
/-! names -/
def lettersT : Str := "abcdefghijklmnopqrstuvwxyz"
def figuresT : Str := "0123456789"
def reservedT : List Str := ["cells", "deeds", "exits", "if", "else", "while", "catch", "exit", "and", "or", "not", "law"]
def isLet (c : Nat) : Bool := decide (c ∈ lettersT.cps.toList)
def isFig (c : Nat) : Bool := decide (c ∈ figuresT.cps.toList)
def nameOk (z : Str) : Bool := decide (1 ≤ z.length) && (decide (z.length ≤ 12) && (!(reservedT.contains z) && ((match z.cps.toList with
  | c :: _ => isLet c
  | [] => false) && z.cps.toList.all fun c => isLet c || isFig c)))
theorem in_strs (z : Str) (zs : List Str) : inD (.str z) (zs.map D.str) = zs.contains z := by
  unfold inD
  rw [List.any_map, List.contains_eq_any_beq]
  congr 1
  funext y
  show eqV (.str y) (.str z) = (z == y)
  show (y == z) = (z == y)
  rw [Bool.beq_comm]
theorem flat_strs (zs : List Str) : (zs.map D.str).all flatD = true := by
  rw [List.all_map]
  exact List.all_eq_true.mpr fun _ _ => rfl
theorem mem_strs (z : Str) (zs : List Str) (S : Store) : memD false (.str z) (.tup (zs.map D.str)) S = some (.bl (zs.contains z), S) := by
  show (if flatD (.str z) = true ∧ (zs.map D.str).all flatD = true then some (D.bl (false ^^ inD (.str z) (zs.map D.str)), S) else none) = _
  rw [if_pos ⟨rfl, flat_strs zs⟩, in_strs, Bool.false_xor]
theorem mem_let (c : Nat) (S : Store) : memD false (.str ⟨#[c]⟩) (.str "abcdefghijklmnopqrstuvwxyz") S = some (.bl (isLet c), S) := by
  show some (D.bl (false ^^ isLet c), S) = _
  rw [Bool.false_xor]
theorem mem_fig (c : Nat) (S : Store) : memD false (.str ⟨#[c]⟩) (.str "0123456789") S = some (.bl (isFig c), S) := by
  show some (D.bl (false ^^ isFig c), S) = _
  rw [Bool.false_xor]
theorem is_name_ok {z : Str} {S : Store} (h : nameOk z = true) : c_is_name [.str z] S = .ok (.bl true) S := by
  unfold nameOk at h
  simp only [Bool.and_eq_true, decide_eq_true_eq, Bool.not_eq_true'] at h
  obtain ⟨h1, h2, h3, h4, h5⟩ := h
  refine fn_rt rfl ?_
  unfold b_is_name
  have hz : z.length ≤ sizeLine := Nat.le_trans h2 (by decide)
  have l1 : ((1 : Int) ≤ (z.length : Nat)) := by omega
  have l2 : ((z.length : Nat) : Int) ≤ 12 := by omega
  have r1 := mem_strs z reservedT S
  rw [h3] at r1
  obtain ⟨c, r, hc⟩ : ∃ c r, z.cps.toList = c :: r := by
    cases q : z.cps.toList with
    | nil => rw [q] at h4; cases h4
    | cons c r => exact ⟨c, r, rfl⟩
  have hall : evComp [1] (itSeq (evVar 0)) (tgN 1) evYes (evOr (evBin (memD false) (evVar 1) (evC (.str "abcdefghijklmnopqrstuvwxyz"))) (evBin (memD false) (evVar 1) (evC (.str "0123456789")))) [some (.str z), none] S = .ok (z.cps.toList.map fun c => D.bl (isLet c || isFig c)) S := by
    refine comp_all (fun c => D.str ⟨#[c]⟩) _ rfl rfl trivial (fun x hx => ⟨_, rfl, ?_⟩) (by show z.cps.toList.length ≤ sizeLine; rw [Array.length_toList]; exact hz)
    cases q1 : isLet x <;> simp [evOr, evBin, evVar, evC, wipeD, mem_let, mem_fig, q1]
  have h5' : (z.cps.toList.map fun c => isLet c || isFig c).all id = true := by
    rw [List.all_map]
    exact h5
  have hi : ixD (.str z) (.int 0) S = some (.str ⟨#[c]⟩, S) := by
    show (if z.length ≤ sizeLine then (L2.atI z.cps.toList 0).map fun c => (D.str ⟨#[c]⟩, S) else none) = _
    rw [if_pos hz, hc]
    simp [L2.atI, L2.ixN]
  have h4' : isLet c = true := by rw [hc] at h4; exact h4
  have m1 := mem_let c S
  rw [h4'] at m1
  show evSeq _ _ [some (.str z), none] S = _
  unfold reservedT at r1
  have hA : bAll [.lst (z.cps.toList.map fun c => D.bl (isLet c || isFig c))] S = some (.bl true, S) := by
    show ((some (z.cps.toList.map fun c => D.bl (isLet c || isFig c))).bind fun xs => (blsOf xs).map fun bs => (D.bl (bs.all id), S)) = _
    rw [Option.bind_some, blsOf_of, Option.map_some, h5']
  have b1 : decide ((1 : Int) ≤ (z.length : Nat)) = true := decide_eq_true l1
  have b2 : decide (((z.length : Nat) : Int) ≤ 12) = true := decide_eq_true l2
  clear hc h4 h5
  walk_at "ev"
/-! ### grounds -/
structure Gr where
  cells : List (Str × Nat)
  kinds : List (Str × Int)
  exits : List Str
def cellD (p : Str × Nat) : D := .tup [.str p.1, .int (p.2 : Nat)]
def kindD (p : Str × Int) : D := .tup [.str p.1, .int p.2]
def grD (g : Gr) : D := .tup [.tup (g.cells.map cellD), .tup (g.kinds.map kindD), .tup (g.exits.map D.str)]
theorem is_priced_ok {z : Str} {n most : Int} {S : Store} (h : nameOk z = true) (h1 : 1 ≤ n) (h2 : n ≤ most) : c_is_priced [.tup [.str z, .int n], .int most] S = .ok (.bl true) S := by
  refine fn_rt rfl ?_
  unfold b_is_priced
  have e1 : ixD (.tup [.str z, .int n]) (.int 0) S = some (.str z, S) := rfl
  have e2 : ixD (.tup [.str z, .int n]) (.int 1) S = some (.int n, S) := rfl
  have e3 := is_name_ok (S := S) h
  have e4 := is_whole_int (n := n) (S := S)
  have e5 : oNe (.int ((2 : Nat) : Int)) (.int 2) S = some (.bl false, S) := rfl
  have b1 : decide ((1 : Int) ≤ n) = true := decide_eq_true h1
  have b2 : decide (n ≤ most) = true := decide_eq_true h2
  show evSeq _ _ [some _, some _] S = _
  walk_at "ev"
end K84
end
section
set_option Elab.async false
set_option linter.all false
set_option maxRecDepth 100000
set_option maxHeartbeats 4000000
/-! plain: grounds 2 -/
namespace K84
open PySem PySem.Spec PyProof.Rows L2 DL
local macro_rules | `(tactic| walk_at "ev") => `(tactic| simp only [evSeq, evIfS, evRet, evRetN, evVar, evC, evBin, evUn, p2, evNil, evCons, evTup, evLst, evNew, evTest, evAndT, evOrT, evNotT, evAnd, evOr, evNot, evIte, evIteT, evTruth, evChain, evCall, evCallO, evIsi, evAsg, evDrop, evMk, mkI, mkN, evNext, tgN, tgTup, tgCons, tgNil, asB, dTruth, notRef, isiD, bLen, oLe, oLt, oGe, oGt, oSub, oInt, oAdd, oIsN, oNotN, DL.isNon,
  bind_ok, bind_bad, ofO_some, ofO_none, Option.map_some, Option.map_none, List.getElem?_cons_zero, List.getElem?_cons_succ, List.set_cons_zero, List.set_cons_succ, List.length_cons, List.length_nil, if_true, if_false, Bool.false_eq_true, Bool.not_true, Bool.not_false, decide_true, decide_false, and_self, reduceIte, *])

theorem gcOk_last {S : Store} {m m' : M} {d : D} (hd : pureD d = true) (hm : clM (S.length + 1) m' = true) : gcOk (S ++ [m]) d (S ++ [m']) := by
  refine ⟨cl_pure d hd, fun n x hn e => ?_⟩
  rw [List.length_append, List.length_singleton] at hn
  by_cases h : n < S.length
  · rw [List.getElem?_append_left h] at e ⊢
    exact .inl e
  · have : n = S.length := by omega
    subst this
    right
    simp only [List.getElem?_append_right (Nat.le_refl _), Nat.sub_self, List.getElem?_cons_zero, Option.some.injEq] at e
    subst e
    rw [List.length_append, List.length_singleton]
    exact hm
theorem fn_last {np nN : Nat} {body : DEnv → Store → R Fl} {ds : List D} {S : Store} {m m' : M} {d : D} {fl : Fl} (hd : pureD d = true) (hm : clM (S.length + 1) m' = true) (h : body (startD nN ds) (S ++ [m]) = .ok fl (S ++ [m'])) (hf : fl = .rt d ∨ (d = .non ∧ ∃ δ, fl = .nx δ)) (hn : ds.length = np := by rfl) : fnR .pl np nN body ds (S ++ [m]) = .ok d (S ++ [m']) := by
  unfold fnR
  rw [if_pos hn, h, bind_ok]
  have e : (S ++ [m']).take (S ++ [m]).length = S ++ [m'] := List.take_of_length_le (by simp)
  rcases hf with rfl | ⟨rfl, δ, rfl⟩
  · show gcV (S ++ [m]) d (S ++ [m']) .pl = _
    unfold gcV
    rw [if_pos (gcOk_last hd hm), e]
  · show gcV (S ++ [m]) .non (S ++ [m']) .pl = _
    unfold gcV
    rw [if_pos (gcOk_last hd hm), e]
theorem cls_strs {k : Nat} (zs : List Str) : clDs k (zs.map D.str) = true := cls_pure _ (by
  induction zs with
  | nil => rfl
  | cons z zs ih => show (pureD (.str z) && pureDs (zs.map D.str)) = true; rw [ih]; rfl)
theorem get_last {S : Store} {m : M} : (S ++ [m])[S.length]? = some m := by simp
theorem set_last {S : Store} {m m' : M} : (S ++ [m]).set S.length m' = S ++ [m'] := by simp
theorem seq_nx {f g : DEnv → Store → R Fl} {δ δ1 : DEnv} {S S1 : Store} (h : f δ S = .ok (.nx δ1) S1) : evSeq f g δ S = g δ1 S1 := by
  unfold evSeq
  rw [h, bind_ok]
theorem seq_rt {f g : DEnv → Store → R Fl} {δ : DEnv} {v : D} {S S1 : Store} (h : f δ S = .ok (.rt v) S1) : evSeq f g δ S = .ok (.rt v) S1 := by
  unfold evSeq
  rw [h, bind_ok]
theorem for_eq {fi : DEnv → Store → R Itm} {tg : D → DEnv → Store → R DEnv} {body : DEnv → Store → R Fl} {δ : DEnv} {S S1 : Store} {m : Itm} (h : fi δ S = .ok m S1) : evFor fi tg body δ S = forGo m.chk tg body m.items δ S1 := by
  unfold evFor
  rw [h, bind_ok]
theorem forGo_nil {chk : Store → Prop} {tg : D → DEnv → Store → R DEnv} {body : DEnv → Store → R Fl} {δ : DEnv} {S : Store} (hc : chk S) : forGo chk tg body [] δ S = .ok (.nx δ) S := by
  unfold forGo
  rw [if_pos hc]
theorem forGo_nx {chk : Store → Prop} {tg : D → DEnv → Store → R DEnv} {body : DEnv → Store → R Fl} {d : D} {ds : List D} {δ δ1 δ2 : DEnv} {S S1 S2 : Store} (hc : chk S) (h1 : tg d δ S = .ok δ1 S1) (h2 : body δ1 S1 = .ok (.nx δ2) S2) : forGo chk tg body (d :: ds) δ S = forGo chk tg body ds δ2 S2 := by
  conv => lhs; unfold forGo
  rw [if_pos hc, h1, bind_ok, h2, bind_ok]
theorem forGo_rt {chk : Store → Prop} {tg : D → DEnv → Store → R DEnv} {body : DEnv → Store → R Fl} {d v : D} {ds : List D} {δ δ1 : DEnv} {S S1 S2 : Store} (hc : chk S) (h1 : tg d δ S = .ok δ1 S1) (h2 : body δ1 S1 = .ok (.rt v) S2) : forGo chk tg body (d :: ds) δ S = .ok (.rt v) S2 := by
  conv => lhs; unfold forGo
  rw [if_pos hc, h1, bind_ok, h2, bind_ok]
/-- an entry of a ground's part: a pair with its bound, or a text -/
def entOk (most : Option Int) (x : D) (z : Str) : Prop := nameOk z = true ∧ match most with
  | some b => ∃ n : Int, x = .tup [.str z, .int n] ∧ 1 ≤ n ∧ n ≤ b
  | none => x = .str z
def mostD : Option Int → D
  | some b => .int b
  | none => .non
theorem mem_met (z : Str) (S : Store) (ms : List Str) : memD false (.str z) (.ref S.length) (S ++ [M.lst (ms.map D.str)]) = some (.bl (ms.contains z), S ++ [M.lst (ms.map D.str)]) := by
  show (match (S ++ [M.lst (ms.map D.str)])[S.length]? with
    | some (M.lst xs) => if flatD (.str z) = true ∧ xs.all flatD = true then some (D.bl (false ^^ inD (.str z) xs), S ++ [M.lst (ms.map D.str)]) else none
    | _ => none) = _
  rw [get_last]
  show (if flatD (.str z) = true ∧ (ms.map D.str).all flatD = true then some (D.bl (false ^^ inD (.str z) (ms.map D.str)), S ++ [M.lst (ms.map D.str)]) else none) = _
  rw [if_pos ⟨rfl, flat_strs ms⟩, in_strs, Bool.false_xor]
theorem app_met (z : Str) (S : Store) (ms : List Str) (hl : ms.length < sizeLine) : mAppend (.ref S.length) [D.str z] (S ++ [M.lst (ms.map D.str)]) = some (.non, S ++ [M.lst ((ms ++ [z]).map D.str)]) := by
  show (match (S ++ [M.lst (ms.map D.str)])[S.length]? with
    | some (M.lst xs) => if xs.length < sizeLine then some (D.non, (S ++ [M.lst (ms.map D.str)]).set S.length (M.lst (xs ++ [D.str z]))) else none
    | _ => none) = _
  rw [get_last]
  show (if (ms.map D.str).length < sizeLine then some (D.non, (S ++ [M.lst (ms.map D.str)]).set S.length (M.lst (ms.map D.str ++ [D.str z]))) else none) = _
  rw [if_pos (by rw [List.length_map]; exact hl), set_last, List.map_append]
  rfl
theorem first_bad_ok {S : Store} (most : Option Int) : ∀ (es : List D) (zs ms : List Str), es.length = zs.length → (∀ (i : Nat) x z, es[i]? = some x → zs[i]? = some z → entOk most x z) → (ms ++ zs).Nodup → (ms ++ zs).length ≤ 1000 →
    c_first_bad [.ref S.length, .tup es, mostD most] (S ++ [M.lst (ms.map D.str)]) = .ok .non (S ++ [M.lst ((ms ++ zs).map D.str)]) := by
  intro es0 zs0 ms0 hl0 he0 hn0 hz0
  have main : ∀ (es : List D) (j : Nat) (zs ms : List Str) (i0 en nm : Option D), es.length = zs.length → (∀ (i : Nat) x z, es[i]? = some x → zs[i]? = some z → entOk most x z) → (ms ++ zs).Nodup → (ms ++ zs).length ≤ 1000 →
      ∃ δ', forGo (fun _ => True) (tgTup 2 (tgCons (tgN 3) (tgCons (tgN 4) tgNil))) (evSeq (evIfS (evNotT (evIteT (evTest (evBin oIsN (evVar 2) (evC .non))) (evTruth (evCall c_is_name (evCons (evVar 4) evNil))) (evTruth (evCall c_is_priced (evCons (evVar 4) (evCons (evVar 2) evNil)))))) (evRet (evVar 3)) evNext)
    (evSeq (evAsg (evIte (evTest (evBin oIsN (evVar 2) (evC .non))) (evVar 4) (evBin ixD (evVar 4) (evC (.int 0)))) (tgN 5))
    (evSeq (evIfS (evTest (evBin (memD false) (evVar 5) (evVar 0))) (evRet (evVar 3)) evNext)
    (evDrop (evMeth mAppend (evVar 0) (evCons (evVar 5) evNil)))))) (enumD j es) [some (.ref S.length), some (.tup es0), some (mostD most), i0, en, nm] (S ++ [M.lst (ms.map D.str)]) = .ok (.nx δ') (S ++ [M.lst ((ms ++ zs).map D.str)]) := by
    intro es
    induction es with
    | nil =>
      intro j zs ms i0 en nm hl he hn hz
      cases zs with
      | cons _ _ => simp at hl
      | nil =>
        refine ⟨[some (.ref S.length), some (.tup es0), some (mostD most), i0, en, nm], ?_⟩
        unfold enumD
        rw [forGo_nil trivial, List.append_nil]
    | cons e es ih =>
      intro j zs ms i0 en nm hl he hn hz
      cases zs with
      | nil => simp at hl
      | cons z zs =>
        have hz' : (ms ++ [z] ++ zs).length ≤ 1000 := by simpa using hz
        obtain ⟨δ', ih⟩ := ih (j + 1) zs (ms ++ [z]) (some (.int j)) (some e) (some (.str z)) (by simpa using hl) (fun i x y h1 h2 => he (i + 1) x y (by simpa using h1) (by simpa using h2)) (by simpa using hn) hz'
        refine ⟨δ', ?_⟩
        obtain ⟨n1, n2⟩ := he 0 e z rfl rfl
        have hc : ms.contains z = false := by
          have := List.nodup_append.mp hn
          have q := this.2.2
          cases hb : ms.contains z with
          | false => rfl
          | true => exact absurd rfl (q z (by simpa using hb) z (List.mem_cons_self ..))
        have e1 := mem_met z S ms
        rw [hc] at e1
        have e2 := app_met z S ms (by rw [sizeLine_eq]; rw [List.length_append] at hz; omega)
        have e3 : (lstOf (S ++ [M.lst (ms.map D.str)]) (.ref S.length)).isSome = true := by
          show (match (S ++ [M.lst (ms.map D.str)])[S.length]? with
            | some (M.lst xs) => some xs
            | _ => none).isSome = true
          rw [get_last]
          rfl
        have hb : (evSeq (evIfS (evNotT (evIteT (evTest (evBin oIsN (evVar 2) (evC .non))) (evTruth (evCall c_is_name (evCons (evVar 4) evNil))) (evTruth (evCall c_is_priced (evCons (evVar 4) (evCons (evVar 2) evNil)))))) (evRet (evVar 3)) evNext)
            (evSeq (evAsg (evIte (evTest (evBin oIsN (evVar 2) (evC .non))) (evVar 4) (evBin ixD (evVar 4) (evC (.int 0)))) (tgN 5))
            (evSeq (evIfS (evTest (evBin (memD false) (evVar 5) (evVar 0))) (evRet (evVar 3)) evNext)
            (evDrop (evMeth mAppend (evVar 0) (evCons (evVar 5) evNil)))))) [some (.ref S.length), some (.tup es0), some (mostD most), some (.int j), some e, nm] (S ++ [M.lst (ms.map D.str)]) =
            .ok (.nx [some (.ref S.length), some (.tup es0), some (mostD most), some (.int j), some e, some (.str z)]) (S ++ [M.lst ((ms ++ [z]).map D.str)]) := by
          clear ih hz hn he hl hz' hc he0 hn0 hz0 hl0
          cases most with
          | none =>
            have n2 : e = .str z := n2
            subst n2
            have e4 := is_name_ok (S := S ++ [M.lst (ms.map D.str)]) n1
            unfold mostD
            have e5 : oIsN .non .non (S ++ [M.lst (ms.map D.str)]) = some (.bl true, S ++ [M.lst (ms.map D.str)]) := rfl
            clear n1
            walk_at "ev"
            simp only [evMeth, evVar, evCons, evNil, List.getElem?_cons_zero, List.getElem?_cons_succ, bind_ok, e3, e2, if_true, ofO_some]
          | some b =>
            obtain ⟨n, n2, n3, n4⟩ := n2
            subst n2
            have e4 := is_priced_ok (S := S ++ [M.lst (ms.map D.str)]) n1 n3 n4
            unfold mostD
            have e5 : oIsN (.int b) .non (S ++ [M.lst (ms.map D.str)]) = some (.bl false, S ++ [M.lst (ms.map D.str)]) := rfl
            have e6 : ixD (.tup [.str z, .int n]) (.int 0) (S ++ [M.lst (ms.map D.str)]) = some (.str z, S ++ [M.lst (ms.map D.str)]) := rfl
            clear n1 n3 n4
            walk_at "ev"
            simp only [evMeth, evVar, evCons, evNil, List.getElem?_cons_zero, List.getElem?_cons_succ, bind_ok, e3, e2, if_true, ofO_some]
        unfold enumD
        rw [forGo_nx trivial rfl hb, ih, List.append_assoc]
        rfl
  obtain ⟨δ', hm⟩ := main es0 0 zs0 ms0 none none none hl0 he0 hn0 hz0
  refine fn_last (fl := .rt .non) rfl (cls_strs _) ?_ (.inl rfl)
  unfold b_first_bad
  have hi : itOfS itmEnum (evCons (evVar 1) evNil) [some (.ref S.length), some (.tup es0), some (mostD most), none, none, none] (S ++ [M.lst (ms0.map D.str)]) = .ok ⟨enumD 0 es0, fun _ => True⟩ (S ++ [M.lst (ms0.map D.str)]) := rfl
  exact (seq_nx ((for_eq hi).trans hm)).trans rfl
end K84
end
section
set_option Elab.async false
set_option linter.all false
set_option maxRecDepth 100000
set_option maxHeartbeats 4000000
/-! plain: grounds 3 -/
namespace K84
open PySem PySem.Spec PyProof.Rows L2 DL
local macro_rules | `(tactic| walk_at "ev") => `(tactic| simp only [evSeq, evIfS, evRet, evRetN, evVar, evC, evBin, evUn, p2, evNil, evCons, evTup, evLst, evNew, evTest, evAndT, evOrT, evNotT, evAnd, evOr, evNot, evIte, evIteT, evTruth, evChain, evCall, evCallO, evIsi, evAsg, evDrop, evMk, mkI, mkN, evNext, tgN, tgTup, tgCons, tgNil, asB, dTruth, notRef, isiD, bLen, oLe, oLt, oGe, oGt, oSub, oInt, oAdd, oIsN, oNotN, DL.isNon,
  bind_ok, bind_bad, ofO_some, ofO_none, Option.map_some, Option.map_none, List.getElem?_cons_zero, List.getElem?_cons_succ, List.set_cons_zero, List.set_cons_succ, List.length_cons, List.length_nil, if_true, if_false, Bool.false_eq_true, Bool.not_true, Bool.not_false, decide_true, decide_false, and_self, reduceIte, *])

theorem log2_small {n k : Nat} (h : n < 2 ^ k) : n.log2 ≤ k := by
  by_cases h0 : n = 0
  · subst h0; exact Nat.zero_le _
  · exact Nat.le_of_lt ((Nat.log2_lt h0).mpr h)
theorem wide_small {i j : Int} (h1 : i.natAbs < 2 ^ 4000) (h2 : j.natAbs < 2 ^ 4000) : wideOk i j = true := by
  unfold wideOk
  have a := log2_small h1
  have b := log2_small h2
  exact decide_eq_true (by omega)
theorem mul_small {i j : Int} {S : Store} (h1 : i.natAbs < 2 ^ 4000) (h2 : j.natAbs < 2 ^ 4000) : oMul (.int i) (.int j) S = some (.int (i * j), S) := by
  show oInt (fun i j => wideOk i j) (fun i j => .int (i * j)) (.int i) (.int j) S = _
  unfold oInt
  simp only [wide_small h1 h2, if_true]
def prodC (cells : List (Str × Nat)) : Nat := cells.foldl (fun m p => m * p.2) 1
structure GoodGr (g : Gr) : Prop where
  c1 : g.cells.length ≤ 4
  c2 : ∀ p ∈ g.cells, nameOk p.1 = true ∧ 1 ≤ p.2 ∧ p.2 ≤ 8
  c3 : prodC g.cells ≤ 64
  k1 : g.kinds.length ≤ 3
  k2 : ∀ p ∈ g.kinds, nameOk p.1 = true ∧ 1 ≤ p.2 ∧ p.2 ≤ 99
  e1 : 1 ≤ g.exits.length
  e2 : g.exits.length ≤ 4
  e3 : ∀ z ∈ g.exits, nameOk z = true
  nd : (g.cells.map (·.1) ++ (g.kinds.map (·.1) ++ g.exits)).Nodup
theorem pow8_lt (n : Nat) (h : n ≤ 4) : 8 ^ n < 2 ^ 4000 := by
  have a : 8 ^ n ≤ 8 ^ 4 := Nat.pow_le_pow_right (by decide) h
  have b : 8 ^ 4 < 2 ^ 4000 := by
    have : 8 ^ 4 < 2 ^ 13 := by decide
    exact Nat.lt_of_lt_of_le this (Nat.pow_le_pow_right (by decide) (by decide))
  omega
theorem many_of_ok {cells : List (Str × Nat)} {S : Store} (h1 : cells.length ≤ 4) (h2 : ∀ p ∈ cells, p.2 ≤ 8) : c_many_of [.tup (cells.map cellD)] S = .ok (.int (prodC cells : Nat)) S := by
  refine fn_rt rfl ?_
  unfold b_many_of
  have main : ∀ (cs : List (Str × Nat)) (m k : Nat) (a b : Option D), m ≤ 8 ^ k → k + cs.length ≤ 4 → (∀ p ∈ cs, p.2 ≤ 8) → ∃ a' b', forGo (fun _ => True) (tgTup 2 (tgCons (tgN 2) (tgCons (tgN 3) tgNil))) (evAsg (evBin oMul (evVar 1) (evVar 3)) (tgN 1)) (cs.map cellD) [some (.tup (cells.map cellD)), some (.int (m : Nat)), a, b] S =
      .ok (.nx [some (.tup (cells.map cellD)), some (.int ((cs.foldl (fun m p => m * p.2) m : Nat) : Int)), a', b']) S := by
    intro cs
    induction cs with
    | nil => intro m k a b _ _ _; exact ⟨a, b, forGo_nil trivial⟩
    | cons c cs ih =>
      intro m k a b hm hk hc
      have c8 := hc c (List.mem_cons_self ..)
      have hm' : m * c.2 ≤ 8 ^ (k + 1) := by rw [Nat.pow_succ]; exact Nat.mul_le_mul hm c8
      rw [List.length_cons] at hk
      obtain ⟨a', b', ih⟩ := ih (m * c.2) (k + 1) (some (.str c.1)) (some (.int (c.2 : Nat))) hm' (by omega) fun p hp => hc p (List.mem_cons_of_mem _ hp)
      refine ⟨a', b', ?_⟩
      have p1 : ((m : Nat) : Int).natAbs < 2 ^ 4000 := by
        rw [Int.natAbs_natCast]
        exact Nat.lt_of_le_of_lt hm (pow8_lt k (by omega))
      have p2 : ((c.2 : Nat) : Int).natAbs < 2 ^ 4000 := by
        rw [Int.natAbs_natCast]
        exact Nat.lt_of_le_of_lt (show c.2 ≤ 8 ^ 1 from c8) (pow8_lt 1 (by decide))
      have e1 := mul_small (S := S) p1 p2
      rw [← Int.natCast_mul] at e1
      have hb : (evAsg (evBin oMul (evVar 1) (evVar 3)) (tgN 1)) [some (.tup (cells.map cellD)), some (.int (m : Nat)), some (.str c.1), some (.int (c.2 : Nat))] S = .ok (.nx [some (.tup (cells.map cellD)), some (.int ((m * c.2 : Nat) : Int)), some (.str c.1), some (.int (c.2 : Nat))]) S := by
        clear ih hc hm hm' hk c8 h2 h1 p1 p2
        walk_at "ev"
      rw [List.map_cons, List.foldl_cons]
      exact (forGo_nx trivial rfl hb).trans ih
  obtain ⟨a', b', hm⟩ := main cells 1 0 none none (Nat.le_refl _) (by omega) h2
  refine (seq_nx (δ1 := [some (.tup (cells.map cellD)), some (.int ((1 : Nat) : Int)), none, none]) rfl).trans ?_
  have hi : itSeq (evVar 0) [some (.tup (cells.map cellD)), some (.int ((1 : Nat) : Int)), none, none] S = .ok ⟨cells.map cellD, fun _ => True⟩ S := rfl
  exact (seq_nx ((for_eq hi).trans hm)).trans rfl
end K84
end
section
set_option Elab.async false
set_option linter.all false
set_option maxRecDepth 100000
set_option maxHeartbeats 4000000
/-! plain: grounds 4 -/
namespace K84
open PySem PySem.Spec PyProof.Rows L2 DL
local macro_rules | `(tactic| walk_at "ev") => `(tactic| simp only [evSeq, evIfS, evRet, evRetN, evVar, evC, evBin, evUn, p2, evNil, evCons, evTup, evLst, evNew, evTest, evAndT, evOrT, evNotT, evAnd, evOr, evNot, evIte, evIteT, evTruth, evChain, evCall, evCallO, evIsi, evAsg, evDrop, evMk, mkI, mkN, evNext, tgN, tgTup, tgCons, tgNil, asB, dTruth, notRef, isiD, bLen, oLe, oLt, oGe, oGt, oSub, oInt, oAdd, oIsN, oNotN, DL.isNon,
  bind_ok, bind_bad, ofO_some, ofO_none, Option.map_some, Option.map_none, List.getElem?_cons_zero, List.getElem?_cons_succ, List.set_cons_zero, List.set_cons_succ, List.length_cons, List.length_nil, if_true, if_false, Bool.false_eq_true, Bool.not_true, Bool.not_false, decide_true, decide_false, and_self, reduceIte, *])

noncomputable def wpB : DEnv → Store → R Fl := (evSeq (evIfS (evNotT (evTest (evChain oLe oLe (evVar 5) (evCallO bLen (evCons (evBin ixD (evVar 0) (evVar 3)) evNil)) (evVar 6)))) (evRet (evTup (evCons (evVar 3) (evCons (evUn dNeg (evC (.int 1))) evNil)))) evNext)
    (evSeq (evAsg (evCall c_first_bad (evCons (evVar 1) (evCons (evBin ixD (evVar 0) (evVar 3)) (evCons (evVar 4) evNil)))) (tgN 7))
    (evSeq (evIfS (evTest (evBin oNotN (evVar 7) (evC .non))) (evRet (evTup (evCons (evVar 3) (evCons (evVar 7) evNil)))) evNext)
    (evIfS (evAndT (evTest (evBin oEq (evVar 3) (evC (.int 0)))) (evTest (evBin oGt (evCall c_many_of (evCons (evBin ixD (evVar 0) (evC (.int 0))) evNil)) (evC (.int 64))))) (evRet (evTup (evCons (evC (.int 0)) (evCons (evUn dNeg (evC (.int 1))) evNil)))) evNext))))
theorem part_step {g : Gr} {S : Store} (most : Option Int) (p l k : Int) (es : List D) (zs ms : List Str) (bs : D) (i1 i2 i3 i4 i5 : Option D)
    (hp : ∀ T : Store, ixD (grD g) (.int p) T = some (.tup es, T)) (h1 : l ≤ es.length) (h2 : (es.length : Int) ≤ k) (hm : p = 0 → prodC g.cells ≤ 64 ∧ g.cells.length ≤ 4 ∧ ∀ q ∈ g.cells, q.2 ≤ 8)
    (hl : es.length = zs.length) (he : ∀ (i : Nat) x z, es[i]? = some x → zs[i]? = some z → entOk most x z) (hn : (ms ++ zs).Nodup) (hz : (ms ++ zs).length ≤ 1000) :
    wpB [some (grD g), some (.ref S.length), some bs, some (.int p), some (mostD most), some (.int l), some (.int k), i5] (S ++ [M.lst (ms.map D.str)]) =
      .ok (.nx [some (grD g), some (.ref S.length), some bs, some (.int p), some (mostD most), some (.int l), some (.int k), some .non]) (S ++ [M.lst ((ms ++ zs).map D.str)]) := by
  have e1 := hp (S ++ [M.lst (ms.map D.str)])
  have e2 := hp (S ++ [M.lst ((ms ++ zs).map D.str)])
  have b1 : decide (l ≤ (es.length : Nat)) = true := decide_eq_true h1
  have b2 : decide (((es.length : Nat) : Int) ≤ k) = true := decide_eq_true h2
  have e3 := first_bad_ok (S := S) most es zs ms hl he hn hz
  have e4 : oNotN .non .non (S ++ [M.lst ((ms ++ zs).map D.str)]) = some (.bl false, S ++ [M.lst ((ms ++ zs).map D.str)]) := rfl
  unfold wpB
  by_cases p0 : p = 0
  · obtain ⟨m1, m2, m3⟩ := hm p0
    subst p0
    have e5 : oEq (.int 0) (.int 0) (S ++ [M.lst ((ms ++ zs).map D.str)]) = some (.bl true, S ++ [M.lst ((ms ++ zs).map D.str)]) := rfl
    have e6 : ixD (grD g) (.int 0) (S ++ [M.lst ((ms ++ zs).map D.str)]) = some (.tup (g.cells.map cellD), S ++ [M.lst ((ms ++ zs).map D.str)]) := rfl
    have e7 := many_of_ok (S := S ++ [M.lst ((ms ++ zs).map D.str)]) m2 m3
    have b3 : decide ((64 : Int) < (prodC g.cells : Nat)) = false := decide_eq_false (by omega)
    clear hp h1 h2 hm hl he hn hz m1 m2 m3 e2
    walk_at "ev"
  · have e5 : oEq (.int p) (.int 0) (S ++ [M.lst ((ms ++ zs).map D.str)]) = some (.bl false, S ++ [M.lst ((ms ++ zs).map D.str)]) := by
      have : eqD (.int p) (.int 0) = false := by rw [eqD_int]; simpa using p0
      show (if okD (.int p) = true ∧ okD (.int 0) = true then some (D.bl (eqD (.int p) (.int 0)), _) else none) = _
      rw [if_pos ⟨rfl, rfl⟩, this]
    clear hp h1 h2 hm hl he hn hz p0 e2
    walk_at "ev"
theorem map_get {α β : Type} {f : α → β} {xs : List α} {i : Nat} {y : β} (h : (xs.map f)[i]? = some y) : ∃ x, xs[i]? = some x ∧ y = f x := by
  rw [List.getElem?_map] at h
  obtain ⟨x, e, rfl⟩ := Option.map_eq_some_iff.mp h
  exact ⟨x, e, rfl⟩
theorem wrong_part_ok {g : Gr} {S : Store} (G : GoodGr g) : c_wrong_part [grD g] S = .ok .non S := by
  have key : b_wrong_part (startD 8 [grD g]) S = .ok (.rt .non) (S ++ [M.lst ((g.cells.map (·.1) ++ (g.kinds.map (·.1) ++ g.exits)).map D.str)]) := by
    let bs : D := .lst [.tup [.int 8, .int 0, .int 4], .tup [.int 99, .int 0, .int 3], .tup [.non, .int 1, .int 4]]
    have nl : (g.cells.map (·.1) ++ (g.kinds.map (·.1) ++ g.exits)).length ≤ 1000 := by
      have := G.c1; have := G.k1; have := G.e2
      simp only [List.length_append, List.length_map]
      omega
    have s0 := part_step (g := g) (S := S) (some 8) 0 0 4 (g.cells.map cellD) (g.cells.map (·.1)) [] bs none none none none none (fun _ => rfl) (by omega) (by rw [List.length_map]; have := G.c1; omega) (fun _ => ⟨G.c3, G.c1, fun q hq => (G.c2 q hq).2.2⟩) (by simp)
      (fun i x z h1 h2 => by
        obtain ⟨p, q1, rfl⟩ := map_get h1
        obtain ⟨p', q2, rfl⟩ := map_get h2
        rw [q1] at q2
        cases q2
        obtain ⟨a1, a2, a3⟩ := G.c2 p (List.mem_of_getElem? q1)
        exact ⟨a1, (p.2 : Nat), rfl, by omega, by omega⟩) (by simpa using (List.nodup_append.mp G.nd).1) (by simp only [List.nil_append, List.length_map]; have := G.c1; omega)
    have s1 := part_step (g := g) (S := S) (some 99) 1 0 3 (g.kinds.map kindD) (g.kinds.map (·.1)) (g.cells.map (·.1)) bs none none none none (some .non) (fun _ => rfl) (by omega) (by rw [List.length_map]; have := G.k1; omega) (fun h => absurd h (by decide)) (by simp)
      (fun i x z h1 h2 => by
        obtain ⟨p, q1, rfl⟩ := map_get h1
        obtain ⟨p', q2, rfl⟩ := map_get h2
        rw [q1] at q2
        cases q2
        obtain ⟨a1, a2, a3⟩ := G.k2 p (List.mem_of_getElem? q1)
        exact ⟨a1, p.2, rfl, a2, a3⟩) (by
        have := G.nd
        rw [← List.append_assoc] at this
        exact (List.nodup_append.mp this).1) (by simp only [List.length_append, List.length_map] at nl ⊢; omega)
    have s2 := part_step (g := g) (S := S) none 2 1 4 (g.exits.map D.str) g.exits (g.cells.map (·.1) ++ g.kinds.map (·.1)) bs none none none none (some .non) (fun _ => rfl) (by rw [List.length_map]; have := G.e1; omega) (by rw [List.length_map]; have := G.e2; omega) (fun h => absurd h (by decide)) (by simp)
      (fun i x z h1 h2 => by
        obtain ⟨p, q1, rfl⟩ := map_get h1
        rw [q1] at h2
        have h2 := Option.some.inj h2
        subst h2
        exact ⟨G.e3 p (List.mem_of_getElem? q1), rfl⟩) (by rw [List.append_assoc]; exact G.nd) (by rw [List.append_assoc]; exact nl)
    rw [List.append_assoc] at s2
    refine (seq_nx (δ1 := [some (grD g), some (.ref S.length), none, none, none, none, none, none]) (S1 := S ++ [M.lst (([] : List Str).map D.str)]) rfl).trans ?_
    refine (seq_nx (δ1 := [some (grD g), some (.ref S.length), some bs, none, none, none, none, none]) rfl).trans ?_
    have hi : itOfS itmEnum (evCons (evVar 2) evNil) [some (grD g), some (.ref S.length), some bs, none, none, none, none, none] (S ++ [M.lst (([] : List Str).map D.str)]) = .ok ⟨enumD 0 [.tup [.int 8, .int 0, .int 4], .tup [.int 99, .int 0, .int 3], .tup [.non, .int 1, .int 4]], fun _ => True⟩ (S ++ [M.lst (([] : List Str).map D.str)]) := rfl
    refine (seq_nx (δ1 := [some (grD g), some (.ref S.length), some bs, some (.int 2), some (mostD none), some (.int 1), some (.int 4), some .non]) (S1 := S ++ [M.lst ((g.cells.map (·.1) ++ (g.kinds.map (·.1) ++ g.exits)).map D.str)]) ((for_eq hi).trans ?_)).trans rfl
    exact (forGo_nx trivial rfl s0).trans ((forGo_nx trivial rfl s1).trans ((forGo_nx trivial rfl s2).trans (forGo_nil trivial)))
  exact fn_rtJ _ rfl key
theorem is_triple_ok {g : Gr} {S : Store} : c_is_triple [grD g] S = .ok (.bl true) S := by
  refine fn_rt rfl ?_
  have hc : evComp [1] (itSeq (evVar 0)) (tgN 1) evYes (evIsi .tuple (evVar 1)) [some (grD g), none] S = .ok ([D.tup (g.cells.map cellD), .tup (g.kinds.map kindD), .tup (g.exits.map D.str)].map fun _ => D.bl true) S :=
    comp_all (xs := [D.tup (g.cells.map cellD), .tup (g.kinds.map kindD), .tup (g.exits.map D.str)]) id _ rfl (by rw [List.map_id]) trivial (fun x hx => ⟨_, rfl, by
      have : x = .tup (g.cells.map cellD) ∨ x = .tup (g.kinds.map kindD) ∨ x = .tup (g.exits.map D.str) := by simpa using hx
      rcases this with rfl | rfl | rfl <;> rfl⟩) (by show 3 ≤ sizeLine; decide)
  have e1 : oEq (.int ((3 : Nat) : Int)) (.int 3) S = some (.bl true, S) := rfl
  have e2 : bAll [.lst ([D.tup (g.cells.map cellD), .tup (g.kinds.map kindD), .tup (g.exits.map D.str)].map fun _ => D.bl true)] S = some (.bl true, S) := rfl
  have e3 : evIsi .tuple (evVar 0) [some (grD g), none] S = .ok (.bl true) S := rfl
  have e4 : evBin oEq (evCallO bLen (evCons (evVar 0) evNil)) (evC (.int 3)) [some (grD g), none] S = .ok (.bl true) S := rfl
  have e5 : evCallO bAll (evCons (evMk mkI (evComp [1] (itSeq (evVar 0)) (tgN 1) evYes (evIsi .tuple (evVar 1)))) evNil) [some (grD g), none] S = .ok (.bl true) S := by
    simp only [evCallO, evCons, evMk, hc, bind_ok, mkI, evNil, e2, ofO_some]
  unfold b_is_triple
  show evRet _ [some _, none] S = _
  simp only [evRet, evAnd, e3, bind_ok, e4, e5]
theorem made_ground_ok {g : Gr} {S : Store} (G : GoodGr g) (hp : pureD (grD g) = true) : c_made_ground [grD g] S = .ok (grD g) S := by
  refine fn_rt hp ?_
  have e1 := is_triple_ok (g := g) (S := S)
  have e2 := wrong_part_ok (S := S) G
  have e3 : oNotN .non .non S = some (.bl false, S) := rfl
  unfold b_made_ground
  show evSeq _ _ [some _, none] S = _
  clear hp G
  walk_at "ev"
theorem is_ground_ok {g : Gr} {S : Store} (G : GoodGr g) : c_is_ground [grD g] S = .ok (.bl true) S := by
  refine fn_rt rfl ?_
  have e1 := is_triple_ok (g := g) (S := S)
  have e2 := wrong_part_ok (S := S) G
  have e3 : oIsN .non .non S = some (.bl true, S) := rfl
  unfold b_is_ground
  show evRet _ [some _] S = _
  clear G
  walk_at "ev"
end K84
end
section
set_option Elab.async false
set_option linter.all false
set_option maxRecDepth 100000
set_option maxHeartbeats 4000000
/-! plain: states -/
namespace K84
open PySem PySem.Spec PyProof.Rows L2 DL
local macro_rules | `(tactic| walk_at "ev") => `(tactic| simp only [evSeq, evIfS, evRet, evRetN, evVar, evC, evBin, evUn, p2, evNil, evCons, evTup, evLst, evNew, evTest, evAndT, evOrT, evNotT, evAnd, evOr, evNot, evIte, evIteT, evTruth, evChain, evCall, evCallO, evIsi, evAsg, evDrop, evMk, mkI, mkN, evNext, tgN, tgTup, tgCons, tgNil, asB, dTruth, notRef, isiD, bLen, oLe, oLt, oGe, oGt, oSub, oInt, oAdd, oIsN, oNotN, DL.isNon,
  bind_ok, bind_bad, ofO_some, ofO_none, Option.map_some, Option.map_none, List.getElem?_cons_zero, List.getElem?_cons_succ, List.set_cons_zero, List.set_cons_succ, List.length_cons, List.length_nil, if_true, if_false, Bool.false_eq_true, Bool.not_true, Bool.not_false, decide_true, decide_false, and_self, reduceIte, *])

def stD (st : List Int) : D := .tup (st.map D.int)
def allSt (cells : List (Str × Nat)) : List (List Int) := cells.foldl (fun found c => found.flatMap fun st => (List.range c.2).map fun (v : Nat) => st ++ [(v : Int)]) [[]]
theorem compGo2_map {α : Type} {chk : Store → Prop} {tg tg1 : D → DEnv → Store → R DEnv} {vs1 : List Nat} {fi1 : DEnv → Store → R Itm} {fe : DEnv → Store → R D} {δ : DEnv} {S : Store} (f : α → D) (inner : α → List D) (hc : chk S) : ∀ xs : List α,
    (∀ x ∈ xs, ∃ δ1 m, tg (f x) δ S = .ok δ1 S ∧ fi1 δ1 S = .ok m S ∧ compGo m.chk tg1 evYes fe (wipeD δ1 vs1) m.items S = .ok (inner x) S) → compGo2 chk tg evYes vs1 fi1 tg1 evYes fe δ (xs.map f) S = .ok (xs.flatMap inner) S
  | [], _ => by
    unfold compGo2
    rw [List.map_nil]
    simp only
    rw [if_pos hc]
    rfl
  | x :: xs, h => by
    obtain ⟨δ1, m, h1, h2, h3⟩ := h x (List.mem_cons_self ..)
    have ih := compGo2_map (tg := tg) (tg1 := tg1) (vs1 := vs1) (fi1 := fi1) (fe := fe) (δ := δ) f inner hc xs fun y hy => h y (List.mem_cons_of_mem _ hy)
    rw [List.map_cons]
    unfold compGo2
    rw [if_pos hc, h1, bind_ok]
    show (R.ok true S).bind _ = _
    rw [bind_ok, if_pos rfl, h2, bind_ok, h3, bind_ok, ih, bind_ok, List.flatMap_cons]
theorem rangeD_map (n : Nat) : rangeD 0 n = (List.range n).map fun (v : Nat) => D.int (v : Int) := by
  unfold rangeD
  congr 1
  funext i
  rw [Int.zero_add]
/-- one more cell -/
def moreSt (found : List (List Int)) (n : Nat) : List (List Int) := found.flatMap fun st => (List.range n).map fun (v : Nat) => st ++ [(v : Int)]
theorem moreSt_len (found : List (List Int)) (n : Nat) : (moreSt found n).length = found.length * n := by
  unfold moreSt
  induction found with
  | nil => simp
  | cons x xs ih =>
    rw [List.flatMap_cons, List.length_append, ih, List.length_map, List.length_range, List.length_cons, Nat.succ_mul, Nat.add_comm]
theorem add_tup (a b : List D) (S : Store) (h : a.length + b.length ≤ sizeLine) : oAdd (.tup a) (.tup b) S = some (.tup (a ++ b), S) := by
  show (if a.length + b.length ≤ sizeLine then some (D.tup (a ++ b), S) else none) = _
  rw [if_pos h]
theorem itmR1_nat {n : Nat} (h : n ≤ 100000) : itmR1 [.int (n : Nat)] = some ⟨rangeD 0 n, fun _ => True⟩ := by
  have hsm : smallI ((n : Nat) : Int) := by
    constructor
    · omega
    · omega
  simp only [itmR1]
  rw [if_pos hsm, Int.toNat_natCast]
theorem range_small {n : Nat} {S : Store} {δ : DEnv} {fr : DEnv → Store → R (List D)} (hn : n ≤ 8) (h : fr δ S = .ok [.int (n : Nat)] S) : itOf itmR1 fr δ S = .ok ⟨rangeD 0 n, fun _ => True⟩ S := by
  unfold itOf
  rw [h, bind_ok, itmR1_nat (by omega)]
  rfl
theorem more_comp {g : Gr} {S : Store} (found : List (List Int)) (n : Nat) (x2 : Option D) (fd : Option D) (hfd : fd = some (.lst (found.map stD))) (hn : n ≤ 8) (hf : found.length ≤ 4096) (hs : ∀ st ∈ found, st.length ≤ 100) :
    evMk mkI (evComp2 [4, 5] (itSeq (evVar 1)) (tgN 4) evYes [5] (itOf itmR1 (evCons (evVar 3) evNil)) (tgN 5) evYes (evBin oAdd (evVar 4) (evTup (evCons (evVar 5) evNil)))) [some (grD g), fd, x2, some (.int (n : Nat)), none, none] S = .ok (.lst ((moreSt found n).map stD)) S := by
  subst hfd
  have e : (noX (compGo2 (fun _ => True) (tgN 4) evYes [5] (itOf itmR1 (evCons (evVar 3) evNil)) (tgN 5) evYes (evBin oAdd (evVar 4) (evTup (evCons (evVar 5) evNil))) [some (grD g), some (.lst (found.map stD)), x2, some (.int (n : Nat)), none, none] (found.map stD) S)) = .ok ((moreSt found n).map stD) S := by
    rw [compGo2_map stD (fun st => ((List.range n).map fun (v : Nat) => st ++ [(v : Int)]).map stD) trivial found fun st hst => ?_]
    · show R.ok _ S = _
      unfold moreSt
      rw [List.map_flatMap]
    · refine ⟨[some (grD g), some (.lst (found.map stD)), x2, some (.int (n : Nat)), some (stD st), none], ⟨rangeD 0 n, fun _ => True⟩, rfl, ?_, ?_⟩
      · exact range_small hn rfl
      · show compGo (fun _ => True) (tgN 5) evYes _ _ (rangeD 0 n) S = _
        rw [rangeD_map, compGo_map (fun (v : Nat) => D.int (v : Int)) (fun (v : Nat) => stD (st ++ [(v : Int)])) (fun _ => true) trivial (List.range n) fun v hv => ?_]
        · rw [List.filter_eq_self.mpr fun _ _ => rfl, List.map_map]
          rfl
        · refine ⟨_, rfl, rfl, fun _ => ?_⟩
          have h1 := hs st hst
          have e1 := add_tup (st.map D.int) [.int (v : Int)] S (by simp only [List.length_map, List.length_cons, List.length_nil]; rw [sizeLine_eq]; omega)
          show ofO (oAdd (.tup (st.map D.int)) (.tup [.int (v : Int)]) S) = _
          rw [e1]
          unfold stD
          rw [List.map_append]
          rfl
  unfold evMk evComp2
  show ((R.ok (⟨found.map stD, fun _ => True⟩ : Itm) S).bind _).bind mkI = _
  rw [bind_ok]
  show ((noX (compGo2 (fun _ => True) (tgN 4) evYes [5] (itOf itmR1 (evCons (evVar 3) evNil)) (tgN 5) evYes (evBin oAdd (evVar 4) (evTup (evCons (evVar 5) evNil))) [some (grD g), some (.lst (found.map stD)), x2, some (.int (n : Nat)), none, none] (found.map stD) S)).bind _).bind mkI = _
  rw [e, bind_ok, if_pos, bind_ok]
  · rfl
  · rw [List.length_map, moreSt_len, sizeLine_eq]
    have := Nat.mul_le_mul hf hn
    omega
theorem moreSt_st {found : List (List Int)} {n k : Nat} (h : ∀ st ∈ found, st.length = k) : ∀ st ∈ moreSt found n, st.length = k + 1 := by
  intro st hst
  unfold moreSt at hst
  obtain ⟨s0, h0, h1⟩ := List.mem_flatMap.mp hst
  obtain ⟨v, _, rfl⟩ := List.mem_map.mp h1
  rw [List.length_append, h s0 h0]
  rfl
theorem pures_st (xs : List (List Int)) : pureDs (xs.map stD) = true := by
  have h : ∀ st : List Int, pureDs (st.map D.int) = true := fun st => by
    induction st with
    | nil => rfl
    | cons v st ih => show (pureD (.int v) && pureDs (st.map D.int)) = true; rw [ih]; rfl
  induction xs with
  | nil => rfl
  | cons x xs ih => show (pureDs (x.map D.int) && pureDs (xs.map stD)) = true; rw [ih, h]; rfl
theorem all_states_ok {g : Gr} {S : Store} (G : GoodGr g) : c_all_states [grD g] S = .ok (.tup ((allSt g.cells).map stD)) S := by
  refine fn_rt (pures_st _) ?_
  have main : ∀ (cs : List (Str × Nat)) (found : List (List Int)) (k : Nat) (a b : Option D), found.length ≤ 8 ^ k → (∀ st ∈ found, st.length = k) → k + cs.length ≤ 4 → (∀ p ∈ cs, p.2 ≤ 8) → ∃ a' b', forGo (fun _ => True) (tgTup 2 (tgCons (tgN 2) (tgCons (tgN 3) tgNil)))
      (evAsg (evMk mkI (evComp2 [4, 5] (itSeq (evVar 1)) (tgN 4) evYes [5] (itOf itmR1 (evCons (evVar 3) evNil)) (tgN 5) evYes (evBin oAdd (evVar 4) (evTup (evCons (evVar 5) evNil))))) (tgN 1)) (cs.map cellD) [some (grD g), some (.lst (found.map stD)), a, b, none, none] S =
      .ok (.nx [some (grD g), some (.lst ((cs.foldl (fun found c => moreSt found c.2) found).map stD)), a', b', none, none]) S := by
    intro cs
    induction cs with
    | nil => intro found k a b _ _ _ _; exact ⟨a, b, forGo_nil trivial⟩
    | cons c cs ih =>
      intro found k a b hl hs hk hc
      have c8 := hc c (List.mem_cons_self ..)
      rw [List.length_cons] at hk
      have hl' : (moreSt found c.2).length ≤ 8 ^ (k + 1) := by rw [moreSt_len, Nat.pow_succ]; exact Nat.mul_le_mul hl c8
      obtain ⟨a', b', ih⟩ := ih (moreSt found c.2) (k + 1) (some (.str c.1)) (some (.int (c.2 : Nat))) hl' (moreSt_st hs) (by omega) fun p hp => hc p (List.mem_cons_of_mem _ hp)
      refine ⟨a', b', ?_⟩
      have h8 : 8 ^ k ≤ 8 ^ 4 := Nat.pow_le_pow_right (by decide) (by omega)
      have e1 := more_comp (g := g) (S := S) found c.2 (some (.str c.1)) _ rfl c8 (by omega) (fun st hst => by have := hs st hst; omega)
      have hb : (evAsg (evMk mkI (evComp2 [4, 5] (itSeq (evVar 1)) (tgN 4) evYes [5] (itOf itmR1 (evCons (evVar 3) evNil)) (tgN 5) evYes (evBin oAdd (evVar 4) (evTup (evCons (evVar 5) evNil))))) (tgN 1)) [some (grD g), some (.lst (found.map stD)), some (.str c.1), some (.int (c.2 : Nat)), none, none] S = .ok (.nx [some (grD g), some (.lst ((moreSt found c.2).map stD)), some (.str c.1), some (.int (c.2 : Nat)), none, none]) S := by
        unfold evAsg
        rw [e1]
        rfl
      rw [List.map_cons, List.foldl_cons]
      exact (forGo_nx trivial rfl hb).trans ih
  obtain ⟨a', b', hm⟩ := main g.cells [[]] 0 none none (Nat.le_refl _) (fun st hst => by simp at hst; subst hst; rfl) (by have := G.c1; omega) fun p hp => (G.c2 p hp).2.2
  unfold b_all_states
  refine (seq_nx (δ1 := [some (grD g), some (.lst [stD []]), none, none, none, none]) rfl).trans ?_
  have hi : itSeq (evBin ixD (evVar 0) (evC (.int 0))) [some (grD g), some (.lst [stD []]), none, none, none, none] S = .ok ⟨g.cells.map cellD, fun _ => True⟩ S := rfl
  exact (seq_nx ((for_eq hi).trans hm)).trans rfl
end K84
end
section
set_option Elab.async false
set_option linter.all false
set_option maxRecDepth 100000
set_option maxHeartbeats 4000000
/-! plain: states 2 -/
namespace K84
open PySem PySem.Spec PyProof.Rows L2 DL
local macro_rules | `(tactic| walk_at "ev") => `(tactic| simp only [evSeq, evIfS, evRet, evRetN, evVar, evC, evBin, evUn, p2, evNil, evCons, evTup, evLst, evNew, evTest, evAndT, evOrT, evNotT, evAnd, evOr, evNot, evIte, evIteT, evTruth, evChain, evCall, evCallO, evIsi, evAsg, evDrop, evMk, mkI, mkN, evNext, tgN, tgTup, tgCons, tgNil, asB, dTruth, notRef, isiD, bLen, oLe, oLt, oGe, oGt, oSub, oInt, oAdd, oIsN, oNotN, DL.isNon,
  bind_ok, bind_bad, ofO_some, ofO_none, Option.map_some, Option.map_none, List.getElem?_cons_zero, List.getElem?_cons_succ, List.set_cons_zero, List.set_cons_succ, List.length_cons, List.length_nil, if_true, if_false, Bool.false_eq_true, Bool.not_true, Bool.not_false, decide_true, decide_false, and_self, reduceIte, *])

def InSt : List (Str × Nat) → List Int → Prop
  | [], [] => True
  | c :: cs, v :: vs => (0 ≤ v ∧ v < (c.2 : Nat)) ∧ InSt cs vs
  | _, _ => False
def numSt : List (Str × Nat) → List Int → Int → Int
  | c :: cs, v :: vs, n => numSt cs vs (n * (c.2 : Nat) + v)
  | _, _, n => n
theorem InSt.len : ∀ {cs : List (Str × Nat)} {vs : List Int}, InSt cs vs → vs.length = cs.length
  | [], [], _ => rfl
  | _ :: _, _ :: _, h => by simp [InSt.len h.2]
  | [], _ :: _, h => h.elim
  | _ :: _, [], h => h.elim
theorem number_of_ok {g : Gr} {S : Store} {st : List Int} (G : GoodGr g) (hst : InSt g.cells st) : c_number_of [grD g, stD st] S = .ok (.int (numSt g.cells st 0)) S := by
  refine fn_rt rfl ?_
  have main : ∀ (cs : List (Str × Nat)) (vs : List Int) (n : Int) (k : Nat) (a b c : Option D), InSt cs vs → 0 ≤ n → n < 8 ^ k → k + cs.length ≤ 4 → (∀ p ∈ cs, p.2 ≤ 8) → ∃ a' b' c', forGo (fun _ => True) (tgTup 2 (tgCons (tgTup 2 (tgCons (tgN 3) (tgCons (tgN 4) tgNil))) (tgCons (tgN 5) tgNil))) (evAsg (evBin oAdd (evBin oMul (evVar 2) (evVar 4)) (evVar 5)) (tgN 2))
      (zipD (cs.map cellD) (vs.map D.int)) [some (grD g), some (stD st), some (.int n), a, b, c] S = .ok (.nx [some (grD g), some (stD st), some (.int (numSt cs vs n)), a', b', c']) S := by
    intro cs
    induction cs with
    | nil =>
      intro vs n k a b c h _ _ _ _
      cases vs with
      | cons _ _ => exact h.elim
      | nil => exact ⟨a, b, c, forGo_nil trivial⟩
    | cons c cs ih =>
      intro vs n k a b c' h h0 hn hk hc
      cases vs with
      | nil => exact h.elim
      | cons v vs =>
        obtain ⟨⟨v0, v1⟩, h⟩ := h
        have c8 := hc c (List.mem_cons_self ..)
        rw [List.length_cons] at hk
        have c8' : ((c.2 : Nat) : Int) ≤ 8 := by omega
        have hc0 : (0 : Int) ≤ (c.2 : Nat) := by omega
        have hx : n * (c.2 : Nat) + v < 8 ^ (k + 1) := by
          have a1 : n * (c.2 : Nat) ≤ n * 8 := Int.mul_le_mul_of_nonneg_left c8' h0
          have a2 : (8 : Int) ^ (k + 1) = 8 ^ k * 8 := Int.pow_succ ..
          rw [a2]
          have a3 : (n + 1) * 8 ≤ 8 ^ k * 8 := Int.mul_le_mul_of_nonneg_right (by omega) (by decide)
          omega
        have hx0 : 0 ≤ n * (c.2 : Nat) + v := by
          have := Int.mul_nonneg h0 hc0
          omega
        obtain ⟨a', b', c'', ih⟩ := ih vs (n * (c.2 : Nat) + v) (k + 1) (some (.str c.1)) (some (.int (c.2 : Nat))) (some (.int v)) h hx0 hx (by omega) fun p hp => hc p (List.mem_cons_of_mem _ hp)
        refine ⟨a', b', c'', ?_⟩
        have p1 : n.natAbs < 2 ^ 4000 := by
          have a1 : n.natAbs < 8 ^ k := by
            have : ((8 ^ k : Nat) : Int) = 8 ^ k := by simp
            omega
          exact Nat.lt_trans a1 (pow8_lt k (by omega))
        have p2 : ((c.2 : Nat) : Int).natAbs < 2 ^ 4000 := by
          rw [Int.natAbs_natCast]
          exact Nat.lt_of_le_of_lt (show c.2 ≤ 8 ^ 1 from c8) (pow8_lt 1 (by decide))
        have e1 := mul_small (S := S) p1 p2
        have e2 : oAdd (.int (n * (c.2 : Nat))) (.int v) S = some (.int (n * (c.2 : Nat) + v), S) := rfl
        have hb : (evAsg (evBin oAdd (evBin oMul (evVar 2) (evVar 4)) (evVar 5)) (tgN 2)) [some (grD g), some (stD st), some (.int n), some (.str c.1), some (.int (c.2 : Nat)), some (.int v)] S = .ok (.nx [some (grD g), some (stD st), some (.int (n * (c.2 : Nat) + v)), some (.str c.1), some (.int (c.2 : Nat)), some (.int v)]) S := by
          clear ih hc h hx hx0 hk c8 c8' hc0 p1 p2 h0 hn v0 v1 hst G
          walk_at "ev"
        show forGo _ _ _ (.tup [cellD c, .int v] :: zipD (cs.map cellD) (vs.map D.int)) _ _ = _
        exact (forGo_nx trivial rfl hb).trans ih
  obtain ⟨a', b', c', hm⟩ := main g.cells st 0 0 none none none hst (Int.le_refl _) (by decide) (by have := G.c1; omega) fun p hp => (G.c2 p hp).2.2
  unfold b_number_of
  refine (seq_nx (δ1 := [some (grD g), some (stD st), some (.int 0), none, none, none]) rfl).trans ?_
  have hi : itOf itmZip (evCons (evBin ixD (evVar 0) (evC (.int 0))) (evCons (evVar 1) evNil)) [some (grD g), some (stD st), some (.int 0), none, none, none] S = .ok ⟨zipD (g.cells.map cellD) (st.map D.int), fun _ => True⟩ S := rfl
  exact (seq_nx ((for_eq hi).trans hm)).trans rfl
theorem all_of {α : Type} {fc : DEnv → Store → R (List D)} {δ : DEnv} {S : Store} {xs : List α} (q : α → Bool) (hc : fc δ S = .ok (xs.map fun x => D.bl (q x)) S) : evCallO bAll (evCons (evMk mkI fc) evNil) δ S = .ok (.bl (xs.all q)) S := by
  have e : evMk mkI fc δ S = .ok (.lst (xs.map fun x => D.bl (q x))) S := by
    unfold evMk
    rw [hc]
    rfl
  have e2 : evCons (evMk mkI fc) evNil δ S = .ok [.lst (xs.map fun x => D.bl (q x))] S := by
    show (evMk mkI fc δ S).bind _ = _
    rw [e]
    rfl
  unfold evCallO
  rw [e2, bind_ok]
  show ofO ((some (xs.map fun x => D.bl (q x))).bind fun xs => (blsOf xs).map fun bs => (D.bl (bs.all id), S)) = _
  rw [Option.bind_some, blsOf_of, Option.map_some, List.all_map]
  rfl
theorem any_of {α : Type} {fc : DEnv → Store → R (List D)} {δ : DEnv} {S : Store} {xs : List α} (q : α → Bool) (hc : fc δ S = .ok (xs.map fun x => D.bl (q x)) S) : evCallO bAny (evCons (evMk mkI fc) evNil) δ S = .ok (.bl (xs.any q)) S := by
  have e : evMk mkI fc δ S = .ok (.lst (xs.map fun x => D.bl (q x))) S := by
    unfold evMk
    rw [hc]
    rfl
  have e2 : evCons (evMk mkI fc) evNil δ S = .ok [.lst (xs.map fun x => D.bl (q x))] S := by
    show (evMk mkI fc δ S).bind _ = _
    rw [e]
    rfl
  unfold evCallO
  rw [e2, bind_ok]
  show ofO ((some (xs.map fun x => D.bl (q x))).bind fun xs => (blsOf xs).map fun bs => (D.bl (bs.any id), S)) = _
  rw [Option.bind_some, blsOf_of, Option.map_some, List.any_map]
  rfl
theorem sum_of {α : Type} {fc : DEnv → Store → R (List D)} {δ : DEnv} {S : Store} {xs : List α} (q : α → Int) (hc : fc δ S = .ok (xs.map fun x => D.int (q x)) S) : evCallO bSum (evCons (evMk mkI fc) evNil) δ S = .ok (.int (xs.map q).sum) S := by
  have e : evMk mkI fc δ S = .ok (.lst (xs.map fun x => D.int (q x))) S := by
    unfold evMk
    rw [hc]
    rfl
  have e2 : evCons (evMk mkI fc) evNil δ S = .ok [.lst (xs.map fun x => D.int (q x))] S := by
    show (evMk mkI fc δ S).bind _ = _
    rw [e]
    rfl
  unfold evCallO
  rw [e2, bind_ok]
  show ofO ((some (xs.map fun x => D.int (q x))).bind fun xs => (intsOf xs).map fun ns => (D.int ns.sum, S)) = _
  rw [Option.bind_some, intsOf_of, Option.map_some]
  rfl
theorem tuple_of {fc : DEnv → Store → R (List D)} {δ : DEnv} {S S' : Store} {ys : List D} (hc : fc δ S = .ok ys S') : evCallO bTuple (evCons (evMk mkI fc) evNil) δ S = .ok (.tup ys) S' := by
  unfold evCallO evCons evMk
  rw [hc]
  rfl
/-! is_state -/
def valOk (p : D × (Str × Nat)) : Bool := match p.1 with
  | .int v => decide (0 ≤ v) && decide (v < (p.2.2 : Nat))
  | _ => false
theorem zipD_map : ∀ (ds : List D) (cs : List (Str × Nat)), zipD ds (cs.map cellD) = (ds.zip cs).map fun p => .tup [p.1, cellD p.2]
  | [], _ => by simp [zipD]
  | _ :: _, [] => by simp [zipD]
  | d :: ds, c :: cs => by
    show .tup [d, cellD c] :: zipD ds (cs.map cellD) = _
    rw [zipD_map ds cs]
    rfl
theorem is_state_tup {g : Gr} {S : Store} {ds : List D} (G : GoodGr g) (hr : ∀ d ∈ ds, notRef d = true) (hz : ds.length ≤ 1000) : c_is_state [grD g, .tup ds] S = .ok (.bl (decide (ds.length = g.cells.length) && (ds.zip g.cells).all valOk)) S := by
  refine fn_rt rfl ?_
  unfold b_is_state
  show evSeq _ _ [some (grD g), some (.tup ds), none, none, none] S = _
  have e1 : evTruth (evIsi .tuple (evVar 1)) [some (grD g), some (.tup ds), none, none, none] S = .ok true S := rfl
  have e2 : evTest (evBin oNe (evCallO bLen (evCons (evVar 1) evNil)) (evCallO bLen (evCons (evBin ixD (evVar 0) (evC (.int 0))) evNil))) [some (grD g), some (.tup ds), none, none, none] S = .ok (!decide (ds.length = g.cells.length)) S := by
    have : eqD (.int (ds.length : Nat)) (.int ((g.cells.map cellD).length : Nat)) = decide (ds.length = g.cells.length) := by
      rw [eqD_int, List.length_map]
      by_cases h : ds.length = g.cells.length
      · simp [h]
      · simp [h]
        omega
    show (R.bind (ofO (if okD (.int (ds.length : Nat)) = true ∧ okD (.int ((g.cells.map cellD).length : Nat)) = true then some (D.bl (!eqD (.int (ds.length : Nat)) (.int ((g.cells.map cellD).length : Nat))), S) else none)) _) = _
    rw [if_pos ⟨rfl, rfl⟩, this]
    rfl
  by_cases hl : ds.length = g.cells.length
  · have hc : evComp [2, 3, 4] (itOf itmZip (evCons (evVar 1) (evCons (evBin ixD (evVar 0) (evC (.int 0))) evNil))) (tgTup 2 (tgCons (tgN 2) (tgCons (tgTup 2 (tgCons (tgN 3) (tgCons (tgN 4) tgNil))) tgNil))) evYes (evAnd (evCall c_is_whole (evCons (evVar 2) evNil)) (evChain oLe oLt (evC (.int 0)) (evVar 2) (evVar 4))) [some (grD g), some (.tup ds), none, none, none] S =
      .ok ((ds.zip g.cells).map fun p => D.bl (valOk p)) S := by
      refine comp_all (m := ⟨zipD ds (g.cells.map cellD), fun _ => True⟩) (fun p => .tup [p.1, cellD p.2]) _ rfl (zipD_map ds g.cells) trivial (fun p hp => ?_) (by rw [List.length_zip, sizeLine_eq]; have := G.c1; omega)
      refine ⟨[some (grD g), some (.tup ds), some p.1, some (.str p.2.1), some (.int (p.2.2 : Nat))], rfl, ?_⟩
      have nr := hr p.1 (List.of_mem_zip hp).1
      have e3 := is_whole_d (S := S) nr
      obtain ⟨d, c⟩ := p
      have e5 : evCall c_is_whole (evCons (evVar 2) evNil) [some (grD g), some (.tup ds), some d, some (.str c.1), some (.int (c.2 : Nat))] S = .ok (.bl (isIntD d)) S := e3
      show evAnd _ _ [some (grD g), some (.tup ds), some d, some (.str c.1), some (.int (c.2 : Nat))] S = _
      unfold evAnd
      rw [e5, bind_ok]
      cases d with
      | int v =>
        show evChain oLe oLt (evC (.int 0)) (evVar 2) (evVar 4) [some (grD g), some (.tup ds), some (.int v), some (.str c.1), some (.int (c.2 : Nat))] S = .ok (.bl (decide (0 ≤ v) && decide (v < (c.2 : Nat)))) S
        by_cases h0 : 0 ≤ v
        · have b0 : decide ((0 : Int) ≤ v) = true := decide_eq_true h0
          simp only [evChain, evC, evVar, List.getElem?_cons_zero, List.getElem?_cons_succ, bind_ok, oLe, oLt, oInt, if_true, ofO_some, b0, Bool.true_and]
        · have b0 : decide ((0 : Int) ≤ v) = false := decide_eq_false h0
          simp only [evChain, evC, evVar, List.getElem?_cons_zero, List.getElem?_cons_succ, bind_ok, oLe, oLt, oInt, if_true, ofO_some, b0, Bool.false_and]
      | ref n => simp [notRef] at nr
      | exn a b => simp [notRef] at nr
      | _ => rfl
    have e4 : evCallO bAll (evCons (evMk mkI (evComp [2, 3, 4] (itOf itmZip (evCons (evVar 1) (evCons (evBin ixD (evVar 0) (evC (.int 0))) evNil))) (tgTup 2 (tgCons (tgN 2) (tgCons (tgTup 2 (tgCons (tgN 3) (tgCons (tgN 4) tgNil))) tgNil))) evYes (evAnd (evCall c_is_whole (evCons (evVar 2) evNil)) (evChain oLe oLt (evC (.int 0)) (evVar 2) (evVar 4))))) evNil) [some (grD g), some (.tup ds), none, none, none] S = .ok (.bl ((ds.zip g.cells).all valOk)) S := by
      exact all_of valOk hc
    rw [decide_eq_true hl, Bool.true_and]
    rw [decide_eq_true hl] at e2
    simp only [evSeq, evIfS, evOrT, evNotT, e1, e2, bind_ok, Bool.not_true, Bool.false_eq_true, if_false, evNext, evRet, e4]
  · rw [decide_eq_false hl, Bool.false_and]
    rw [decide_eq_false hl] at e2
    simp only [evSeq, evIfS, evOrT, evNotT, e1, e2, bind_ok, Bool.not_true, Bool.not_false, Bool.false_eq_true, if_false, if_true, evRet, evC]
theorem is_state_odd {g : Gr} {S : Store} {d : D} (h : notRef d = true) (ht : isiD .tuple d = false) : c_is_state [grD g, d] S = .ok (.bl false) S := by
  refine fn_rt rfl ?_
  unfold b_is_state
  cases d <;> first | rfl | (simp [notRef] at h; done) | (simp [isiD] at ht; done)
end K84
end
section
set_option Elab.async false
set_option linter.all false
set_option maxRecDepth 100000
set_option maxHeartbeats 4000000
/-! plain: texts of numbers -/
namespace K84
open PySem PySem.Spec PyProof.Rows L2 DL
local macro_rules | `(tactic| walk_at "ev") => `(tactic| simp only [evSeq, evIfS, evRet, evRetN, evVar, evC, evBin, evUn, p2, evNil, evCons, evTup, evLst, evNew, evTest, evAndT, evOrT, evNotT, evAnd, evOr, evNot, evIte, evIteT, evTruth, evChain, evCall, evCallO, evIsi, evAsg, evDrop, evMk, mkI, mkN, evNext, tgN, tgTup, tgCons, tgNil, asB, dTruth, notRef, isiD, bLen, oLe, oLt, oGe, oGt, oSub, oInt, oAdd, oIsN, oNotN, DL.isNon,
  bind_ok, bind_bad, ofO_some, ofO_none, Option.map_some, Option.map_none, List.getElem?_cons_zero, List.getElem?_cons_succ, List.set_cons_zero, List.set_cons_succ, List.length_cons, List.length_nil, if_true, if_false, Bool.false_eq_true, Bool.not_true, Bool.not_false, decide_true, decide_false, and_self, reduceIte, *])

theorem oEq_ok {a b : D} {S : Store} (ha : okD a = true) (hb : okD b = true) : oEq a b S = some (.bl (eqD a b), S) := by
  unfold oEq
  rw [if_pos ⟨ha, hb⟩]
theorem oNe_ok {a b : D} {S : Store} (ha : okD a = true) (hb : okD b = true) : oNe a b S = some (.bl (!eqD a b), S) := by
  unfold oNe
  rw [if_pos ⟨ha, hb⟩]
theorem okD_str {z : Str} (h : PyData.strOk z = true) : okD (.str z) = true := okD_of (n := 0) h (by decide)
theorem wEq {a b : Str} {v : Bool} {S : Store} (h : (PyData.strOk a && (PyData.strOk b && ((a == b) == v))) = true) : oEq (.str a) (.str b) S = some (.bl v, S) := by
  simp only [Bool.and_eq_true, beq_iff_eq] at h
  rw [oEq_ok (okD_str h.1) (okD_str h.2.1), eqD_str, h.2.2]
theorem wIn {a : Str} {zs : List Str} {v : Bool} {S : Store} (h : zs.contains a = v) : memD false (.str a) (.tup (zs.map D.str)) S = some (.bl v, S) := by
  rw [mem_strs, h]
theorem wNotIn {a : Str} {zs : List Str} {v : Bool} {S : Store} (h : (!zs.contains a) = v) : memD true (.str a) (.tup (zs.map D.str)) S = some (.bl v, S) := by
  show (if flatD (.str a) = true ∧ (zs.map D.str).all flatD = true then some (D.bl (true ^^ inD (.str a) (zs.map D.str)), S) else none) = _
  rw [if_pos ⟨rfl, flat_strs zs⟩, in_strs, Bool.true_xor, h]
theorem iEq {i j : Int} {v : Bool} {S : Store} (h : (i == j) = v) : oEq (.int i) (.int j) S = some (.bl v, S) := by
  rw [oEq_ok rfl rfl, eqD_int, h]
theorem iNe {i j : Int} {v : Bool} {S : Store} (h : (!(i == j)) = v) : oNe (.int i) (.int j) S = some (.bl v, S) := by
  rw [oNe_ok rfl rfl, eqD_int, h]
/-! ### the texts -/
inductive Op3 where
  | add | sub | mul
def Op3.word : Op3 → Str
  | .add => "add"
  | .sub => "sub"
  | .mul => "mul"
inductive Vl where
  | num (n : Int)
  | cell (x : Str)
  | op (o : Op3) (a b : Vl)
inductive Ts where
  | eq (a b : Vl)
  | less (a b : Vl)
  | nt (t : Ts)
  | con (both : Bool) (a b : Ts)
def vlD : Vl → D
  | .num n => .tup [.str "num", .int n]
  | .cell x => .tup [.str "cell", .str x]
  | .op o a b => .tup [.str o.word, vlD a, vlD b]
def conW (both : Bool) : Str := if both then "and" else "or"
def tsD : Ts → D
  | .eq a b => .tup [.str "eq", vlD a, vlD b]
  | .less a b => .tup [.str "less", vlD a, vlD b]
  | .nt t => .tup [.str "not", tsD t]
  | .con c a b => .tup [.str (conW c), tsD a, tsD b]
def depV : Vl → Nat
  | .num _ => 0
  | .cell _ => 0
  | .op _ a b => max (depV a) (depV b) + 1
def depT : Ts → Nat
  | .eq _ _ => 0
  | .less _ _ => 0
  | .nt t => depT t + 1
  | .con _ a b => max (depT a) (depT b) + 1
def vlOk (names : List Str) : Vl → Prop
  | .num n => 0 ≤ n ∧ n ≤ 99
  | .cell x => x ∈ names
  | .op _ a b => vlOk names a ∧ vlOk names b
def tsOk (names : List Str) (d : Nat) : Ts → Prop
  | .eq a b => (vlOk names a ∧ depV a ≤ d) ∧ vlOk names b ∧ depV b ≤ d
  | .less a b => (vlOk names a ∧ depV a ≤ d) ∧ vlOk names b ∧ depV b ≤ d
  | .nt t => tsOk names d t
  | .con _ a b => tsOk names d a ∧ tsOk names d b
theorem opw_ok (o : Op3) : PyData.strOk o.word = true := by cases o <;> decide +kernel
theorem conw_ok (b : Bool) : PyData.strOk (conW b) = true := by cases b <;> decide +kernel
theorem okN_vl {names : List Str} (hn : ∀ z ∈ names, PyData.strOk z = true) : ∀ v : Vl, vlOk names v → okN (depV v + 1) (vlD v) = true
  | .num n, _ => by
    show (okN 0 (.str "num") && (okN 0 (.int n) && true)) = true
    rw [show okN 0 (.str "num") = true by decide +kernel]
    rfl
  | .cell x, h => by
    show (okN 0 (.str "cell") && (okN 0 (.str x) && true)) = true
    rw [show okN 0 (.str "cell") = true by decide +kernel, show okN 0 (.str x) = true from hn x h]
    rfl
  | .op o a b, h => by
    have ha := okN_up (okN_vl hn a h.1) (m := depV (.op o a b)) (by simp only [depV]; omega)
    have hb := okN_up (okN_vl hn b h.2) (m := depV (.op o a b)) (by simp only [depV]; omega)
    show (okN (depV (.op o a b)) (.str o.word) && (okN (depV (.op o a b)) (vlD a) && (okN (depV (.op o a b)) (vlD b) && true))) = true
    rw [ha, hb, show okN (depV (.op o a b)) (.str o.word) = true from opw_ok o]
    rfl
theorem okN_ts {names : List Str} {d : Nat} (hn : ∀ z ∈ names, PyData.strOk z = true) : ∀ t : Ts, tsOk names d t → okN (depT t + d + 2) (tsD t) = true
  | .eq a b, h => by
    have ha := okN_up (okN_vl hn a h.1.1) (m := d + 1) (by have := h.1.2; omega)
    have hb := okN_up (okN_vl hn b h.2.1) (m := d + 1) (by have := h.2.2; omega)
    show okN (0 + d + 2) (tsD (.eq a b)) = true
    rw [Nat.zero_add]
    show (okN (d + 1) (.str "eq") && (okN (d + 1) (vlD a) && (okN (d + 1) (vlD b) && true))) = true
    rw [ha, hb, show okN (d + 1) (.str "eq") = true by show PyData.strOk _ = true; decide +kernel]
    rfl
  | .less a b, h => by
    have ha := okN_up (okN_vl hn a h.1.1) (m := d + 1) (by have := h.1.2; omega)
    have hb := okN_up (okN_vl hn b h.2.1) (m := d + 1) (by have := h.2.2; omega)
    show okN (0 + d + 2) (tsD (.less a b)) = true
    rw [Nat.zero_add]
    show (okN (d + 1) (.str "less") && (okN (d + 1) (vlD a) && (okN (d + 1) (vlD b) && true))) = true
    rw [ha, hb, show okN (d + 1) (.str "less") = true by show PyData.strOk _ = true; decide +kernel]
    rfl
  | .nt t, h => by
    have ht := okN_ts hn t h
    have e : depT (.nt t) + d + 2 = (depT t + d + 2) + 1 := by simp only [depT]; omega
    rw [e]
    show (okN (depT t + d + 2) (.str "not") && (okN (depT t + d + 2) (tsD t) && true)) = true
    rw [ht, show okN (depT t + d + 2) (.str "not") = true by show PyData.strOk _ = true; decide +kernel]
    rfl
  | .con c a b, h => by
    have e : depT (.con c a b) + d + 2 = (max (depT a) (depT b) + d + 2) + 1 := by simp only [depT]; omega
    have ha := okN_up (okN_ts hn a h.1) (m := max (depT a) (depT b) + d + 2) (by omega)
    have hb := okN_up (okN_ts hn b h.2) (m := max (depT a) (depT b) + d + 2) (by omega)
    rw [e]
    show (okN (max (depT a) (depT b) + d + 2) (.str (conW c)) && (okN (max (depT a) (depT b) + d + 2) (tsD a) && (okN (max (depT a) (depT b) + d + 2) (tsD b) && true))) = true
    rw [ha, hb, show okN (max (depT a) (depT b) + d + 2) (.str (conW c)) = true from conw_ok c]
    rfl
/-- what begins with a word -/
theorem is_worded_ok {w : Str} {ds : List D} {S : Store} (h : okD (.tup (.str w :: ds)) = true) : c_is_worded [.tup (.str w :: ds)] S = .ok (.bl true) S := by
  refine fn_rt rfl ?_
  have e1 : oNe (.tup (.str w :: ds)) (.tup []) S = some (.bl true, S) := by
    rw [oNe_ok h (by decide +kernel)]
    rfl
  have e2 : evBin oNe (evVar 0) (evTup evNil) [some (.tup (.str w :: ds))] S = .ok (.bl true) S := by
    show ofO (oNe (.tup (.str w :: ds)) (.tup []) S) = _
    rw [e1]
    rfl
  have e3 : evIsi .str (evBin ixD (evVar 0) (evC (.int 0))) [some (.tup (.str w :: ds))] S = .ok (.bl true) S := by
    have : ixD (.tup (.str w :: ds)) (.int 0) S = some (.str w, S) := by
      show (L2.atI (D.str w :: ds) 0).map (·, S) = _
      simp [L2.atI, L2.ixN]
    show ((ofO (ixD (.tup (.str w :: ds)) (.int 0) S)).bind _) = _
    rw [this]
    rfl
  unfold b_is_worded
  show evRet _ [some _] S = _
  simp only [evRet, evAnd, show evIsi .tuple (evVar 0) [some (.tup (.str w :: ds))] S = .ok (.bl true) S from rfl, bind_ok, e2, e3]
theorem is_one_of_ok {x : Str} {names : List Str} {S : Store} (h : x ∈ names) : c_is_one_of [.str x, .tup (names.map D.str)] S = .ok (.bl true) S := by
  refine fn_rt rfl ?_
  have e1 := wIn (S := S) (a := x) (zs := names) (v := true) (by simpa using h)
  unfold b_is_one_of
  show evRet _ [some _, some _] S = _
  clear h
  walk_at "ev"
theorem atI0 {d : D} {ds : List D} {S : Store} : ixD (.tup (d :: ds)) (.int 0) S = some (d, S) := by
  show (L2.atI (d :: ds) 0).map (·, S) = _
  simp [L2.atI, L2.ixN]
theorem atI1 {d e : D} {ds : List D} {S : Store} : ixD (.tup (d :: e :: ds)) (.int 1) S = some (e, S) := by
  have h : L2.ixN (d :: e :: ds).length 1 = some 1 := by
    unfold L2.ixN
    rw [if_pos (by decide), if_pos (by simp only [List.length_cons]; omega)]
    rfl
  show (L2.atI (d :: e :: ds) 1).map (·, S) = _
  unfold L2.atI
  rw [h]
  rfl
theorem atI2 {d e f : D} {ds : List D} {S : Store} : ixD (.tup (d :: e :: f :: ds)) (.int 2) S = some (f, S) := by
  have h : L2.ixN (d :: e :: f :: ds).length 2 = some 2 := by
    unfold L2.ixN
    rw [if_pos (by decide), if_pos (by simp only [List.length_cons]; omega)]
    rfl
  show (L2.atI (d :: e :: f :: ds) 2).map (·, S) = _
  unfold L2.atI
  rw [h]
  rfl
theorem is_number_ok {names : List Str} {S : Store} (hn : ∀ z ∈ names, PyData.strOk z = true) : ∀ (v : Vl) (k : Nat) (left : Int), vlOk names v → depV v < k → (depV v : Int) < left → depV v ≤ 60 → c_is_number k [.tup (names.map D.str), vlD v, .int left] S = .ok (.bl true) S
  | .num n, k + 1, left, h, hk, hl, hd => by
    refine fn_rt rfl ?_
    have hl : (0 : Int) < left := hl
    have e1 : oEq (.int left) (.int 0) S = some (.bl false, S) := iEq (by simpa using Int.ne_of_gt hl)
    have e2 := is_worded_ok (S := S) (w := "num") (ds := [.int n]) (okD_of (okN_vl hn (.num n) h) (by show 0 + 1 ≤ 64; decide))
    have e3 : oEq (.str "num") (.str "num") S = some (.bl true, S) := wEq (by decide +kernel)
    have e4 := is_whole_int (n := n) (S := S)
    have e5 : oEq (.int ((2 : Nat) : Int)) (.int 2) S = some (.bl true, S) := iEq rfl
    have b1 : decide ((0 : Int) ≤ n) = true := decide_eq_true h.1
    have b2 : decide (n ≤ 99) = true := decide_eq_true h.2
    have e6 := atI0 (d := .str "num") (ds := [.int n]) (S := S)
    have e7 := atI1 (d := .str "num") (e := .int n) (ds := []) (S := S)
    unfold b_is_number
    show evSeq _ _ [some _, some (.tup [.str "num", .int n]), some _, none] S = _
    clear h hk hl hd hn
    walk_at "ev"
  | .cell x, k + 1, left, h, hk, hl, hd => by
    refine fn_rt rfl ?_
    have hl : (0 : Int) < left := hl
    have e1 : oEq (.int left) (.int 0) S = some (.bl false, S) := iEq (by simpa using Int.ne_of_gt hl)
    have e2 := is_worded_ok (S := S) (w := "cell") (ds := [.str x]) (okD_of (okN_vl hn (.cell x) h) (by show 0 + 1 ≤ 64; decide))
    have e3 : oEq (.str "cell") (.str "num") S = some (.bl false, S) := wEq (by decide +kernel)
    have e4 : oEq (.str "cell") (.str "cell") S = some (.bl true, S) := wEq (by decide +kernel)
    have e5 : oEq (.int ((2 : Nat) : Int)) (.int 2) S = some (.bl true, S) := iEq rfl
    have e6 := atI0 (d := .str "cell") (ds := [.str x]) (S := S)
    have e7 := atI1 (d := .str "cell") (e := .str x) (ds := []) (S := S)
    have e8 := is_one_of_ok (S := S) (x := x) (names := names) h
    unfold b_is_number
    show evSeq _ _ [some _, some (.tup [.str "cell", .str x]), some _, none] S = _
    clear h hk hl hd hn
    walk_at "ev"
  | .op o a b, k + 1, left, h, hk, hl, hd => by
    refine fn_rt rfl ?_
    have hk : max (depV a) (depV b) + 1 < k + 1 := hk
    have hl : ((max (depV a) (depV b) + 1 : Nat) : Int) < left := hl
    have hd' : max (depV a) (depV b) + 1 ≤ 60 := hd
    have r1 := is_number_ok (S := S) hn a k (left - 1) h.1 (by omega) (by omega) (by omega)
    have r2 := is_number_ok (S := S) hn b k (left - 1) h.2 (by omega) (by omega) (by omega)
    have e1 : oEq (.int left) (.int 0) S = some (.bl false, S) := iEq (by
      have : left ≠ 0 := by omega
      simpa using this)
    have e2 := is_worded_ok (S := S) (w := o.word) (ds := [vlD a, vlD b]) (okD_of (okN_vl hn (.op o a b) h) (by show max (depV a) (depV b) + 1 + 1 ≤ 64; omega))
    have e3 : oEq (.str o.word) (.str "num") S = some (.bl false, S) := wEq (by cases o <;> decide +kernel)
    have e4 : oEq (.str o.word) (.str "cell") S = some (.bl false, S) := wEq (by cases o <;> decide +kernel)
    have e5 : memD true (.str o.word) (.tup [.str "add", .str "sub", .str "mul"]) S = some (.bl false, S) := wNotIn (zs := ["add", "sub", "mul"]) (by cases o <;> decide +kernel)
    have e6 : oNe (.int ((3 : Nat) : Int)) (.int 3) S = some (.bl false, S) := iNe rfl
    have e7 := atI0 (d := .str o.word) (ds := [vlD a, vlD b]) (S := S)
    have e8 := atI1 (d := .str o.word) (e := vlD a) (ds := [vlD b]) (S := S)
    have e9 := atI2 (d := .str o.word) (e := vlD a) (f := vlD b) (ds := []) (S := S)
    have z3 : ([D.str "add", D.str "sub", D.str "mul"] : List D).length ≤ sizeLine := by rw [sizeLine_eq]; decide
    unfold b_is_number
    show evSeq _ _ [some _, some (.tup [.str o.word, vlD a, vlD b]), some _, none] S = _
    clear h hk hl hd hd' hn
    simp only [List.length_cons, List.length_nil] at z3
    walk_at "ev"
end K84
end
section
set_option Elab.async false
set_option linter.all false
set_option maxRecDepth 100000
set_option maxHeartbeats 4000000
/-! plain: texts of tests -/
namespace K84
open PySem PySem.Spec PyProof.Rows L2 DL
local macro_rules | `(tactic| walk_at "ev") => `(tactic| simp only [evSeq, evIfS, evRet, evRetN, evVar, evC, evBin, evUn, p2, evNil, evCons, evTup, evLst, evNew, evTest, evAndT, evOrT, evNotT, evAnd, evOr, evNot, evIte, evIteT, evTruth, evChain, evCall, evCallO, evIsi, evAsg, evDrop, evMk, mkI, mkN, evNext, tgN, tgTup, tgCons, tgNil, asB, dTruth, notRef, isiD, bLen, oLe, oLt, oGe, oGt, oSub, oInt, oAdd, oIsN, oNotN, DL.isNon,
  bind_ok, bind_bad, ofO_some, ofO_none, Option.map_some, Option.map_none, List.getElem?_cons_zero, List.getElem?_cons_succ, List.set_cons_zero, List.set_cons_succ, List.length_cons, List.length_nil, if_true, if_false, Bool.false_eq_true, Bool.not_true, Bool.not_false, decide_true, decide_false, and_self, reduceIte, *])

theorem lc_of {fc : DEnv → Store → R (List D)} {δ : DEnv} {S S' : Store} {ys : List D} (hc : fc δ S = .ok ys S') : evMk mkI fc δ S = .ok (.lst ys) S' := by
  unfold evMk
  rw [hc]
  rfl
theorem pures_strs (zs : List Str) : pureDs (zs.map D.str) = true := by
  induction zs with
  | nil => rfl
  | cons z zs ih => show (true && pureDs (zs.map D.str)) = true; rw [ih]; rfl
theorem names_in_any {α : Type} {f : α → D} {n : α → Str} {es : List α} {S : Store} (h : ∀ x ∈ es, ixD (f x) (.int 0) S = some (.str (n x), S)) (hl : es.length ≤ 1000) : c_names_in [.tup (es.map f)] S = .ok (.tup ((es.map n).map D.str)) S := by
  refine fn_rt (pures_strs _) ?_
  have hc : evComp [1] (itSeq (evVar 0)) (tgN 1) evYes (evBin ixD (evVar 1) (evC (.int 0))) [some (.tup (es.map f)), none] S = .ok (es.map fun x => D.str (n x)) S := by
    refine comp_all (m := ⟨es.map f, fun _ => True⟩) f (fun x => D.str (n x)) rfl rfl trivial (fun x hx => ⟨[some (.tup (es.map f)), some (f x)], rfl, ?_⟩) (by rw [sizeLine_eq]; omega)
    show ofO (ixD (f x) (.int 0) S) = _
    rw [h x hx]
    rfl
  have e := tuple_of hc
  unfold b_names_in evRet
  show R.bind (evCallO bTuple _ [some (.tup (es.map f)), none] S) _ = _
  rw [e, List.map_map]
  rfl
theorem names_cells {g : Gr} {S : Store} (G : GoodGr g) : c_names_in [.tup (g.cells.map cellD)] S = .ok (.tup ((g.cells.map (·.1)).map D.str)) S := names_in_any (fun x _ => atI0) (by have := G.c1; omega)
theorem two_parts {d a b : D} {S : Store} {x0 x2 x3 x4 : Option D} : itSeq (evSl (evVar 1) (evPart (evC (.int 1))) evNoPart) [x0, some (.tup [d, a, b]), x2, x3, x4] S = .ok ⟨[a, b], fun _ => True⟩ S := rfl
theorem is_test_vls {w : Str} {names : List Str} {S : Store} {k : Nat} {left : Int} {a b : Vl} (hn : ∀ z ∈ names, PyData.strOk z = true) (hw : w = "eq" ∨ w = "less") (ha : vlOk names a ∧ depV a ≤ 5) (hb : vlOk names b ∧ depV b ≤ 5) (hl : 0 < left) :
    c_is_test (k + 1) [.tup (names.map D.str), .tup [.str w, vlD a, vlD b], .int left] S = .ok (.bl true) S := by
  refine fn_rt rfl ?_
  have e1 : oEq (.int left) (.int 0) S = some (.bl false, S) := iEq (by simpa using Int.ne_of_gt hl)
  have ok : okN 7 (.tup [.str w, vlD a, vlD b]) = true := by
    have h1 := okN_up (okN_vl hn a ha.1) (m := 6) (by omega)
    have h2 := okN_up (okN_vl hn b hb.1) (m := 6) (by omega)
    have h3 : okN 6 (.str w) = true := by
      rcases hw with rfl | rfl
      · show PyData.strOk _ = true
        decide +kernel
      · show PyData.strOk _ = true
        decide +kernel
    show (okN 6 (.str w) && (okN 6 (vlD a) && (okN 6 (vlD b) && true))) = true
    rw [h1, h2, h3]
    rfl
  have e2 := is_worded_ok (S := S) (w := w) (ds := [vlD a, vlD b]) (okD_of ok (by decide))
  have e3 : memD false (.str w) (.tup [.str "eq", .str "less"]) S = some (.bl true, S) := wIn (zs := ["eq", "less"]) (by rcases hw with rfl | rfl <;> decide +kernel)
  have e4 : oEq (.int ((3 : Nat) : Int)) (.int 3) S = some (.bl true, S) := iEq rfl
  have e7 := atI0 (d := .str w) (ds := [vlD a, vlD b]) (S := S)
  have hc : evComp [4] (itSeq (evSl (evVar 1) (evPart (evC (.int 1))) evNoPart)) (tgN 4) evYes (evCall (c_is_number 8) (evCons (evVar 0) (evCons (evVar 4) (evCons (evC (.int 6)) evNil)))) [some (.tup (names.map D.str)), some (.tup [.str w, vlD a, vlD b]), some (.int left), some (.str w), none] S = .ok ([a, b].map fun x => D.bl ((fun _ => true) x)) S := by
    refine comp_all (m := ⟨[vlD a, vlD b], fun _ => True⟩) vlD _ two_parts rfl trivial (fun x hx => ⟨_, rfl, ?_⟩) (by rw [sizeLine_eq]; show 2 ≤ _; decide)
    have r : vlOk names x ∧ depV x ≤ 5 := by
      rcases List.mem_cons.mp hx with rfl | hx
      · exact ha
      · rcases List.mem_cons.mp hx with rfl | hx
        · exact hb
        · cases hx
    exact is_number_ok hn x 8 6 r.1 (by omega) (by omega) (by omega)
  have e8 := all_of _ hc
  simp only [List.all_cons, List.all_nil, Bool.and_self] at e8
  have z3 : ([D.str "eq", D.str "less"] : List D).length ≤ sizeLine := by rw [sizeLine_eq]; decide
  simp only [List.length_cons, List.length_nil] at z3
  unfold b_is_test
  show evSeq _ _ [some _, some (.tup [.str w, vlD a, vlD b]), some _, none, none] S = _
  clear hc hn hw ha hb hl ok
  generalize hX : evCallO bAll (evCons (evMk mkI (evComp [4] (itSeq (evSl (evVar 1) (evPart (evC (.int 1))) evNoPart)) (tgN 4) evYes (evCall (c_is_number 8) (evCons (evVar 0) (evCons (evVar 4) (evCons (evC (.int 6)) evNil)))))) evNil) = X at e8 ⊢
  clear hX
  walk_at "ev"
theorem is_test_ok {names : List Str} {S : Store} (hn : ∀ z ∈ names, PyData.strOk z = true) : ∀ (t : Ts) (k : Nat) (left : Int), tsOk names 5 t → depT t < k → (depT t : Int) < left → depT t ≤ 50 → c_is_test k [.tup (names.map D.str), tsD t, .int left] S = .ok (.bl true) S
  | .eq a b, k + 1, left, h, hk, hl, hd => is_test_vls hn (.inl rfl) h.1 h.2 hl
  | .less a b, k + 1, left, h, hk, hl, hd => is_test_vls hn (.inr rfl) h.1 h.2 hl
  | .nt t, k + 1, left, h, hk, hl, hd => by
    refine fn_rt rfl ?_
    have hk : depT t + 1 < k + 1 := hk
    have hl : ((depT t + 1 : Nat) : Int) < left := hl
    have hd' : depT t + 1 ≤ 50 := hd
    have r1 := is_test_ok (S := S) hn t k (left - 1) h (by omega) (by omega) (by omega)
    have e1 : oEq (.int left) (.int 0) S = some (.bl false, S) := iEq (by
      have : left ≠ 0 := by omega
      simpa using this)
    have e2 := is_worded_ok (S := S) (w := "not") (ds := [tsD t]) (okD_of (okN_ts hn (.nt t) h) (by show depT t + 1 + 5 + 2 ≤ 64; omega))
    have e3 : memD false (.str "not") (.tup [.str "eq", .str "less"]) S = some (.bl false, S) := wIn (zs := ["eq", "less"]) (by decide +kernel)
    have e4 : oEq (.str "not") (.str "not") S = some (.bl true, S) := wEq (by decide +kernel)
    have e5 : oEq (.int ((2 : Nat) : Int)) (.int 2) S = some (.bl true, S) := iEq rfl
    have e7 := atI0 (d := .str "not") (ds := [tsD t]) (S := S)
    have e8 := atI1 (d := .str "not") (e := tsD t) (ds := []) (S := S)
    have z3 : ([D.str "eq", D.str "less"] : List D).length ≤ sizeLine := by rw [sizeLine_eq]; decide
    simp only [List.length_cons, List.length_nil] at z3
    unfold b_is_test
    show evSeq _ _ [some _, some (.tup [.str "not", tsD t]), some _, none, none] S = _
    clear hn h hk hl hd hd'
    walk_at "ev"
  | .con c a b, k + 1, left, h, hk, hl, hd => by
    refine fn_rt rfl ?_
    have hk : max (depT a) (depT b) + 1 < k + 1 := hk
    have hl : ((max (depT a) (depT b) + 1 : Nat) : Int) < left := hl
    have hd' : max (depT a) (depT b) + 1 ≤ 50 := hd
    have r1 := is_test_ok (S := S) hn a k (left - 1) h.1 (by omega) (by omega) (by omega)
    have r2 := is_test_ok (S := S) hn b k (left - 1) h.2 (by omega) (by omega) (by omega)
    have e1 : oEq (.int left) (.int 0) S = some (.bl false, S) := iEq (by
      have : left ≠ 0 := by omega
      simpa using this)
    have e2 := is_worded_ok (S := S) (w := conW c) (ds := [tsD a, tsD b]) (okD_of (okN_ts hn (.con c a b) h) (by show max (depT a) (depT b) + 1 + 5 + 2 ≤ 64; omega))
    have e3 : memD false (.str (conW c)) (.tup [.str "eq", .str "less"]) S = some (.bl false, S) := wIn (zs := ["eq", "less"]) (by cases c <;> decide +kernel)
    have e4 : oEq (.str (conW c)) (.str "not") S = some (.bl false, S) := wEq (by cases c <;> decide +kernel)
    have e5 : memD true (.str (conW c)) (.tup [.str "and", .str "or"]) S = some (.bl false, S) := wNotIn (zs := ["and", "or"]) (by cases c <;> decide +kernel)
    have e6 : oNe (.int ((3 : Nat) : Int)) (.int 3) S = some (.bl false, S) := iNe rfl
    have e7 := atI0 (d := .str (conW c)) (ds := [tsD a, tsD b]) (S := S)
    have e8 := atI1 (d := .str (conW c)) (e := tsD a) (ds := [tsD b]) (S := S)
    have e9 := atI2 (d := .str (conW c)) (e := tsD a) (f := tsD b) (ds := []) (S := S)
    have z3 : ([D.str "eq", D.str "less"] : List D).length ≤ sizeLine := by rw [sizeLine_eq]; decide
    simp only [List.length_cons, List.length_nil] at z3
    unfold b_is_test
    show evSeq _ _ [some _, some (.tup [.str (conW c), tsD a, tsD b]), some _, none, none] S = _
    clear hn h hk hl hd hd'
    walk_at "ev"
theorem name_str {z : Str} (h : nameOk z = true) : PyData.strOk z = true := by
  unfold nameOk at h
  simp only [Bool.and_eq_true] at h
  have h5 := List.all_eq_true.mp h.2.2.2.2
  show z.cps.all (· < 0x110000) = true
  rw [← Array.all_toList]
  refine List.all_eq_true.mpr fun c hc => ?_
  have d1 : ∀ c ∈ lettersT.cps.toList, c < 0x110000 := by decide +kernel
  have d2 : ∀ c ∈ figuresT.cps.toList, c < 0x110000 := by decide +kernel
  have := h5 c hc
  simp only [Bool.or_eq_true, isLet, isFig, decide_eq_true_eq] at this
  exact decide_eq_true (this.elim (d1 c) (d2 c))
theorem is_number_text_ok {g : Gr} {S : Store} (G : GoodGr g) {v : Vl} (h : vlOk (g.cells.map (·.1)) v) (hd : depV v ≤ 5) : c_is_number_text [grD g, vlD v] S = .ok (.bl true) S := by
  refine fn_rt rfl ?_
  have hn : ∀ z ∈ g.cells.map (·.1), PyData.strOk z = true := fun z hz => by
    obtain ⟨p, hp, rfl⟩ := List.mem_map.mp hz
    exact name_str (G.c2 p hp).1
  have e1 := names_cells (S := S) G
  have e2 := is_number_ok (S := S) hn v 8 6 h (by omega) (by omega) (by omega)
  have e3 : ixD (grD g) (.int 0) S = some (.tup (g.cells.map cellD), S) := atI0
  unfold b_is_number_text
  show evRet _ [some (grD g), some (vlD v)] S = _
  clear hn h hd G
  walk_at "ev"
theorem is_test_text_ok {g : Gr} {S : Store} (G : GoodGr g) {t : Ts} (h : tsOk (g.cells.map (·.1)) 5 t) (hd : depT t ≤ 5) : c_is_test_text [grD g, tsD t] S = .ok (.bl true) S := by
  refine fn_rt rfl ?_
  have hn : ∀ z ∈ g.cells.map (·.1), PyData.strOk z = true := fun z hz => by
    obtain ⟨p, hp, rfl⟩ := List.mem_map.mp hz
    exact name_str (G.c2 p hp).1
  have e1 := names_cells (S := S) G
  have e2 := is_test_ok (S := S) hn t 8 6 h (by omega) (by omega) (by omega)
  have e3 : ixD (grD g) (.int 0) S = some (.tup (g.cells.map cellD), S) := atI0
  unfold b_is_test_text
  show evRet _ [some (grD g), some (tsD t)] S = _
  clear hn h hd G
  walk_at "ev"
end K84
end
section
set_option Elab.async false
set_option linter.all false
set_option maxRecDepth 100000
set_option maxHeartbeats 4000000
/-! plain: worths -/
namespace K84
open PySem PySem.Spec PyProof.Rows L2 DL
local macro_rules | `(tactic| walk_at "ev") => `(tactic| simp only [evSeq, evIfS, evRet, evRetN, evVar, evC, evBin, evUn, p2, evNil, evCons, evTup, evLst, evNew, evTest, evAndT, evOrT, evNotT, evAnd, evOr, evNot, evIte, evIteT, evTruth, evChain, evCall, evCallO, evIsi, evAsg, evDrop, evMk, mkI, mkN, evNext, tgN, tgTup, tgCons, tgNil, asB, dTruth, notRef, isiD, bLen, oLe, oLt, oGe, oGt, oSub, oInt, oAdd, oIsN, oNotN, DL.isNon,
  bind_ok, bind_bad, ofO_some, ofO_none, Option.map_some, Option.map_none, List.getElem?_cons_zero, List.getElem?_cons_succ, List.set_cons_zero, List.set_cons_succ, List.length_cons, List.length_nil, if_true, if_false, Bool.false_eq_true, Bool.not_true, Bool.not_false, decide_true, decide_false, and_self, reduceIte, *])

def plc (zs : List Str) (x : Str) : Nat := zs.findIdx (· == x)
theorem find_strs (x : Str) (zs : List Str) : findF (.str x) (zs.map D.str) = zs.findIdx? (· == x) := by
  unfold findF
  rw [List.findIdx?_map]
  rfl
theorem find_plc {x : Str} {zs : List Str} (h : x ∈ zs) : zs.findIdx? (· == x) = some (plc zs x) := by
  rw [List.findIdx?_eq_some_of_exists ⟨x, h, by simp⟩]
  rfl
theorem plc_lt {x : Str} {zs : List Str} (h : x ∈ zs) : plc zs x < zs.length := List.findIdx_lt_length_of_exists ⟨x, h, by simp⟩
theorem index_tup {x : Str} {zs : List Str} {S : Store} (h : x ∈ zs) : tIndex (.tup (zs.map D.str)) [.str x] S = some (.int (plc zs x : Nat), S) := by
  show (if flatD (.str x) = true ∧ (zs.map D.str).all flatD = true then (findF (.str x) (zs.map D.str)).map fun j => (D.int (j : Nat), S) else none) = _
  rw [if_pos ⟨rfl, flat_strs zs⟩, find_strs, find_plc h]
  rfl
theorem at_nat {ds : List D} {i : Nat} {d : D} (h : ds[i]? = some d) : L2.atI ds (i : Nat) = some d := by
  have hl : i < ds.length := (List.getElem?_eq_some_iff.mp h).1
  have e : L2.ixN ds.length ((i : Nat) : Int) = some i := by
    unfold L2.ixN
    rw [if_pos (by omega), if_pos (by omega)]
    rfl
  unfold L2.atI
  rw [e]
  exact h
theorem ix_tup {ds : List D} {i : Nat} {d : D} {S : Store} (h : ds[i]? = some d) : ixD (.tup ds) (.int (i : Nat)) S = some (d, S) := by
  show (L2.atI ds (i : Nat)).map (·, S) = _
  rw [at_nat h]
  rfl
theorem ix_lst {ds : List D} {i : Nat} {d : D} {S : Store} (h : ds[i]? = some d) : ixD (.lst ds) (.int (i : Nat)) S = some (d, S) := by
  show (L2.atI ds (i : Nat)).map (·, S) = _
  rw [at_nat h]
  rfl
theorem ix_st {st : List Int} {i : Nat} {S : Store} (h : i < st.length) : ixD (stD st) (.int (i : Nat)) S = some (.int (st.getD i 0), S) := by
  refine ix_tup ?_
  rw [List.getElem?_map, List.getElem?_eq_getElem h, Option.map_some]
  congr 2
  rw [List.getD_eq_getElem?_getD, List.getElem?_eq_getElem h]
  rfl
/-! worths -/
def opV : Op3 → Int → Int → Int
  | .add, a, b => a + b
  | .sub, a, b => a - b
  | .mul, a, b => a * b
abbrev cns (g : Gr) : List Str := g.cells.map (·.1)
def valV (g : Gr) (st : List Int) : Vl → Int
  | .num n => n
  | .cell x => st.getD (plc (cns g) x) 0
  | .op o a b => opV o (valV g st a) (valV g st b)
theorem InSt.small : ∀ {cs : List (Str × Nat)} {vs : List Int}, InSt cs vs → (∀ p ∈ cs, p.2 ≤ 8) → ∀ i, 0 ≤ vs.getD i 0 ∧ vs.getD i 0 < 8
  | [], [], _, _, i => by simp
  | c :: cs, v :: vs, h, h8, 0 => by
    have := h8 c (List.mem_cons_self ..)
    have h1 := h.1.1
    have h2 := h.1.2
    show 0 ≤ v ∧ v < 8
    omega
  | c :: cs, v :: vs, h, h8, i + 1 => by
    have := InSt.small h.2 (fun p hp => h8 p (List.mem_cons_of_mem _ hp)) i
    simpa using this
def Op3.isAdd : Op3 → Bool
  | .add => true
  | _ => false
def Op3.isSub : Op3 → Bool
  | .sub => true
  | _ => false
def bndV (d : Nat) : Nat := 2 ^ (8 * 2 ^ d)
theorem bnd_sq (d : Nat) : bndV (d + 1) = bndV d * bndV d := by
  unfold bndV
  rw [← Nat.pow_add]
  congr 1
  rw [Nat.pow_succ]
  omega
theorem bnd_2 (d : Nat) : 2 ≤ bndV d := by
  unfold bndV
  have h : 1 ≤ 8 * 2 ^ d := by have := Nat.one_le_two_pow (n := d); omega
  calc 2 = 2 ^ 1 := rfl
    _ ≤ _ := Nat.pow_le_pow_right (by decide) h
theorem bnd_up {d e : Nat} (h : d ≤ e) : bndV d ≤ bndV e := by
  unfold bndV
  exact Nat.pow_le_pow_right (by decide) (Nat.mul_le_mul_left _ (Nat.pow_le_pow_right (by decide) h))
theorem val_bound {g : Gr} {st : List Int} (G : GoodGr g) (hst : InSt g.cells st) : ∀ v : Vl, vlOk (cns g) v → (valV g st v).natAbs < bndV (depV v)
  | .num n, h => by
    have h1 := h.1
    have h2 := h.2
    show n.natAbs < 2 ^ (8 * 2 ^ 0)
    have : (2 : Nat) ^ (8 * 2 ^ 0) = 256 := by decide
    omega
  | .cell x, _ => by
    have := hst.small (fun p hp => (G.c2 p hp).2.2) (plc (cns g) x)
    show (st.getD (plc (cns g) x) 0).natAbs < 2 ^ (8 * 2 ^ 0)
    have : (2 : Nat) ^ (8 * 2 ^ 0) = 256 := by decide
    omega
  | .op o a b, h => by
    have ha := Nat.lt_of_lt_of_le (val_bound G hst a h.1) (bnd_up (Nat.le_max_left (depV a) (depV b)))
    have hb := Nat.lt_of_lt_of_le (val_bound G hst b h.2) (bnd_up (Nat.le_max_right (depV a) (depV b)))
    show (opV o (valV g st a) (valV g st b)).natAbs < bndV (max (depV a) (depV b) + 1)
    rw [bnd_sq]
    have h2 := bnd_2 (max (depV a) (depV b))
    generalize bndV (max (depV a) (depV b)) = B at ha hb h2 ⊢
    have hB : B + B ≤ B * B := by
      have := Nat.mul_le_mul_right B h2
      omega
    cases o with
    | add => show (valV g st a + valV g st b).natAbs < _; omega
    | sub => show (valV g st a - valV g st b).natAbs < _; omega
    | mul =>
      show (valV g st a * valV g st b).natAbs < _
      rw [Int.natAbs_mul]
      exact Nat.mul_lt_mul'' ha hb
theorem bnd_wide {d : Nat} (h : d ≤ 6) : bndV d < 2 ^ 4000 := by
  have a := bnd_up h
  have b : bndV 6 < 2 ^ 4000 := Nat.pow_lt_pow_right (by decide) (show 8 * 2 ^ 6 < 4000 by decide)
  omega
theorem worth_in_ok {g : Gr} {st : List Int} {S : Store} (G : GoodGr g) (hst : InSt g.cells st) : ∀ (v : Vl) (k : Nat), vlOk (cns g) v → depV v < k → depV v ≤ 6 → c_worth_in k [grD g, vlD v, stD st] S = .ok (.int (valV g st v)) S
  | .num n, k + 1, h, hk, hd => by
    refine fn_rt rfl ?_
    have e1 := atI0 (d := .str "num") (ds := [.int n]) (S := S)
    have e2 := atI1 (d := .str "num") (e := .int n) (ds := []) (S := S)
    have e3 : oEq (.str "num") (.str "num") S = some (.bl true, S) := wEq (by decide +kernel)
    unfold b_worth_in
    show evSeq _ _ [some (grD g), some (.tup [.str "num", .int n]), some (stD st), none, none, none] S = .ok (.rt (.int n)) S
    clear h hk hd hst G
    walk_at "ev"
  | .cell x, k + 1, h, hk, hd => by
    refine fn_rt rfl ?_
    have e1 := atI0 (d := .str "cell") (ds := [.str x]) (S := S)
    have e2 := atI1 (d := .str "cell") (e := .str x) (ds := []) (S := S)
    have e3 : oEq (.str "cell") (.str "num") S = some (.bl false, S) := wEq (by decide +kernel)
    have e4 : oEq (.str "cell") (.str "cell") S = some (.bl true, S) := wEq (by decide +kernel)
    have e5 := names_cells (S := S) G
    have e6 : ixD (grD g) (.int 0) S = some (.tup (g.cells.map cellD), S) := atI0
    have e7 : tIndex (.tup ((g.cells.map (·.1)).map D.str)) [.str x] S = some (.int (plc (g.cells.map (·.1)) x : Nat), S) := index_tup h
    have e8 : ixD (stD st) (.int (plc (g.cells.map (·.1)) x : Nat)) S = some (.int (st.getD (plc (g.cells.map (·.1)) x) 0), S) := ix_st (by have h1 : plc (cns g) x < (cns g).length := plc_lt h; rw [List.length_map, ← hst.len] at h1; exact h1)
    unfold b_worth_in
    show evSeq _ _ [some (grD g), some (.tup [.str "cell", .str x]), some (stD st), none, none, none] S = .ok (.rt (.int (st.getD (plc (g.cells.map (·.1)) x) 0))) S
    clear h hk hd hst G
    have e9 : ∀ zs : List D, isTupD (.tup zs) = true := fun _ => rfl
    unfold evMethT
    walk_at "ev"
  | .op o a b, k + 1, h, hk, hd => by
    refine fn_rt rfl ?_
    have hk : max (depV a) (depV b) + 1 < k + 1 := hk
    have hd' : max (depV a) (depV b) + 1 ≤ 6 := hd
    have r1 := worth_in_ok (S := S) G hst a k h.1 (by omega) (by omega)
    have r2 := worth_in_ok (S := S) G hst b k h.2 (by omega) (by omega)
    have b1 := Nat.lt_of_lt_of_le (val_bound G hst a h.1) (bnd_up (Nat.le_max_left (depV a) (depV b)))
    have b2 := Nat.lt_of_lt_of_le (val_bound G hst b h.2) (bnd_up (Nat.le_max_right (depV a) (depV b)))
    have b3 := bnd_wide (d := max (depV a) (depV b)) (by omega)
    have m := mul_small (S := S) (Nat.lt_trans b1 b3) (Nat.lt_trans b2 b3)
    have e1 := atI0 (d := .str o.word) (ds := [vlD a, vlD b]) (S := S)
    have e2 := atI1 (d := .str o.word) (e := vlD a) (ds := [vlD b]) (S := S)
    have e2' := atI2 (d := .str o.word) (e := vlD a) (f := vlD b) (ds := []) (S := S)
    have e3 : oEq (.str o.word) (.str "num") S = some (.bl false, S) := wEq (by cases o <;> decide +kernel)
    have e4 : oEq (.str o.word) (.str "cell") S = some (.bl false, S) := wEq (by cases o <;> decide +kernel)
    have e5 : oEq (.str o.word) (.str "add") S = some (.bl o.isAdd, S) := wEq (by cases o <;> decide +kernel)
    have e6 : oEq (.str o.word) (.str "sub") S = some (.bl o.isSub, S) := wEq (by cases o <;> decide +kernel)
    unfold b_worth_in
    show evSeq _ _ [some (grD g), some (.tup [.str o.word, vlD a, vlD b]), some (stD st), none, none, none] S = .ok (.rt (.int (opV o (valV g st a) (valV g st b)))) S
    clear h hk hd hd' hst G b1 b2 b3
    unfold evPar2
    cases o <;> (simp only [Op3.isAdd, Op3.isSub] at e5 e6; simp only [opV]; walk_at "ev")
end K84
end
section
set_option Elab.async false
set_option linter.all false
set_option maxRecDepth 100000
set_option maxHeartbeats 4000000
/-! plain: worths, law side -/
namespace K84
open PySem PySem.Spec PyProof.Rows L2 DL
local macro_rules | `(tactic| walk_at "ev") => `(tactic| simp only [evSeq, evIfS, evRet, evRetN, evVar, evC, evBin, evUn, p2, evNil, evCons, evTup, evLst, evNew, evTest, evAndT, evOrT, evNotT, evAnd, evOr, evNot, evIte, evIteT, evTruth, evChain, evCall, evCallO, evIsi, evAsg, evDrop, evMk, mkI, mkN, evNext, tgN, tgTup, tgCons, tgNil, asB, dTruth, notRef, isiD, bLen, oLe, oLt, oGe, oGt, oSub, oInt, oAdd, oIsN, oNotN, DL.isNon,
  bind_ok, bind_bad, ofO_some, ofO_none, Option.map_some, Option.map_none, List.getElem?_cons_zero, List.getElem?_cons_succ, List.set_cons_zero, List.set_cons_succ, List.length_cons, List.length_nil, if_true, if_false, Bool.false_eq_true, Bool.not_true, Bool.not_false, decide_true, decide_false, and_self, reduceIte, *])

theorem ret_of {f : DEnv → Store → R D} {δ : DEnv} {S S' : Store} {d : D} (h : f δ S = .ok d S') : evRet f δ S = .ok (.rt d) S' := by
  unfold evRet
  rw [h]
  rfl
theorem bin_of {op : D → D → Store → Option (D × Store)} {fa fb : DEnv → Store → R D} {δ : DEnv} {S S1 S2 S3 : Store} {a b d : D} (h1 : fa δ S = .ok a S1) (h2 : fb δ S1 = .ok b S2) (h3 : op a b S2 = some (d, S3)) : evBin op fa fb δ S = .ok d S3 := by
  unfold evBin
  rw [h1, bind_ok, h2, bind_ok, h3]
  rfl
theorem asg_of {f : DEnv → Store → R D} {tg : D → DEnv → Store → R DEnv} {δ δ1 : DEnv} {S S1 S2 : Store} {d : D} (h : f δ S = .ok d S1) (h2 : tg d δ S1 = .ok δ1 S2) : evAsg f tg δ S = .ok (.nx δ1) S2 := by
  unfold evAsg
  rw [h, bind_ok, h2]
  rfl
theorem ifs_false {c : DEnv → Store → R Bool} {fa fb : DEnv → Store → R Fl} {δ : DEnv} {S S1 : Store} (h : c δ S = .ok false S1) : evIfS c fa fb δ S = fb δ S1 := by
  unfold evIfS
  rw [h]
  rfl
theorem ifs_true {c : DEnv → Store → R Bool} {fa fb : DEnv → Store → R Fl} {δ : DEnv} {S S1 : Store} (h : c δ S = .ok true S1) : evIfS c fa fb δ S = fa δ S1 := by
  unfold evIfS
  rw [h]
  rfl
theorem call_of {c : List D → Store → R D} {fr : DEnv → Store → R (List D)} {δ : DEnv} {S S1 S2 : Store} {ds : List D} {d : D} (h : fr δ S = .ok ds S1) (h2 : c ds S1 = .ok d S2) : evCall c fr δ S = .ok d S2 := by
  unfold evCall
  rw [h]
  exact h2
theorem find_strsD (x : Str) (zs : List Str) : findD (.str x) (zs.map D.str) = zs.findIdx? (· == x) := by
  unfold findD
  rw [List.findIdx?_map]
  rfl
theorem okN_strs {zs : List Str} (h : ∀ z ∈ zs, PyData.strOk z = true) (n : Nat) : (zs.map D.str).all (okN n) = true := by
  rw [List.all_map]
  exact List.all_eq_true.mpr fun z hz => by
    show okN n (.str z) = true
    exact okN_up (n := 0) (show PyData.strOk z = true from h z hz) (Nat.zero_le _)
theorem index_lst {x : Str} {zs : List Str} {S : Store} (hz : ∀ z ∈ zs, PyData.strOk z = true) (h : x ∈ zs) : mIndex (.lst (zs.map D.str)) [.str x] S = some (.int (plc zs x : Nat), S) := by
  show ((some (zs.map D.str)).bind fun xs => if okD (.lst xs) = true ∧ okD (.str x) = true then (findD (.str x) xs).map fun j => (D.int (j : Nat), S) else none) = _
  have h1 : okD (.lst (zs.map D.str)) = true := okD_of (n := 1) (by show (zs.map D.str).all (okN 0) = true; exact okN_strs hz 0) (by decide)
  rw [Option.bind_some, if_pos ⟨h1, okD_str (hz x h)⟩, find_strsD, find_plc h]
  rfl
theorem law_place_any {α : Type} {f : α → D} {n : α → Str} {es : List α} {x : Str} {S : Store} (h : ∀ x ∈ es, ixD (f x) (.int 0) S = some (.str (n x), S)) (hl : es.length ≤ 1000) (hz : ∀ z ∈ es.map n, PyData.strOk z = true) (hx : x ∈ es.map n) : c__law_place [.tup (es.map f), .str x] S = .ok (.int (plc (es.map n) x : Nat)) S := by
  refine fn_rt rfl ?_
  have hc : evComp [2] (itSeq (evVar 0)) (tgN 2) evYes (evBin ixD (evVar 2) (evC (.int 0))) [some (.tup (es.map f)), some (.str x), none] S = .ok (es.map fun x => D.str (n x)) S := by
    refine comp_all (m := ⟨es.map f, fun _ => True⟩) f (fun x => D.str (n x)) rfl rfl trivial (fun y hy => ⟨[some (.tup (es.map f)), some (.str x), some (f y)], rfl, ?_⟩) (by rw [sizeLine_eq]; omega)
    show ofO (ixD (f y) (.int 0) S) = _
    rw [h y hy]
    rfl
  have e0 : es.map (fun x => D.str (n x)) = (es.map n).map D.str := by rw [List.map_map]; rfl
  rw [e0] at hc
  have e1 := lc_of hc
  have e2 := index_lst (S := S) hz hx
  have e3 : (lstOf S (.lst ((es.map n).map D.str))).isSome = true := rfl
  unfold b__law_place
  show evRet _ [some _, some _, none] S = _
  clear hc e0 h hl hz hx
  unfold evMeth
  generalize evMk mkI (evComp [2] (itSeq (evVar 0)) (tgN 2) evYes (evBin ixD (evVar 2) (evC (.int 0)))) = X at e1 ⊢
  walk_at "ev"
theorem cell_strs {g : Gr} (G : GoodGr g) : ∀ z ∈ g.cells.map (·.1), PyData.strOk z = true := fun z hz => by
  obtain ⟨p, hp, rfl⟩ := List.mem_map.mp hz
  exact name_str (G.c2 p hp).1
theorem kind_strs {g : Gr} (G : GoodGr g) : ∀ z ∈ g.kinds.map (·.1), PyData.strOk z = true := fun z hz => by
  obtain ⟨p, hp, rfl⟩ := List.mem_map.mp hz
  exact name_str (G.k2 p hp).1
theorem law_place_cells {g : Gr} {S : Store} {x : Str} (G : GoodGr g) (h : x ∈ cns g) : c__law_place [.tup (g.cells.map cellD), .str x] S = .ok (.int (plc (cns g) x : Nat)) S :=
  law_place_any (fun x _ => atI0) (by have := G.c1; omega) (cell_strs G) h
abbrev kns (g : Gr) : List Str := g.kinds.map (·.1)
theorem law_place_kinds {g : Gr} {S : Store} {x : Str} (G : GoodGr g) (h : x ∈ kns g) : c__law_place [.tup (g.kinds.map kindD), .str x] S = .ok (.int (plc (kns g) x : Nat)) S :=
  law_place_any (fun x _ => atI0) (by have := G.k1; omega) (kind_strs G) h
theorem enumD_map {α : Type} (f : α → D) : ∀ (es : List α) (k : Nat), enumD k (es.map f) = (es.zipIdx k).map fun p => .tup [.int (p.2 : Nat), f p.1]
  | [], _ => rfl
  | e :: es, k => by
    rw [List.map_cons, List.zipIdx_cons, List.map_cons]
    unfold enumD
    rw [enumD_map f es (k + 1)]
theorem first_plc {α : Type} (n : α → Str) (x : Str) : ∀ (es : List α) (k : Nat), x ∈ es.map n → (((es.zipIdx k).filter fun p => n p.1 == x).map fun p => D.int (p.2 : Nat))[0]? = some (.int ((k + plc (es.map n) x : Nat) : Int))
  | [], _, h => by cases h
  | e :: es, k, h => by
    rw [List.zipIdx_cons, List.filter_cons]
    show (List.map _ (if (n e == x) = true then _ else _))[0]? = _
    cases he : n e == x with
    | true =>
      rw [if_pos rfl, List.map_cons, List.getElem?_cons_zero]
      have : plc ((e :: es).map n) x = 0 := by
        unfold plc
        rw [List.map_cons, List.findIdx_cons, he]
        rfl
      rw [this]
      rfl
    | false =>
      rw [if_neg (by decide)]
      have hx : x ∈ es.map n := by
        rcases List.mem_cons.mp h with e1 | h
        · rw [e1] at he
          simp at he
        · exact h
      rw [first_plc n x es (k + 1) hx]
      have : plc ((e :: es).map n) x = plc (es.map n) x + 1 := by
        unfold plc
        rw [List.map_cons, List.findIdx_cons, he]
        rfl
      rw [this]
      congr 2
      omega
theorem name_place_any {α : Type} {f : α → D} {n : α → Str} {es : List α} {x : Str} {S : Store} (h : ∀ x ∈ es, ixD (f x) (.int 0) S = some (.str (n x), S)) (hl : es.length ≤ 1000) (hz : ∀ z ∈ es.map n, PyData.strOk z = true) (hx : x ∈ es.map n) : c_name_place [.tup (es.map f), .str x] S = .ok (.int (plc (es.map n) x : Nat)) S := by
  refine fn_rt rfl ?_
  have hc : evComp [2, 3] (itOfS itmEnum (evCons (evVar 0) evNil)) (tgTup 2 (tgCons (tgN 2) (tgCons (tgN 3) tgNil))) (evTest (evBin oEq (evBin ixD (evVar 3) (evC (.int 0))) (evVar 1))) (evVar 2) [some (.tup (es.map f)), some (.str x), none, none] S = .ok (((es.zipIdx 0).filter fun p => n p.1 == x).map fun p => D.int (p.2 : Nat)) S := by
    refine comp_map (m := ⟨enumD 0 (es.map f), fun _ => True⟩) (fun (p : α × Nat) => .tup [.int (p.2 : Nat), f p.1]) (fun p => D.int (p.2 : Nat)) (fun p => n p.1 == x) rfl (enumD_map f es 0) trivial (fun p hp => ?_) (by rw [List.length_zipIdx, sizeLine_eq]; omega)
    refine ⟨[some (.tup (es.map f)), some (.str x), some (.int (p.2 : Nat)), some (f p.1)], rfl, ?_, fun _ => rfl⟩
    have hm : p.1 ∈ es := List.fst_mem_of_mem_zipIdx hp
    have e1 := h p.1 hm
    have e2 : oEq (.str (n p.1)) (.str x) S = some (.bl (n p.1 == x), S) := by
      rw [oEq_ok (okD_str (hz _ (List.mem_map_of_mem hm))) (okD_str (hz x hx)), eqD_str]
    clear h hl hz hx hp hm
    walk_at "ev"
  have e1 := lc_of hc
  have e2 := first_plc n x es 0 hx
  rw [Nat.zero_add] at e2
  have e3 := ix_lst (S := S) (i := 0) e2
  exact ret_of (bin_of e1 rfl e3)
def Op3.isMul : Op3 → Bool
  | .mul => true
  | _ => false
theorem law_number_ok {g : Gr} {st : List Int} {S : Store} (G : GoodGr g) (hst : InSt g.cells st) : ∀ (v : Vl) (k : Nat), vlOk (cns g) v → depV v < k → depV v ≤ 6 → c__law_number k [grD g, stD st, vlD v] S = .ok (.int (valV g st v)) S
  | .num n, k + 1, h, hk, hd => by
    refine fn_rt rfl ?_
    have e1 := atI0 (d := .str "num") (ds := [.int n]) (S := S)
    have e2 := atI1 (d := .str "num") (e := .int n) (ds := []) (S := S)
    have e3 : oEq (.str "num") (.str "num") S = some (.bl true, S) := wEq (by decide +kernel)
    unfold b__law_number
    show evSeq _ _ [some (grD g), some (stD st), some (.tup [.str "num", .int n]), none, none, none] S = .ok (.rt (.int n)) S
    clear h hk hd hst G
    walk_at "ev"
  | .cell x, k + 1, h, hk, hd => by
    refine fn_rt rfl ?_
    have e1 := atI0 (d := .str "cell") (ds := [.str x]) (S := S)
    have e2 := atI1 (d := .str "cell") (e := .str x) (ds := []) (S := S)
    have e3 : oEq (.str "cell") (.str "num") S = some (.bl false, S) := wEq (by decide +kernel)
    have e4 : oEq (.str "cell") (.str "cell") S = some (.bl true, S) := wEq (by decide +kernel)
    have e6 : ixD (grD g) (.int 0) S = some (.tup (g.cells.map cellD), S) := atI0
    have e7 := law_place_cells (S := S) G h
    have e8 : ixD (stD st) (.int (plc (g.cells.map (·.1)) x : Nat)) S = some (.int (st.getD (plc (g.cells.map (·.1)) x) 0), S) := ix_st (by have h1 : plc (cns g) x < (cns g).length := plc_lt h; rw [List.length_map, ← hst.len] at h1; exact h1)
    unfold b__law_number
    show evSeq _ _ [some (grD g), some (stD st), some (.tup [.str "cell", .str x]), none, none, none] S = .ok (.rt (.int (st.getD (plc (g.cells.map (·.1)) x) 0))) S
    clear h hk hd hst G
    walk_at "ev"
  | .op o a b, k + 1, h, hk, hd => by
    refine fn_rt rfl ?_
    have hk : max (depV a) (depV b) + 1 < k + 1 := hk
    have hd' : max (depV a) (depV b) + 1 ≤ 6 := hd
    have r1 := law_number_ok (S := S) G hst a k h.1 (by omega) (by omega)
    have r2 := law_number_ok (S := S) G hst b k h.2 (by omega) (by omega)
    have b1 := Nat.lt_of_lt_of_le (val_bound G hst a h.1) (bnd_up (Nat.le_max_left (depV a) (depV b)))
    have b2 := Nat.lt_of_lt_of_le (val_bound G hst b h.2) (bnd_up (Nat.le_max_right (depV a) (depV b)))
    have b3 := bnd_wide (d := max (depV a) (depV b)) (by omega)
    have m := mul_small (S := S) (Nat.lt_trans b1 b3) (Nat.lt_trans b2 b3)
    have e1 := atI0 (d := .str o.word) (ds := [vlD a, vlD b]) (S := S)
    have e2 := atI1 (d := .str o.word) (e := vlD a) (ds := [vlD b]) (S := S)
    have e2' := atI2 (d := .str o.word) (e := vlD a) (f := vlD b) (ds := []) (S := S)
    have e3 : oEq (.str o.word) (.str "num") S = some (.bl false, S) := wEq (by cases o <;> decide +kernel)
    have e4 : oEq (.str o.word) (.str "cell") S = some (.bl false, S) := wEq (by cases o <;> decide +kernel)
    have e5 : oEq (.str o.word) (.str "add") S = some (.bl o.isAdd, S) := wEq (by cases o <;> decide +kernel)
    have e6 : oEq (.str o.word) (.str "mul") S = some (.bl o.isMul, S) := wEq (by cases o <;> decide +kernel)
    unfold b__law_number
    show evSeq _ _ [some (grD g), some (stD st), some (.tup [.str o.word, vlD a, vlD b]), none, none, none] S = .ok (.rt (.int (opV o (valV g st a) (valV g st b)))) S
    clear h hk hd hd' hst G b1 b2 b3
    unfold evPar2
    cases o <;> (simp only [Op3.isAdd, Op3.isMul] at e5 e6; simp only [opV]; walk_at "ev")
/-! tests -/
def tstV (g : Gr) (st : List Int) : Ts → Bool
  | .eq a b => valV g st a == valV g st b
  | .less a b => decide (valV g st a < valV g st b)
  | .nt t => !tstV g st t
  | .con c a b => if c then tstV g st a && tstV g st b else tstV g st a || tstV g st b
theorem holds_vls {w : Str} {g : Gr} {st : List Int} {S : Store} {k : Nat} {a b : Vl} (G : GoodGr g) (hst : InSt g.cells st) (q : Bool) (hw : w = if q then "eq" else "less") (ha : vlOk (cns g) a ∧ depV a ≤ 5) (hb : vlOk (cns g) b ∧ depV b ≤ 5) :
    c_holds (k + 1) [grD g, .tup [.str w, vlD a, vlD b], stD st] S = .ok (.bl (if q then valV g st a == valV g st b else decide (valV g st a < valV g st b))) S := by
  refine fn_rt rfl ?_
  have r1 := worth_in_ok (S := S) G hst a 8 ha.1 (by omega) (by omega)
  have r2 := worth_in_ok (S := S) G hst b 8 hb.1 (by omega) (by omega)
  have e1 := atI0 (d := .str w) (ds := [vlD a, vlD b]) (S := S)
  have e2 := atI1 (d := .str w) (e := vlD a) (ds := [vlD b]) (S := S)
  have e2' := atI2 (d := .str w) (e := vlD a) (f := vlD b) (ds := []) (S := S)
  have e3 : oEq (.str w) (.str "not") S = some (.bl false, S) := wEq (by subst hw; cases q <;> decide +kernel)
  have e4 : memD false (.str w) (.tup [.str "and", .str "or"]) S = some (.bl false, S) := wIn (zs := ["and", "or"]) (by subst hw; cases q <;> decide +kernel)
  have e5 : oEq (.str w) (.str "eq") S = some (.bl q, S) := wEq (by subst hw; cases q <;> decide +kernel)
  have e6 : oEq (.int (valV g st a)) (.int (valV g st b)) S = some (.bl (valV g st a == valV g st b), S) := iEq rfl
  have z3 : ([D.str "and", D.str "or"] : List D).length ≤ sizeLine := by rw [sizeLine_eq]; decide
  simp only [List.length_cons, List.length_nil] at z3
  unfold b_holds
  show evSeq _ _ [some (grD g), some (.tup [.str w, vlD a, vlD b]), some (stD st), none, none, none, none, none] S = _
  clear hst G hw ha hb
  unfold evPar2
  cases q <;> walk_at "ev"
theorem holds_ok {g : Gr} {st : List Int} {S : Store} (G : GoodGr g) (hst : InSt g.cells st) : ∀ (t : Ts) (k : Nat), tsOk (cns g) 5 t → depT t < k → c_holds k [grD g, tsD t, stD st] S = .ok (.bl (tstV g st t)) S
  | .eq a b, k + 1, h, hk => holds_vls G hst true rfl h.1 h.2
  | .less a b, k + 1, h, hk => holds_vls G hst false rfl h.1 h.2
  | .nt t, k + 1, h, hk => by
    refine fn_rt rfl ?_
    have r1 := holds_ok (S := S) G hst t k h (Nat.lt_of_succ_lt_succ hk)
    have e1 := atI0 (d := .str "not") (ds := [tsD t]) (S := S)
    have e2 := atI1 (d := .str "not") (e := tsD t) (ds := []) (S := S)
    have e3 : oEq (.str "not") (.str "not") S = some (.bl true, S) := wEq (by decide +kernel)
    unfold b_holds
    show evSeq _ _ [some (grD g), some (.tup [.str "not", tsD t]), some (stD st), none, none, none, none, none] S = .ok (.rt (.bl (!tstV g st t))) S
    clear hst G h hk
    walk_at "ev"
  | .con c a b, k + 1, h, hk => by
    refine fn_rt rfl ?_
    have hk : max (depT a) (depT b) + 1 < k + 1 := hk
    have r1 := holds_ok (S := S) G hst a k h.1 (by omega)
    have r2 := holds_ok (S := S) G hst b k h.2 (by omega)
    have e1 := atI0 (d := .str (conW c)) (ds := [tsD a, tsD b]) (S := S)
    have e3 : oEq (.str (conW c)) (.str "not") S = some (.bl false, S) := wEq (by cases c <;> decide +kernel)
    have e4 : memD false (.str (conW c)) (.tup [.str "and", .str "or"]) S = some (.bl true, S) := wIn (zs := ["and", "or"]) (by cases c <;> decide +kernel)
    have e5 : oEq (.str (conW c)) (.str "and") S = some (.bl c, S) := wEq (by cases c <;> decide +kernel)
    have hc : evComp [5] (itSeq (evSl (evVar 1) (evPart (evC (.int 1))) evNoPart)) (tgN 5) evYes (evCall (c_holds k) (evCons (evVar 0) (evCons (evVar 5) (evCons (evVar 2) evNil)))) [some (grD g), some (.tup [.str (conW c), tsD a, tsD b]), some (stD st), some (.str (conW c)), none, none, none, none] S = .ok ([a, b].map fun x => D.bl (tstV g st x)) S := by
      refine comp_all (m := ⟨[tsD a, tsD b], fun _ => True⟩) tsD _ rfl rfl trivial (fun x hx => ⟨_, rfl, ?_⟩) (by rw [sizeLine_eq]; show 2 ≤ _; decide)
      rcases List.mem_cons.mp hx with rfl | hx
      · exact r1
      · rcases List.mem_cons.mp hx with rfl | hx
        · exact r2
        · cases hx
    have e6 := lc_of hc
    have e7 : bAll [.lst ([a, b].map fun x => D.bl (tstV g st x))] S = some (.bl (tstV g st a && tstV g st b), S) := by
      show ((some ([a, b].map fun x => D.bl (tstV g st x))).bind fun xs => (blsOf xs).map fun bs => (D.bl (bs.all id), S)) = _
      rw [Option.bind_some, blsOf_of, Option.map_some]
      simp
    have e8 : bAny [.lst ([a, b].map fun x => D.bl (tstV g st x))] S = some (.bl (tstV g st a || tstV g st b), S) := by
      show ((some ([a, b].map fun x => D.bl (tstV g st x))).bind fun xs => (blsOf xs).map fun bs => (D.bl (bs.any id), S)) = _
      rw [Option.bind_some, blsOf_of, Option.map_some]
      simp
    have z3 : ([D.str "and", D.str "or"] : List D).length ≤ sizeLine := by rw [sizeLine_eq]; decide
    simp only [List.length_cons, List.length_nil] at z3
    unfold b_holds
    show evSeq _ _ [some (grD g), some (.tup [.str (conW c), tsD a, tsD b]), some (stD st), none, none, none, none, none] S = .ok (.rt (.bl (if c then tstV g st a && tstV g st b else tstV g st a || tstV g st b))) S
    clear hst G h hk hc
    generalize evMk mkI (evComp [5] (itSeq (evSl (evVar 1) (evPart (evC (.int 1))) evNoPart)) (tgN 5) evYes (evCall (c_holds k) (evCons (evVar 0) (evCons (evVar 5) (evCons (evVar 2) evNil))))) = X at e6 ⊢
    generalize [a, b].map (fun x => D.bl (tstV g st x)) = L at e6 e7 e8
    cases c <;> walk_at "ev"
end K84
end
section
set_option Elab.async false
set_option linter.all false
set_option maxRecDepth 100000
set_option maxHeartbeats 4000000
/-! plain: rows -/
namespace K84
open PySem PySem.Spec PyProof.Rows L2 DL
local macro_rules | `(tactic| walk_at "ev") => `(tactic| simp only [evSeq, evIfS, evRet, evRetN, evVar, evC, evBin, evUn, p2, evNil, evCons, evTup, evLst, evNew, evTest, evAndT, evOrT, evNotT, evAnd, evOr, evNot, evIte, evIteT, evTruth, evChain, evCall, evCallO, evIsi, evAsg, evDrop, evMk, mkI, mkN, evNext, tgN, tgTup, tgCons, tgNil, asB, dTruth, notRef, isiD, bLen, oLe, oLt, oGe, oGt, oSub, oInt, oAdd, oIsN, oNotN, DL.isNon,
  bind_ok, bind_bad, ofO_some, ofO_none, Option.map_some, Option.map_none, List.getElem?_cons_zero, List.getElem?_cons_succ, List.set_cons_zero, List.set_cons_succ, List.length_cons, List.length_nil, if_true, if_false, Bool.false_eq_true, Bool.not_true, Bool.not_false, decide_true, decide_false, and_self, reduceIte, *])

inductive Rw where
  | set (c : Str) (v : Vl)
  | deed (k : Str) (n : Int)
  | branch (t : Ts) (to : Nat)
  | switch (c : Str) (rows : List Nat)
  | jump (to : Nat)
  | exit (e : Str)
def natD (n : Nat) : D := .int (n : Nat)
def rowD : Rw → D
  | .set c v => .tup [.str "set", .str c, vlD v]
  | .deed k n => .tup [.str "deed", .str k, .int n]
  | .branch t to => .tup [.str "branch", tsD t, natD to]
  | .switch c rows => .tup [.str "switch", .str c, .tup (rows.map natD)]
  | .jump to => .tup [.str "jump", natD to]
  | .exit e => .tup [.str "exit", .str e]
def szOf (g : Gr) (c : Str) : Nat := ((g.cells[plc (cns g) c]?).map (·.2)).getD 0
def rowOk (g : Gr) (many : Nat) : Rw → Prop
  | .set c v => c ∈ cns g ∧ vlOk (cns g) v ∧ depV v ≤ 5
  | .deed k n => k ∈ kns g ∧ 1 ≤ n ∧ n ≤ 99
  | .branch t to => tsOk (cns g) 5 t ∧ depT t ≤ 5 ∧ to < many
  | .switch c rows => c ∈ cns g ∧ rows.length = szOf g c ∧ ∀ r ∈ rows, r < many
  | .jump to => to < many
  | .exit e => e ∈ g.exits
theorem is_row_number_ok {r many : Nat} {S : Store} : c_is_row_number [natD r, .int (many : Nat)] S = .ok (.bl (decide (r < many))) S := by
  refine fn_rt rfl ?_
  have e1 := is_whole_int (n := (r : Nat)) (S := S)
  have b1 : decide ((0 : Int) ≤ (r : Nat)) = true := decide_eq_true (by omega)
  have b2 : decide (((r : Nat) : Int) < (many : Nat)) = decide (r < many) := by
    rw [decide_eq_decide]
    omega
  unfold b_is_row_number
  show evRet _ [some (.int (r : Nat)), some (.int (many : Nat))] S = _
  walk_at "ev"
theorem first_sz (c : Str) : ∀ (cs : List (Str × Nat)), c ∈ cs.map (·.1) → ∃ ys, (cs.filter fun p => p.1 == c).map (fun p => D.int (p.2 : Nat)) = D.int ((((cs[plc (cs.map (·.1)) c]?).map (·.2)).getD 0 : Nat) : Int) :: ys
  | [], h => by cases h
  | p :: cs, h => by
    rw [List.filter_cons]
    cases he : p.1 == c with
    | true =>
      rw [if_pos rfl, List.map_cons]
      have : plc ((p :: cs).map (·.1)) c = 0 := by
        unfold plc
        rw [List.map_cons, List.findIdx_cons, he]
        rfl
      rw [this]
      exact ⟨_, rfl⟩
    | false =>
      rw [if_neg (by decide)]
      have hx : c ∈ cs.map (·.1) := by
        rcases List.mem_cons.mp h with e1 | h
        · rw [e1] at he
          simp at he
        · exact h
      have : plc ((p :: cs).map (·.1)) c = plc (cs.map (·.1)) c + 1 := by
        unfold plc
        rw [List.map_cons, List.findIdx_cons, he]
        rfl
      rw [this, List.getElem?_cons_succ]
      exact first_sz c cs hx
theorem size_of_ok {g : Gr} {S : Store} {c : Str} (G : GoodGr g) (h : c ∈ cns g) : c_size_of [grD g, .str c] S = .ok (natD (szOf g c)) S := by
  refine fn_rt rfl ?_
  have hc : evComp [3, 4] (itSeq (evBin ixD (evVar 0) (evC (.int 0)))) (tgTup 2 (tgCons (tgN 3) (tgCons (tgN 4) tgNil))) (evTest (evBin oEq (evVar 3) (evVar 1))) (evVar 4) [some (grD g), some (.str c), none, none, none] S = .ok ((g.cells.filter fun p => p.1 == c).map fun p => D.int (p.2 : Nat)) S := by
    refine comp_map (m := ⟨g.cells.map cellD, fun _ => True⟩) cellD (fun p => D.int (p.2 : Nat)) (fun p => p.1 == c) rfl rfl trivial (fun p hp => ?_) (by rw [sizeLine_eq]; have := G.c1; omega)
    refine ⟨[some (grD g), some (.str c), none, some (.str p.1), some (.int (p.2 : Nat))], rfl, ?_, fun _ => rfl⟩
    have e2 : oEq (.str p.1) (.str c) S = some (.bl (p.1 == c), S) := by
      rw [oEq_ok (okD_str (cell_strs G _ (List.mem_map_of_mem hp))) (okD_str (cell_strs G c h)), eqD_str]
    clear h hp G
    walk_at "ev"
  obtain ⟨ys, hy⟩ := first_sz c g.cells h
  rw [hy] at hc
  have e1 := asg_of (tg := tgN 2) (δ1 := [some (grD g), some (.str c), some (.lst (natD (szOf g c) :: ys)), none, none]) (lc_of hc) rfl
  unfold b_size_of
  refine (seq_nx e1).trans ?_
  have e3 : ixD (.lst (natD (szOf g c) :: ys)) (.int 0) S = some (natD (szOf g c), S) := ix_lst (i := 0) rfl
  have e4 : dTruth S (.lst (natD (szOf g c) :: ys)) = some true := rfl
  have e5 : (natD (szOf g c) :: ys).isEmpty = false := rfl
  clear hc hy e1 h G
  walk_at "ev"
theorem rows_all {rows : List Nat} {many : Nat} (h : ∀ r ∈ rows, r < many) : (rows.all fun r => decide (r < many)) = true := List.all_eq_true.mpr fun r hr => decide_eq_true (h r hr)
theorem is_switch_ok {g : Gr} {S : Store} {c : Str} {rows : List Nat} {many : Nat} (G : GoodGr g) (h : c ∈ cns g) (hl : rows.length = szOf g c) (hr : ∀ r ∈ rows, r < many) (hz : rows.length ≤ 1000) : c_is_switch [grD g, .str c, .tup (rows.map natD), .int (many : Nat)] S = .ok (.bl true) S := by
  refine fn_rt rfl ?_
  have hc : evComp [4] (itSeq (evVar 2)) (tgN 4) evYes (evCall c_is_row_number (evCons (evVar 4) (evCons (evVar 3) evNil))) [some (grD g), some (.str c), some (.tup (rows.map natD)), some (.int (many : Nat)), none] S = .ok (rows.map fun r => D.bl (decide (r < many))) S := by
    refine comp_all (m := ⟨rows.map natD, fun _ => True⟩) natD _ rfl rfl trivial (fun r hr' => ⟨_, rfl, ?_⟩) (by rw [sizeLine_eq]; omega)
    exact is_row_number_ok
  have e1 := all_of _ hc
  rw [rows_all hr] at e1
  have e2 := size_of_ok (S := S) G h
  have e3 : oEq (natD (szOf g c)) (.int ((rows.map natD).length : Nat)) S = some (.bl true, S) := by
    rw [List.length_map, hl]
    exact iEq (by simp)
  unfold b_is_switch
  show evSeq _ _ [some _, some _, some _, some _, none] S = _
  clear hc G h hl hr hz
  generalize evCallO bAll (evCons (evMk mkI (evComp [4] (itSeq (evVar 2)) (tgN 4) evYes (evCall c_is_row_number (evCons (evVar 4) (evCons (evVar 3) evNil))))) evNil) = X at e1 ⊢
  walk_at "ev"
theorem mem_kinds {g : Gr} {S : Store} (k : Str) (G : GoodGr g) : evBin (memD false) (evVar 4) (evMk mkI (evComp [6, 7] (itSeq (evBin ixD (evVar 0) (evC (.int 1)))) (tgTup 2 (tgCons (tgN 6) (tgCons (tgN 7) tgNil))) evYes (evVar 6))) = evBin (memD false) (evVar 4) (evMk mkI (evComp [6, 7] (itSeq (evBin ixD (evVar 0) (evC (.int 1)))) (tgTup 2 (tgCons (tgN 6) (tgCons (tgN 7) tgNil))) evYes (evVar 6))) := rfl
theorem kinds_comp {g : Gr} {S : Store} {x1 x2 x3 x4 x5 : Option D} (G : GoodGr g) : evMk mkI (evComp [6, 7] (itSeq (evBin ixD (evVar 0) (evC (.int 1)))) (tgTup 2 (tgCons (tgN 6) (tgCons (tgN 7) tgNil))) evYes (evVar 6)) [some (grD g), x1, x2, x3, x4, x5, none, none] S = .ok (.lst ((kns g).map D.str)) S := by
  refine lc_of ?_
  have := comp_all (S := S) (m := ⟨g.kinds.map kindD, fun _ => True⟩) (vs := [6, 7]) (δ := [some (grD g), x1, x2, x3, x4, x5, none, none]) (fi := itSeq (evBin ixD (evVar 0) (evC (.int 1)))) (tg := tgTup 2 (tgCons (tgN 6) (tgCons (tgN 7) tgNil))) (fe := evVar 6) kindD (fun p => D.str p.1) rfl rfl trivial (fun r hr' => ⟨_, rfl, rfl⟩) (by rw [sizeLine_eq]; have := G.k1; omega)
  rw [this, List.map_map]
  rfl
theorem mem_strsL (z : Str) (zs : List Str) (S : Store) : memD false (.str z) (.lst (zs.map D.str)) S = some (.bl (zs.contains z), S) := by
  show (if flatD (.str z) = true ∧ (zs.map D.str).all flatD = true then some (D.bl (false ^^ inD (.str z) (zs.map D.str)), S) else none) = _
  rw [if_pos ⟨rfl, flat_strs zs⟩, in_strs, Bool.false_xor]
theorem triple_set {g : Gr} {S : Store} {many : Nat} {c : Str} {v : Vl} (G : GoodGr g) (h : rowOk g many (.set c v)) : c_is_triple_row [grD g, rowD (.set c v), .int (many : Nat)] S = .ok (.bl true) S := by
  refine fn_rt rfl ?_
  have e1 := size_of_ok (S := S) G h.1
  have e2 := is_number_text_ok (S := S) G h.2.1 h.2.2
  have e3 : oEq (.str "set") (.str "set") S = some (.bl true, S) := wEq (by decide +kernel)
  unfold b_is_triple_row
  show evSeq _ _ [some _, some (.tup [.str "set", .str c, vlD v]), some _, none, none, none, none, none] S = _
  clear G h
  unfold natD at e1
  walk_at "ev"
theorem triple_deed {g : Gr} {S : Store} {many : Nat} {k : Str} {n : Int} (G : GoodGr g) (h : k ∈ kns g) : c_is_triple_row [grD g, rowD (.deed k n), .int (many : Nat)] S = .ok (.bl (decide (1 ≤ n))) S := by
  refine fn_rt rfl ?_
  have e1 : oEq (.str "deed") (.str "set") S = some (.bl false, S) := wEq (by decide +kernel)
  have e2 : oEq (.str "deed") (.str "deed") S = some (.bl true, S) := wEq (by decide +kernel)
  have e3 := is_whole_int (n := n) (S := S)
  have e4 := kinds_comp (S := S) (x1 := some (.tup [.str "deed", .str k, .int n])) (x2 := some (.int (many : Nat))) (x3 := some (.str "deed")) (x4 := some (.str k)) (x5 := some (.int n)) G
  have e5 := mem_strsL k (kns g) S
  rw [show (kns g).contains k = true by simpa using h] at e5
  unfold b_is_triple_row
  show evSeq _ _ [some _, some (.tup [.str "deed", .str k, .int n]), some _, none, none, none, none, none] S = _
  clear G h
  generalize evMk mkI (evComp [6, 7] (itSeq (evBin ixD (evVar 0) (evC (.int 1)))) (tgTup 2 (tgCons (tgN 6) (tgCons (tgN 7) tgNil))) evYes (evVar 6)) = X at e4 ⊢
  walk_at "ev"
theorem triple_branch {g : Gr} {S : Store} {many to : Nat} {t : Ts} (G : GoodGr g) (h : rowOk g many (.branch t to)) : c_is_triple_row [grD g, rowD (.branch t to), .int (many : Nat)] S = .ok (.bl true) S := by
  refine fn_rt rfl ?_
  have e1 : oEq (.str "branch") (.str "set") S = some (.bl false, S) := wEq (by decide +kernel)
  have e2 : oEq (.str "branch") (.str "deed") S = some (.bl false, S) := wEq (by decide +kernel)
  have e3 : oEq (.str "branch") (.str "branch") S = some (.bl true, S) := wEq (by decide +kernel)
  have e4 := is_test_text_ok (S := S) G h.1 h.2.1
  have e5 := is_row_number_ok (r := to) (many := many) (S := S)
  rw [decide_eq_true h.2.2] at e5
  unfold b_is_triple_row
  show evSeq _ _ [some _, some (.tup [.str "branch", tsD t, natD to]), some _, none, none, none, none, none] S = _
  clear G h
  walk_at "ev"
theorem triple_switch {g : Gr} {S : Store} {many : Nat} {c : Str} {rows : List Nat} (G : GoodGr g) (h : rowOk g many (.switch c rows)) (hz : rows.length ≤ 1000) : c_is_triple_row [grD g, rowD (.switch c rows), .int (many : Nat)] S = .ok (.bl true) S := by
  refine fn_rt rfl ?_
  have e1 : oEq (.str "switch") (.str "set") S = some (.bl false, S) := wEq (by decide +kernel)
  have e2 : oEq (.str "switch") (.str "deed") S = some (.bl false, S) := wEq (by decide +kernel)
  have e3 : oEq (.str "switch") (.str "branch") S = some (.bl false, S) := wEq (by decide +kernel)
  have e4 : oEq (.str "switch") (.str "switch") S = some (.bl true, S) := wEq (by decide +kernel)
  have e5 := is_switch_ok (S := S) G h.1 h.2.1 h.2.2 hz
  unfold b_is_triple_row
  show evSeq _ _ [some _, some (.tup [.str "switch", .str c, .tup (rows.map natD)]), some _, none, none, none, none, none] S = _
  clear G h hz
  walk_at "ev"
theorem is_row_triple {g : Gr} {S : Store} {many : Nat} {w : Str} {a b : D} {q : Bool} (h : c_is_triple_row [grD g, .tup [.str w, a, b], .int (many : Nat)] S = .ok (.bl q) S) : c_is_row [grD g, .tup [.str w, a, b], .int (many : Nat)] S = .ok (.bl q) S := by
  refine fn_rt rfl ?_
  have e1 : oEq (.int ((3 : Nat) : Int)) (.int 3) S = some (.bl true, S) := iEq rfl
  have e2 := atI0 (d := .str w) (ds := [a, b]) (S := S)
  have b1 : decide ((2 : Int) ≤ ((3 : Nat) : Int)) = true := rfl
  have b2 : decide (((3 : Nat) : Int) ≤ 3) = true := rfl
  unfold b_is_row
  show evSeq _ _ [some _, some (.tup [.str w, a, b]), some _] S = _
  walk_at "ev"
theorem is_row_jump {g : Gr} {S : Store} {many to : Nat} : c_is_row [grD g, rowD (.jump to), .int (many : Nat)] S = .ok (.bl (decide (to < many))) S := by
  refine fn_rt rfl ?_
  have e1 : oEq (.int ((2 : Nat) : Int)) (.int 3) S = some (.bl false, S) := iEq rfl
  have e2 := atI0 (d := .str "jump") (ds := [natD to]) (S := S)
  have e3 := atI1 (d := .str "jump") (e := natD to) (ds := []) (S := S)
  have e4 : oEq (.str "jump") (.str "jump") S = some (.bl true, S) := wEq (by decide +kernel)
  have e5 := is_row_number_ok (r := to) (many := many) (S := S)
  have b1 : decide ((2 : Int) ≤ ((2 : Nat) : Int)) = true := rfl
  have b2 : decide (((2 : Nat) : Int) ≤ 3) = true := rfl
  unfold b_is_row
  show evSeq _ _ [some _, some (.tup [.str "jump", natD to]), some _] S = _
  walk_at "ev"
theorem is_row_exit {g : Gr} {S : Store} {many : Nat} {e : Str} (h : e ∈ g.exits) : c_is_row [grD g, rowD (.exit e), .int (many : Nat)] S = .ok (.bl true) S := by
  refine fn_rt rfl ?_
  have e1 : oEq (.int ((2 : Nat) : Int)) (.int 3) S = some (.bl false, S) := iEq rfl
  have e2 := atI0 (d := .str "exit") (ds := [.str e]) (S := S)
  have e3 := atI1 (d := .str "exit") (e := .str e) (ds := []) (S := S)
  have e4 : oEq (.str "exit") (.str "jump") S = some (.bl false, S) := wEq (by decide +kernel)
  have e5 : oEq (.str "exit") (.str "exit") S = some (.bl true, S) := wEq (by decide +kernel)
  have e6 : ixD (grD g) (.int 2) S = some (.tup (g.exits.map D.str), S) := atI2
  have e7 := mem_strs e g.exits S
  rw [show g.exits.contains e = true by simpa using h] at e7
  have b1 : decide ((2 : Int) ≤ ((2 : Nat) : Int)) = true := rfl
  have b2 : decide (((2 : Nat) : Int) ≤ 3) = true := rfl
  unfold b_is_row
  show evSeq _ _ [some _, some (.tup [.str "exit", .str e]), some _] S = _
  clear h
  walk_at "ev"
theorem sz_8 {g : Gr} (G : GoodGr g) (c : Str) : szOf g c ≤ 8 := by
  unfold szOf
  cases h : g.cells[plc (cns g) c]? with
  | none => exact Nat.zero_le _
  | some p => exact (G.c2 p (List.mem_of_getElem? h)).2.2
theorem is_row_ok {g : Gr} {S : Store} {many : Nat} (G : GoodGr g) : ∀ r : Rw, rowOk g many r → c_is_row [grD g, rowD r, .int (many : Nat)] S = .ok (.bl true) S
  | .set c v, h => is_row_triple (triple_set G h)
  | .deed k n, h => is_row_triple (by have := triple_deed (S := S) (many := many) (n := n) G h.1; rw [decide_eq_true h.2.1] at this; exact this)
  | .branch t to, h => is_row_triple (triple_branch G h)
  | .switch c rows, h => is_row_triple (triple_switch G h (by rw [h.2.1]; have := sz_8 G c; omega))
  | .jump to, h => by
    have := is_row_jump (g := g) (S := S) (many := many) (to := to)
    rw [decide_eq_true (show to < many from h)] at this
    exact this
  | .exit e, h => is_row_exit h
theorem is_row_short {g : Gr} {S : Store} {many : Nat} : c_is_row [grD g, .tup [.str "jump"], .int (many : Nat)] S = .ok (.bl false) S := by
  refine fn_rt rfl ?_
  have b1 : decide ((2 : Int) ≤ ((1 : Nat) : Int)) = false := rfl
  unfold b_is_row
  show evSeq _ _ [some _, some (.tup [.str "jump"]), some _] S = _
  walk_at "ev"
end K84
end
section
set_option Elab.async false
set_option linter.all false
set_option maxRecDepth 100000
set_option maxHeartbeats 4000000
/-! plain: codes -/
namespace K84
open PySem PySem.Spec PyProof.Rows L2 DL
local macro_rules | `(tactic| walk_at "ev") => `(tactic| simp only [evSeq, evIfS, evRet, evRetN, evVar, evC, evBin, evUn, p2, evNil, evCons, evTup, evLst, evNew, evTest, evAndT, evOrT, evNotT, evAnd, evOr, evNot, evIte, evIteT, evTruth, evChain, evCall, evCallO, evIsi, evAsg, evDrop, evMk, mkI, mkN, evNext, tgN, tgTup, tgCons, tgNil, asB, dTruth, notRef, isiD, bLen, oLe, oLt, oGe, oGt, oSub, oInt, oAdd, oIsN, oNotN, DL.isNon,
  bind_ok, bind_bad, ofO_some, ofO_none, Option.map_some, Option.map_none, List.getElem?_cons_zero, List.getElem?_cons_succ, List.set_cons_zero, List.set_cons_succ, List.length_cons, List.length_nil, if_true, if_false, Bool.false_eq_true, Bool.not_true, Bool.not_false, decide_true, decide_false, and_self, reduceIte, *])

theorem at_last {xs : List D} {d : D} : L2.atI (xs ++ [d]) (-1) = some d := by
  have e : L2.ixN (xs ++ [d]).length (-1) = some xs.length := by
    unfold L2.ixN
    rw [List.length_append, List.length_singleton]
    have h1 : ¬ (0 ≤ (-1 : Int)) := by decide
    rw [if_neg h1, if_pos (by omega)]
    congr 1
    omega
  unfold L2.atI
  rw [e]
  simp
theorem is_code_head {α : Type} {g : Gr} {S : Store} {xs : List α} (f : α → D) (q : α → Bool) {ds : List D} (hds : ds = xs.map f) (G : GoodGr g) (h1 : 1 ≤ ds.length) (h2 : ds.length ≤ 2000) (hq : ∀ x ∈ xs, c_is_row [grD g, f x, .int (ds.length : Nat)] S = .ok (.bl (q x)) S) :
    b_is_code [some (grD g), some (.tup ds), none] S = if xs.all q = true then (evRet (evBin (memD false) (evBin ixD (evBin ixD (evVar 1) (evUn dNeg (evC (.int 1)))) (evC (.int 0))) (evTup (evCons (evC (.str "switch")) (evCons (evC (.str "jump")) (evCons (evC (.str "exit")) evNil)))))) [some (grD g), some (.tup ds), none] S else .ok (.rt (.bl false)) S := by
  have hc : evComp [2] (itSeq (evVar 1)) (tgN 2) evYes (evCall c_is_row (evCons (evVar 0) (evCons (evVar 2) (evCons (evCallO bLen (evCons (evVar 1) evNil)) evNil)))) [some (grD g), some (.tup ds), none] S = .ok (xs.map fun x => D.bl (q x)) S := by
    refine comp_all (m := ⟨ds, fun _ => True⟩) f _ rfl hds trivial (fun d hd => ⟨_, rfl, ?_⟩) (by rw [hds, List.length_map] at h2; rw [sizeLine_eq]; omega)
    exact hq d hd
  have e1 := all_of q hc
  have e2 := is_ground_ok (S := S) G
  have b1 : decide ((1 : Int) ≤ ((ds.length : Nat) : Int)) = true := decide_eq_true (by omega)
  have b2 : decide (((ds.length : Nat) : Int) ≤ 2000) = true := decide_eq_true (by omega)
  have c1 : (evOrT (evNotT (evTruth (evCall c_is_ground (evCons (evVar 0) evNil)))) (evOrT (evNotT (evTruth (evIsi .tuple (evVar 1)))) (evNotT (evTest (evChain oLe oLe (evC (.int 1)) (evCallO bLen (evCons (evVar 1) evNil)) (evC (.int 2000))))))) [some (grD g), some (.tup ds), none] S = .ok false S := by
    clear hc e1 hq h1 h2 G hds
    walk_at "ev"
  have c2 : (evNotT (evTruth (evCallO bAll (evCons (evMk mkI (evComp [2] (itSeq (evVar 1)) (tgN 2) evYes (evCall c_is_row (evCons (evVar 0) (evCons (evVar 2) (evCons (evCallO bLen (evCons (evVar 1) evNil)) evNil)))))) evNil)))) [some (grD g), some (.tup ds), none] S = .ok (!xs.all q) S := by
    unfold evNotT evTruth
    rw [e1]
    rfl
  unfold b_is_code
  refine (seq_nx (ifs_false c1)).trans ?_
  cases hb : xs.all q with
  | true =>
    rw [hb] at c2
    rw [if_pos rfl]
    exact seq_nx (ifs_false c2)
  | false =>
    rw [hb] at c2
    rw [if_neg (by decide)]
    exact seq_rt (ifs_true c2)
theorem is_code_bad {α : Type} {g : Gr} {S : Store} {xs : List α} (f : α → D) (q : α → Bool) {ds : List D} (hds : ds = xs.map f) (G : GoodGr g) (h1 : 1 ≤ ds.length) (h2 : ds.length ≤ 2000) (hq : ∀ x ∈ xs, c_is_row [grD g, f x, .int (ds.length : Nat)] S = .ok (.bl (q x)) S) (hb : xs.all q = false) : c_is_code [grD g, .tup ds] S = .ok (.bl false) S := by
  refine fn_rt rfl ?_
  have := is_code_head f q hds G h1 h2 hq
  rw [hb, if_neg (by decide)] at this
  exact this
def codeD (rows : List Rw) : D := .tup (rows.map rowD)
def endOk : Rw → Bool
  | .exit _ => true
  | .jump _ => true
  | .switch _ _ => true
  | _ => false
structure GoodCode (g : Gr) (rows : List Rw) : Prop where
  l1 : 1 ≤ rows.length
  l2 : rows.length ≤ 1000
  ok : ∀ r ∈ rows, rowOk g rows.length r
  fin : ∃ ini r, rows = ini ++ [r] ∧ endOk r = true
theorem is_code_ok {g : Gr} {S : Store} {rows : List Rw} (G : GoodGr g) (C : GoodCode g rows) : c_is_code [grD g, codeD rows] S = .ok (.bl true) S := by
  refine fn_rt rfl ?_
  have := is_code_head (g := g) (S := S) (ds := rows.map rowD) rowD (fun _ => true) rfl G (by rw [List.length_map]; exact C.l1) (by rw [List.length_map]; have := C.l2; omega) (fun r hr => by
    rw [List.length_map]
    exact is_row_ok G r (C.ok r hr))
  rw [if_pos (by simp)] at this
  refine this.trans ?_
  obtain ⟨ini, r, hf, he⟩ := C.fin
  refine ret_of ?_
  have e1 : ixD (.tup (rows.map rowD)) (.int (-1)) S = some (rowD r, S) := by
    show (L2.atI (rows.map rowD) (-1)).map (·, S) = _
    rw [hf, List.map_append]
    show (L2.atI (ini.map rowD ++ [rowD r]) (-1)).map (·, S) = _
    rw [at_last]
    rfl
  have z3 : (3 : Nat) ≤ sizeLine := by rw [sizeLine_eq]; decide
  have key : ∀ w : Str, ∀ ds : List D, rowD r = .tup (.str w :: ds) → (["switch", "jump", "exit"] : List Str).contains w = true → (evBin (memD false) (evBin ixD (evBin ixD (evVar 1) (evUn dNeg (evC (.int 1)))) (evC (.int 0))) (evTup (evCons (evC (.str "switch")) (evCons (evC (.str "jump")) (evCons (evC (.str "exit")) evNil))))) [some (grD g), some (.tup (rows.map rowD)), none] S = .ok (.bl true) S := by
    intro w ds hr hw
    rw [hr] at e1
    have e2 := atI0 (d := .str w) (ds := ds) (S := S)
    have e3 : memD false (.str w) (.tup [.str "switch", .str "jump", .str "exit"]) S = some (.bl true, S) := wIn (zs := ["switch", "jump", "exit"]) hw
    refine bin_of (bin_of (bin_of (a := .tup (rows.map rowD)) (b := .int (-1)) rfl rfl e1) rfl e2) ?_ e3
    show R.bind (R.ok [D.str "switch", .str "jump", .str "exit"] S) _ = _
    rw [bind_ok]
    exact if_pos z3
  cases r with
  | exit e => exact key _ _ rfl (by decide +kernel)
  | jump t => exact key _ _ rfl (by decide +kernel)
  | switch c l => exact key _ _ rfl (by decide +kernel)
  | set c v => cases he
  | deed k n => cases he
  | branch t n => cases he
theorem made_code_ok {g : Gr} {S : Store} {rows : List Rw} (G : GoodGr g) (C : GoodCode g rows) (hp : pureD (codeD rows) = true) : c_made_code [grD g, codeD rows] S = .ok (codeD rows) S := by
  refine fn_rt hp ?_
  have e1 := is_code_ok (S := S) G C
  unfold b_made_code
  show evSeq _ _ [some _, some _] S = _
  clear G C hp
  walk_at "ev"
/-! what is no code -/
theorem code_odd {g : Gr} {S : Store} {d : D} (G : GoodGr g) (h : notRef d = true) (ht : isiD .tuple d = false) : c_is_code [grD g, d] S = .ok (.bl false) S := by
  refine fn_rt rfl ?_
  have e2 := is_ground_ok (S := S) G
  unfold b_is_code
  show evSeq _ _ [some _, some d, none] S = _
  have c1 : (evOrT (evNotT (evTruth (evCall c_is_ground (evCons (evVar 0) evNil)))) (evOrT (evNotT (evTruth (evIsi .tuple (evVar 1)))) (evNotT (evTest (evChain oLe oLe (evC (.int 1)) (evCallO bLen (evCons (evVar 1) evNil)) (evC (.int 2000))))))) [some (grD g), some d, none] S = .ok true S := by
    have e3 : evTruth (evIsi .tuple (evVar 1)) [some (grD g), some d, none] S = .ok false S := by
      show R.bind (if notRef d = true then R.ok (D.bl (isiD .tuple d)) S else .bad) _ = _
      rw [if_pos h, ht]
      rfl
    have e4 : evTruth (evCall c_is_ground (evCons (evVar 0) evNil)) [some (grD g), some d, none] S = .ok true S := by
      clear h ht e3 G
      walk_at "ev"
    clear h ht e2 G
    unfold evOrT evNotT
    rw [e4, bind_ok, bind_ok]
    simp only [e3, bind_ok, Bool.not_true, Bool.not_false, Bool.false_eq_true, if_false, if_true]
  exact seq_rt (ifs_true c1)
theorem code_none {g : Gr} {S : Store} (G : GoodGr g) : c_is_code [grD g, .tup []] S = .ok (.bl false) S := by
  refine fn_rt rfl ?_
  have e2 := is_ground_ok (S := S) G
  have b1 : decide ((1 : Int) ≤ ((0 : Nat) : Int)) = false := rfl
  unfold b_is_code
  show evSeq _ _ [some _, some (.tup []), none] S = _
  clear G
  walk_at "ev"
theorem code_short {g : Gr} {S : Store} (G : GoodGr g) : c_is_code [grD g, .tup [.tup [.str "jump"]]] S = .ok (.bl false) S :=
  is_code_bad (xs := [()]) (fun _ => .tup [.str "jump"]) (fun _ => false) rfl G (by decide) (by decide) (fun d hd => is_row_short) (by decide)
theorem rowOk_up {g : Gr} {m n : Nat} (h : m ≤ n) : ∀ {r : Rw}, rowOk g m r → rowOk g n r
  | .set _ _, k => k
  | .deed _ _, k => k
  | .branch _ _, k => ⟨k.1, k.2.1, Nat.lt_of_lt_of_le k.2.2 h⟩
  | .switch _ _, k => ⟨k.1, k.2.1, fun r hr => Nat.lt_of_lt_of_le (k.2.2 r hr) h⟩
  | .jump _, k => Nat.lt_of_lt_of_le k h
  | .exit _, k => k
def rowQ (many : Nat) : Rw → Bool
  | .jump t => decide (t < many)
  | .deed _ n => decide (1 ≤ n)
  | _ => true
theorem rowQ_ok {g : Gr} {many : Nat} : ∀ {r : Rw}, rowOk g many r → rowQ many r = true
  | .set _ _, _ => rfl
  | .deed _ _, h => decide_eq_true h.2.1
  | .branch _ _, _ => rfl
  | .switch _ _, _ => rfl
  | .jump _, h => decide_eq_true h
  | .exit _, _ => rfl
theorem code_plus {g : Gr} {S : Store} {rows : List Rw} {bad : Rw} (G : GoodGr g) (C : GoodCode g rows) (hb : c_is_row [grD g, rowD bad, .int ((rows.length + 1 : Nat) : Int)] S = .ok (.bl (rowQ (rows.length + 1) bad)) S) (hq : rowQ (rows.length + 1) bad = false) : c_is_code [grD g, .tup (rows.map rowD ++ [rowD bad])] S = .ok (.bl false) S := by
  have hds : rows.map rowD ++ [rowD bad] = (rows ++ [bad]).map rowD := by simp
  have hlen : (rows.map rowD ++ [rowD bad]).length = rows.length + 1 := by simp
  refine is_code_bad rowD (rowQ (rows.length + 1)) hds G (by rw [hlen]; omega) (by rw [hlen]; have := C.l2; omega) (fun r hr => ?_) ?_
  · rw [hlen]
    rcases List.mem_append.mp hr with h | h
    · have k := rowOk_up (Nat.le_succ rows.length) (C.ok r h)
      rw [rowQ_ok k]
      exact is_row_ok G r k
    · rw [List.mem_singleton.mp h]
      exact hb
  · rw [List.all_append]
    show (_ && (rowQ (rows.length + 1) bad && true)) = false
    rw [hq, Bool.false_and, Bool.and_false]
theorem code_jump {g : Gr} {S : Store} {rows : List Rw} (G : GoodGr g) (C : GoodCode g rows) : c_is_code [grD g, .tup (rows.map rowD ++ [rowD (.jump (rows.length + 1))])] S = .ok (.bl false) S :=
  code_plus G C is_row_jump (decide_eq_false (by omega))
theorem code_deed {g : Gr} {S : Store} {rows : List Rw} {k : Str} (G : GoodGr g) (C : GoodCode g rows) (hk : k ∈ kns g) : c_is_code [grD g, .tup (rows.map rowD ++ [rowD (.deed k 0)])] S = .ok (.bl false) S :=
  code_plus G C (is_row_triple (triple_deed G hk)) rfl
end K84
end
section
set_option Elab.async false
set_option linter.all false
set_option maxRecDepth 100000
set_option maxHeartbeats 4000000
/-! plain: the machine, step by step -/
namespace K84
open PySem PySem.Spec PyProof.Rows L2 DL
local macro_rules | `(tactic| walk_at "ev") => `(tactic| simp only [evSeq, evIfS, evRet, evRetN, evVar, evC, evBin, evUn, p2, evNil, evCons, evTup, evLst, evNew, evTest, evAndT, evOrT, evNotT, evAnd, evOr, evNot, evIte, evIteT, evTruth, evChain, evCall, evCallO, evIsi, evAsg, evDrop, evMk, mkI, mkN, evNext, tgN, tgTup, tgCons, tgNil, asB, dTruth, notRef, isiD, bLen, oLe, oLt, oGe, oGt, oSub, oInt, oAdd, oIsN, oNotN, DL.isNon,
  bind_ok, bind_bad, ofO_some, ofO_none, Option.map_some, Option.map_none, List.getElem?_cons_zero, List.getElem?_cons_succ, List.set_cons_zero, List.set_cons_succ, List.length_cons, List.length_nil, if_true, if_false, Bool.false_eq_true, Bool.not_true, Bool.not_false, decide_true, decide_false, and_self, reduceIte, *])

theorem cut_lo {α : Type} (xs : List α) (i : Nat) (h : i ≤ xs.length) : cutL xs none (some (i : Nat)) = xs.take i := by
  unfold cutL
  rw [HT.sIx_none, HT.sIx_nat, Nat.min_eq_left h, List.drop_zero, Nat.sub_zero]
theorem cut_hi {α : Type} (xs : List α) (i : Nat) (h : i ≤ xs.length) : cutL xs (some (i : Nat)) none = xs.drop i := by
  unfold cutL
  rw [HT.sIx_none, HT.sIx_nat, Nat.min_eq_left h]
  rw [List.take_of_length_le]
  rw [List.length_drop]
  exact Nat.le_refl _
theorem set_cut {α : Type} (xs : List α) (i : Nat) (v : α) (h : i < xs.length) : (xs.take i ++ [v]) ++ xs.drop (i + 1) = xs.set i v := by
  rw [List.set_eq_take_append_cons_drop, if_pos h, List.append_assoc]
  rfl
/-- row[:at] + (value,) + row[at + 1:] -/
theorem set_parts {st : List Int} {i : Nat} {v : Int} {S : Store} {δ : DEnv} {fr fa fv : DEnv → Store → R D} (hr : fr δ S = .ok (stD st) S) (ha : fa δ S = .ok (.int (i : Nat)) S) (hv : fv δ S = .ok (.int v) S) (h : i < st.length) (hz : st.length ≤ 1000) :
    evBin oAdd (evBin oAdd (evSl fr evNoPart (evPart fa)) (evTup (evCons fv evNil))) (evSl fr (evPart (evBin oAdd fa (evC (.int 1)))) evNoPart) δ S = .ok (stD (st.set i v)) S := by
  have hl : (st.map D.int).length = st.length := List.length_map ..
  have s1 : evSl fr evNoPart (evPart fa) δ S = .ok (.tup ((st.map D.int).take i)) S := by
    unfold evSl evNoPart evPart
    rw [hr, bind_ok, bind_ok, ha, bind_ok, bind_ok]
    show ofO (some (D.tup (cutL (st.map D.int) none (some (i : Nat))), S)) = _
    rw [cut_lo _ _ (by rw [hl]; omega)]
    rfl
  have s2 : evTup (evCons fv evNil) δ S = .ok (.tup [.int v]) S := by
    have e : evCons fv evNil δ S = .ok [.int v] S := by
      unfold evCons
      rw [hv]
      rfl
    unfold evTup
    rw [e, bind_ok]
    exact if_pos (by rw [sizeLine_eq]; show 1 ≤ _; decide)
  have s3 : evSl fr (evPart (evBin oAdd fa (evC (.int 1)))) evNoPart δ S = .ok (.tup ((st.map D.int).drop (i + 1))) S := by
    have e : evPart (evBin oAdd fa (evC (.int 1))) δ S = .ok (some (((i + 1 : Nat) : Int))) S := by
      unfold evPart evBin
      rw [ha]
      rfl
    unfold evSl
    rw [hr, bind_ok, e, bind_ok]
    show ofO (some (D.tup (cutL (st.map D.int) (some ((i + 1 : Nat) : Int)) none), S)) = _
    rw [cut_hi _ _ (by rw [hl]; omega)]
    rfl
  have a1 := add_tup ((st.map D.int).take i) [.int v] S (by rw [List.length_take, sizeLine_eq, hl]; show min i st.length + 1 ≤ _; omega)
  have a2 := add_tup ((st.map D.int).take i ++ [.int v]) ((st.map D.int).drop (i + 1)) S (by rw [List.length_append, List.length_take, List.length_drop, sizeLine_eq, hl]; show min i st.length + 1 + _ ≤ _; omega)
  rw [set_cut _ _ _ (by rw [hl]; exact h)] at a2
  have := bin_of (bin_of s1 s2 a1) s3 a2
  rw [this]
  unfold stD
  rw [List.map_set]
theorem pure_st (st : List Int) : pureD (stD st) = true := by
  have := pures_st [st]
  simpa [pureDs] using this
theorem changed_ok {st : List Int} {i : Nat} {v : Int} {S : Store} (h : i < st.length) (hz : st.length ≤ 1000) : c_changed [stD st, .int (i : Nat), .int v] S = .ok (stD (st.set i v)) S := by
  refine fn_rt (pure_st _) ?_
  exact ret_of (set_parts rfl rfl rfl h hz)
theorem InSt.set : ∀ {cs : List (Str × Nat)} {vs : List Int} {i : Nat} {c : Str × Nat} {v : Int}, InSt cs vs → cs[i]? = some c → 0 ≤ v → v < (c.2 : Nat) → InSt cs (vs.set i v)
  | [], [], _, _, _, _, h, _, _ => by simp at h
  | c :: cs, w :: vs, 0, c', v, h, hc, h0, h1 => by
    simp only [List.getElem?_cons_zero, Option.some.injEq] at hc
    subst hc
    exact ⟨⟨h0, h1⟩, h.2⟩
  | c :: cs, w :: vs, i + 1, c', v, h, hc, h0, h1 => ⟨h.1, InSt.set h.2 hc h0 h1⟩
theorem cell_at {g : Gr} {c : Str} (h : c ∈ cns g) : ∃ p, g.cells[plc (cns g) c]? = some p ∧ szOf g c = p.2 := by
  have h1 : plc (cns g) c < (cns g).length := plc_lt h
  rw [List.length_map] at h1
  refine ⟨g.cells[plc (cns g) c], List.getElem?_eq_getElem h1, ?_⟩
  unfold szOf
  rw [List.getElem?_eq_getElem h1]
  rfl
theorem sz_pos {g : Gr} (G : GoodGr g) {c : Str} (h : c ∈ cns g) : 1 ≤ szOf g c := by
  obtain ⟨p, hp, e⟩ := cell_at h
  rw [e]
  exact (G.c2 p (List.mem_of_getElem? hp)).2.1
theorem size_at {g : Gr} {c : Str} {S : Store} (h : c ∈ cns g) : ∃ p, ixD (.tup (g.cells.map cellD)) (.int (plc (cns g) c : Nat)) S = some (cellD p, S) ∧ ixD (cellD p) (.int 1) S = some (natD (szOf g c), S) := by
  obtain ⟨p, hp, e⟩ := cell_at h
  refine ⟨p, ix_tup ?_, ?_⟩
  · rw [List.getElem?_map, hp]
    rfl
  · rw [e]
    exact atI1
theorem set_in_ok {g : Gr} {st : List Int} {S : Store} {c : Str} {v : Vl} (G : GoodGr g) (hst : InSt g.cells st) (h : c ∈ cns g) (hv : vlOk (cns g) v) (hd : depV v ≤ 5) : c_set_in [grD g, stD st, .int (plc (cns g) c : Nat), vlD v] S = .ok (stD (st.set (plc (cns g) c) (valV g st v % (szOf g c : Nat)))) S := by
  refine fn_rt (pure_st _) ?_
  have e1 := worth_in_ok (S := S) G hst v 8 hv (by omega) (by omega)
  obtain ⟨p, e2, e3⟩ := size_at (g := g) (S := S) h
  have e4 : ixD (grD g) (.int 0) S = some (.tup (g.cells.map cellD), S) := atI0
  have hm : oMod (.int (valV g st v)) (natD (szOf g c)) S = some (.int (valV g st v % (szOf g c : Nat)), S) := by
    show (if decide ((0 : Int) < (szOf g c : Nat)) = true then some (D.int (valV g st v % (szOf g c : Nat)), S) else none) = _
    exact if_pos (decide_eq_true (by have := sz_pos G h; omega))
  have hl : plc (cns g) c < st.length := by
    have h1 : plc (cns g) c < (cns g).length := plc_lt h
    rw [List.length_map, ← hst.len] at h1
    exact h1
  have e5 := changed_ok (S := S) (v := valV g st v % (szOf g c : Nat)) hl (by have := hst.len; have := G.c1; omega)
  unfold b_set_in
  show evRet _ [some _, some _, some _, some _] S = _
  clear G hst h hv hd hl
  generalize oMod = O at hm ⊢
  walk_at "ev"
/-! next row, state and count behind -/
def nextR (g : Gr) (st : List Int) (at' : Nat) : Rw → Nat
  | .jump to => to
  | .switch c rows => rows.getD (st.getD (plc (cns g) c) 0).toNat 0
  | .branch t to => if tstV g st t then at' + 1 else to
  | _ => at' + 1
def stR (g : Gr) (st : List Int) : Rw → List Int
  | .set c v => st.set (plc (cns g) c) (valV g st v % (szOf g c : Nat))
  | _ => st
def ctR (g : Gr) (ct : List Int) : Rw → List Int
  | .deed k n => ct.set (plc (kns g) k) (ct.getD (plc (kns g) k) 0 + n)
  | _ => ct
def rowW : Rw → Str
  | .set _ _ => "set"
  | .deed _ _ => "deed"
  | .branch _ _ => "branch"
  | .switch _ _ => "switch"
  | .jump _ => "jump"
  | .exit _ => "exit"
theorem row_w (r : Rw) : ∃ ds, rowD r = .tup (.str (rowW r) :: ds) := by
  cases r <;> exact ⟨_, rfl⟩
theorem row_at0 (r : Rw) {S : Store} : ixD (rowD r) (.int 0) S = some (.str (rowW r), S) := by
  obtain ⟨ds, h⟩ := row_w r
  rw [h]
  exact atI0
theorem name_place_cells {g : Gr} {S : Store} {x : Str} (G : GoodGr g) (h : x ∈ cns g) : c_name_place [.tup (g.cells.map cellD), .str x] S = .ok (.int (plc (cns g) x : Nat)) S :=
  name_place_any (fun x _ => atI0) (by have := G.c1; omega) (cell_strs G) h
theorem name_place_kinds {g : Gr} {S : Store} {x : Str} (G : GoodGr g) (h : x ∈ kns g) : c_name_place [.tup (g.kinds.map kindD), .str x] S = .ok (.int (plc (kns g) x : Nat)) S :=
  name_place_any (fun x _ => atI0) (by have := G.k1; omega) (kind_strs G) h
theorem st_at {g : Gr} {st : List Int} {S : Store} {c : Str} (hst : InSt g.cells st) (h : c ∈ cns g) : ixD (stD st) (.int (plc (cns g) c : Nat)) S = some (.int (st.getD (plc (cns g) c) 0), S) :=
  ix_st (by have h1 : plc (cns g) c < (cns g).length := plc_lt h; rw [List.length_map, ← hst.len] at h1; exact h1)
theorem InSt.lt : ∀ {cs : List (Str × Nat)} {vs : List Int} {i : Nat} {c : Str × Nat}, InSt cs vs → cs[i]? = some c → 0 ≤ vs.getD i 0 ∧ vs.getD i 0 < (c.2 : Nat)
  | [], [], _, _, _, h => by simp at h
  | c :: cs, w :: vs, 0, c', h, hc => by
    simp only [List.getElem?_cons_zero, Option.some.injEq] at hc
    subst hc
    exact h.1
  | c :: cs, w :: vs, i + 1, c', h, hc => by
    have := InSt.lt h.2 hc
    simpa using this
/-- what a switch leads to -/
theorem switch_at {g : Gr} {st : List Int} {S : Store} {c : Str} {rows : List Nat} (hst : InSt g.cells st) (h : c ∈ cns g) (hl : rows.length = szOf g c) : ixD (.tup (rows.map natD)) (.int (st.getD (plc (cns g) c) 0)) S = some (natD (rows.getD (st.getD (plc (cns g) c) 0).toNat 0), S) ∧ rows.getD (st.getD (plc (cns g) c) 0).toNat 0 ∈ rows := by
  obtain ⟨p, hp, e⟩ := cell_at h
  have hb := hst.lt hp
  generalize st.getD (plc (cns g) c) 0 = x at hb ⊢
  have hx : ((x.toNat : Nat) : Int) = x := Int.toNat_of_nonneg hb.1
  have hlt : x.toNat < rows.length := by omega
  have hg : rows[x.toNat]? = some (rows.getD x.toNat 0) := by
    rw [List.getD_eq_getElem?_getD, List.getElem?_eq_getElem hlt]
    rfl
  refine ⟨?_, List.mem_of_getElem? hg⟩
  have := ix_tup (S := S) (ds := rows.map natD) (i := x.toNat) (d := natD (rows.getD x.toNat 0)) (by rw [List.getElem?_map, hg]; rfl)
  rw [hx] at this
  exact this
theorem next_row_ok {g : Gr} {st : List Int} {S : Store} {many : Nat} (G : GoodGr g) (hst : InSt g.cells st) (r : Rw) (i : Nat) (h : rowOk g many r) : c_next_row [grD g, rowD r, .int (i : Nat), stD st] S = .ok (natD (nextR g st i r)) S := by
  refine fn_rt rfl ?_
  have e0 := row_at0 r (S := S)
  have e5 : ixD (grD g) (.int 0) S = some (.tup (g.cells.map cellD), S) := atI0
  unfold b_next_row
  show evSeq _ _ [some (grD g), some (rowD r), some (.int (i : Nat)), some (stD st), none] S = _
  have e9 : natD (i + 1) = .int ((i : Nat) + 1) := rfl
  cases r with
  | jump to =>
    have e1 : oEq (.str (rowW (.jump to))) (.str "jump") S = some (.bl true, S) := wEq (a := "jump") (by decide +kernel)
    have e2 : ixD (rowD (.jump to)) (.int 1) S = some (natD to, S) := atI1
    clear G hst h
    simp only [nextR]
    walk_at "ev"
  | switch c rows =>
    have e1 : oEq (.str (rowW (.switch c rows))) (.str "jump") S = some (.bl false, S) := wEq (a := "switch") (by decide +kernel)
    have e2 : oEq (.str (rowW (.switch c rows))) (.str "switch") S = some (.bl true, S) := wEq (a := "switch") (by decide +kernel)
    have e3 : ixD (rowD (.switch c rows)) (.int 1) S = some (.str c, S) := atI1
    have e4 : ixD (rowD (.switch c rows)) (.int 2) S = some (.tup (rows.map natD), S) := atI2
    have e6 := name_place_cells (S := S) G h.1
    have e7 := st_at (S := S) hst h.1
    have e8 := (switch_at (S := S) hst h.1 h.2.1).1
    clear G hst h
    simp only [nextR]
    walk_at "ev"
  | branch t to =>
    have e1 : oEq (.str (rowW (.branch t to))) (.str "jump") S = some (.bl false, S) := wEq (a := "branch") (by decide +kernel)
    have e2 : oEq (.str (rowW (.branch t to))) (.str "switch") S = some (.bl false, S) := wEq (a := "branch") (by decide +kernel)
    have e2' : oEq (.str (rowW (.branch t to))) (.str "branch") S = some (.bl true, S) := wEq (a := "branch") (by decide +kernel)
    have e3 : ixD (rowD (.branch t to)) (.int 1) S = some (tsD t, S) := atI1
    have e4 : ixD (rowD (.branch t to)) (.int 2) S = some (natD to, S) := atI2
    have e6 := holds_ok (S := S) G hst t 8 h.1 (by have := h.2.1; omega)
    clear G hst h
    simp only [nextR]
    cases hb : tstV g st t <;> (rw [hb] at e6; clear hb; walk_at "ev")
  | set c v =>
    have e1 : oEq (.str (rowW (.set c v))) (.str "jump") S = some (.bl false, S) := wEq (a := "set") (by decide +kernel)
    have e2 : oEq (.str (rowW (.set c v))) (.str "switch") S = some (.bl false, S) := wEq (a := "set") (by decide +kernel)
    have e2' : oEq (.str (rowW (.set c v))) (.str "branch") S = some (.bl false, S) := wEq (a := "set") (by decide +kernel)
    clear G hst h
    simp only [nextR]
    walk_at "ev"
  | deed k n =>
    have e1 : oEq (.str (rowW (.deed k n))) (.str "jump") S = some (.bl false, S) := wEq (a := "deed") (by decide +kernel)
    have e2 : oEq (.str (rowW (.deed k n))) (.str "switch") S = some (.bl false, S) := wEq (a := "deed") (by decide +kernel)
    have e2' : oEq (.str (rowW (.deed k n))) (.str "branch") S = some (.bl false, S) := wEq (a := "deed") (by decide +kernel)
    clear G hst h
    simp only [nextR]
    walk_at "ev"
  | exit e =>
    have e1 : oEq (.str (rowW (.exit e))) (.str "jump") S = some (.bl false, S) := wEq (a := "exit") (by decide +kernel)
    have e2 : oEq (.str (rowW (.exit e))) (.str "switch") S = some (.bl false, S) := wEq (a := "exit") (by decide +kernel)
    have e2' : oEq (.str (rowW (.exit e))) (.str "branch") S = some (.bl false, S) := wEq (a := "exit") (by decide +kernel)
    clear G hst h
    simp only [nextR]
    walk_at "ev"
end K84
end
section
set_option Elab.async false
set_option linter.all false
set_option maxRecDepth 100000
set_option maxHeartbeats 4000000
/-! plain: the machine, step by step, 2 -/
namespace K84
open PySem PySem.Spec PyProof.Rows L2 DL
local macro_rules | `(tactic| walk_at "ev") => `(tactic| simp only [evSeq, evIfS, evRet, evRetN, evVar, evC, evBin, evUn, p2, evNil, evCons, evTup, evLst, evNew, evTest, evAndT, evOrT, evNotT, evAnd, evOr, evNot, evIte, evIteT, evTruth, evChain, evCall, evCallO, evIsi, evAsg, evDrop, evMk, mkI, mkN, evNext, tgN, tgTup, tgCons, tgNil, asB, dTruth, notRef, isiD, bLen, oLe, oLt, oGe, oGt, oSub, oInt, oAdd, oIsN, oNotN, DL.isNon,
  bind_ok, bind_bad, ofO_some, ofO_none, Option.map_some, Option.map_none, List.getElem?_cons_zero, List.getElem?_cons_succ, List.set_cons_zero, List.set_cons_succ, List.length_cons, List.length_nil, if_true, if_false, Bool.false_eq_true, Bool.not_true, Bool.not_false, decide_true, decide_false, and_self, reduceIte, *])

theorem law_holds_vls {w : Str} {g : Gr} {st : List Int} {S : Store} {k : Nat} {a b : Vl} (G : GoodGr g) (hst : InSt g.cells st) (q : Bool) (hw : w = if q then "eq" else "less") (ha : vlOk (cns g) a ∧ depV a ≤ 5) (hb : vlOk (cns g) b ∧ depV b ≤ 5) :
    c__law_holds (k + 1) [grD g, stD st, .tup [.str w, vlD a, vlD b]] S = .ok (.bl (if q then valV g st a == valV g st b else decide (valV g st a < valV g st b))) S := by
  refine fn_rt rfl ?_
  have r1 := law_number_ok (S := S) G hst a 8 ha.1 (by omega) (by omega)
  have r2 := law_number_ok (S := S) G hst b 8 hb.1 (by omega) (by omega)
  have e1 := atI0 (d := .str w) (ds := [vlD a, vlD b]) (S := S)
  have e2 := atI1 (d := .str w) (e := vlD a) (ds := [vlD b]) (S := S)
  have e2' := atI2 (d := .str w) (e := vlD a) (f := vlD b) (ds := []) (S := S)
  have e4 : memD false (.str w) (.lst [.str "eq", .str "less"]) S = some (.bl true, S) := by
    rw [show ([.str "eq", .str "less"] : List D) = (["eq", "less"] : List Str).map D.str from rfl, mem_strsL]
    rw [show (["eq", "less"] : List Str).contains w = true by subst hw; cases q <;> decide +kernel]
  have e5 : oEq (.str w) (.str "eq") S = some (.bl q, S) := wEq (by subst hw; cases q <;> decide +kernel)
  have e6 : oEq (.int (valV g st a)) (.int (valV g st b)) S = some (.bl (valV g st a == valV g st b), S) := iEq rfl
  have z3 : ([D.str "and", D.str "or"] : List D).length ≤ sizeLine := by rw [sizeLine_eq]; decide
  simp only [List.length_cons, List.length_nil] at z3
  unfold b__law_holds
  show evSeq _ _ [some (grD g), some (stD st), some (.tup [.str w, vlD a, vlD b]), none, none, none] S = _
  clear hst G hw ha hb
  unfold evPar2
  cases q <;> walk_at "ev"
theorem law_holds_ok {g : Gr} {st : List Int} {S : Store} (G : GoodGr g) (hst : InSt g.cells st) : ∀ (t : Ts) (k : Nat), tsOk (cns g) 5 t → depT t < k → c__law_holds k [grD g, stD st, tsD t] S = .ok (.bl (tstV g st t)) S
  | .eq a b, k + 1, h, hk => law_holds_vls G hst true rfl h.1 h.2
  | .less a b, k + 1, h, hk => law_holds_vls G hst false rfl h.1 h.2
  | .nt t, k + 1, h, hk => by
    refine fn_rt rfl ?_
    have r1 := law_holds_ok (S := S) G hst t k h (Nat.lt_of_succ_lt_succ hk)
    have e1 := atI0 (d := .str "not") (ds := [tsD t]) (S := S)
    have e2 := atI1 (d := .str "not") (e := tsD t) (ds := []) (S := S)
    have e3 : oEq (.str "not") (.str "not") S = some (.bl true, S) := wEq (by decide +kernel)
    have e4 : memD false (.str "not") (.lst [.str "eq", .str "less"]) S = some (.bl false, S) := by
      rw [show ([.str "eq", .str "less"] : List D) = (["eq", "less"] : List Str).map D.str from rfl, mem_strsL]
      rw [show (["eq", "less"] : List Str).contains "not" = false by decide +kernel]
    have z3 : ([D.str "and", D.str "or"] : List D).length ≤ sizeLine := by rw [sizeLine_eq]; decide
    simp only [List.length_cons, List.length_nil] at z3
    unfold b__law_holds
    show evSeq _ _ [some (grD g), some (stD st), some (.tup [.str "not", tsD t]), none, none, none] S = .ok (.rt (.bl (!tstV g st t))) S
    clear hst G h hk
    walk_at "ev"
  | .con c a b, k + 1, h, hk => by
    refine fn_rt rfl ?_
    have hk : max (depT a) (depT b) + 1 < k + 1 := hk
    have r1 := law_holds_ok (S := S) G hst a k h.1 (by omega)
    have r2 := law_holds_ok (S := S) G hst b k h.2 (by omega)
    have e1 := atI0 (d := .str (conW c)) (ds := [tsD a, tsD b]) (S := S)
    have e2 := atI1 (d := .str (conW c)) (e := tsD a) (ds := [tsD b]) (S := S)
    have e2' := atI2 (d := .str (conW c)) (e := tsD a) (f := tsD b) (ds := []) (S := S)
    have e3 : oEq (.str (conW c)) (.str "not") S = some (.bl false, S) := wEq (by cases c <;> decide +kernel)
    have e4 : memD false (.str (conW c)) (.lst [.str "eq", .str "less"]) S = some (.bl false, S) := by
      rw [show ([.str "eq", .str "less"] : List D) = (["eq", "less"] : List Str).map D.str from rfl, mem_strsL]
      rw [show (["eq", "less"] : List Str).contains (conW c) = false by cases c <;> decide +kernel]
    have e5 : oEq (.str (conW c)) (.str "and") S = some (.bl c, S) := wEq (by cases c <;> decide +kernel)
    have z3 : ([D.str "and", D.str "or"] : List D).length ≤ sizeLine := by rw [sizeLine_eq]; decide
    simp only [List.length_cons, List.length_nil] at z3
    unfold b__law_holds
    show evSeq _ _ [some (grD g), some (stD st), some (.tup [.str (conW c), tsD a, tsD b]), none, none, none] S = .ok (.rt (.bl (if c then tstV g st a && tstV g st b else tstV g st a || tstV g st b))) S
    clear hst G h hk
    unfold evPar2
    generalize tstV g st a = x at r1 ⊢
    generalize tstV g st b = y at r2 ⊢
    cases c <;> cases x <;> (simp only [if_true, if_false, Bool.true_and, Bool.false_and, Bool.true_or, Bool.false_or, Bool.false_eq_true]; walk_at "ev")
theorem law_next_ok {g : Gr} {st : List Int} {S : Store} {many : Nat} (G : GoodGr g) (hst : InSt g.cells st) (r : Rw) (i : Nat) (h : rowOk g many r) : c__law_next [grD g, rowD r, .int (i : Nat), stD st] S = .ok (natD (nextR g st i r)) S := by
  refine fn_rt rfl ?_
  have e0 := row_at0 r (S := S)
  have e5 : ixD (grD g) (.int 0) S = some (.tup (g.cells.map cellD), S) := atI0
  unfold b__law_next
  show evSeq _ _ [some (grD g), some (rowD r), some (.int (i : Nat)), some (stD st)] S = _
  have e9 : natD (i + 1) = .int ((i : Nat) + 1) := rfl
  cases r with
  | jump to =>
    have e1 : oEq (.str (rowW (.jump to))) (.str "jump") S = some (.bl true, S) := wEq (a := "jump") (by decide +kernel)
    have e2 : ixD (rowD (.jump to)) (.int 1) S = some (natD to, S) := atI1
    clear G hst h
    simp only [nextR]
    walk_at "ev"
  | switch c rows =>
    have e1 : oEq (.str (rowW (.switch c rows))) (.str "jump") S = some (.bl false, S) := wEq (a := "switch") (by decide +kernel)
    have e2 : oEq (.str (rowW (.switch c rows))) (.str "switch") S = some (.bl true, S) := wEq (a := "switch") (by decide +kernel)
    have e3 : ixD (rowD (.switch c rows)) (.int 1) S = some (.str c, S) := atI1
    have e4 : ixD (rowD (.switch c rows)) (.int 2) S = some (.tup (rows.map natD), S) := atI2
    have e6 := law_place_cells (S := S) G h.1
    have e7 := st_at (S := S) hst h.1
    have e8 := (switch_at (S := S) hst h.1 h.2.1).1
    clear G hst h
    simp only [nextR]
    walk_at "ev"
  | branch t to =>
    have e1 : oEq (.str (rowW (.branch t to))) (.str "jump") S = some (.bl false, S) := wEq (a := "branch") (by decide +kernel)
    have e2 : oEq (.str (rowW (.branch t to))) (.str "switch") S = some (.bl false, S) := wEq (a := "branch") (by decide +kernel)
    have e2' : oEq (.str (rowW (.branch t to))) (.str "branch") S = some (.bl true, S) := wEq (a := "branch") (by decide +kernel)
    have e3 : ixD (rowD (.branch t to)) (.int 1) S = some (tsD t, S) := atI1
    have e4 : ixD (rowD (.branch t to)) (.int 2) S = some (natD to, S) := atI2
    have e6 := law_holds_ok (S := S) G hst t 8 h.1 (by have := h.2.1; omega)
    clear G hst h
    simp only [nextR]
    cases hb : tstV g st t <;> (rw [hb] at e6; clear hb; walk_at "ev")
  | set c v =>
    have e1 : oEq (.str (rowW (.set c v))) (.str "jump") S = some (.bl false, S) := wEq (a := "set") (by decide +kernel)
    have e2 : oEq (.str (rowW (.set c v))) (.str "switch") S = some (.bl false, S) := wEq (a := "set") (by decide +kernel)
    have e2' : oEq (.str (rowW (.set c v))) (.str "branch") S = some (.bl false, S) := wEq (a := "set") (by decide +kernel)
    clear G hst h
    simp only [nextR]
    walk_at "ev"
  | deed k n =>
    have e1 : oEq (.str (rowW (.deed k n))) (.str "jump") S = some (.bl false, S) := wEq (a := "deed") (by decide +kernel)
    have e2 : oEq (.str (rowW (.deed k n))) (.str "switch") S = some (.bl false, S) := wEq (a := "deed") (by decide +kernel)
    have e2' : oEq (.str (rowW (.deed k n))) (.str "branch") S = some (.bl false, S) := wEq (a := "deed") (by decide +kernel)
    clear G hst h
    simp only [nextR]
    walk_at "ev"
  | exit e =>
    have e1 : oEq (.str (rowW (.exit e))) (.str "jump") S = some (.bl false, S) := wEq (a := "exit") (by decide +kernel)
    have e2 : oEq (.str (rowW (.exit e))) (.str "switch") S = some (.bl false, S) := wEq (a := "exit") (by decide +kernel)
    have e2' : oEq (.str (rowW (.exit e))) (.str "branch") S = some (.bl false, S) := wEq (a := "exit") (by decide +kernel)
    clear G hst h
    simp only [nextR]
    walk_at "ev"

theorem state_behind_ok {g : Gr} {st : List Int} {S : Store} {many : Nat} (G : GoodGr g) (hst : InSt g.cells st) (r : Rw) (h : rowOk g many r) : c_state_behind [grD g, rowD r, stD st] S = .ok (stD (stR g st r)) S := by
  refine fn_rt (pure_st _) ?_
  have e0 := row_at0 r (S := S)
  unfold b_state_behind
  show evSeq _ _ [some (grD g), some (rowD r), some (stD st)] S = _
  cases r with
  | set c v =>
    have e1 : oEq (.str (rowW (.set c v))) (.str "set") S = some (.bl true, S) := wEq (a := "set") (by decide +kernel)
    have e3 : ixD (rowD (.set c v)) (.int 1) S = some (.str c, S) := atI1
    have e4 : ixD (rowD (.set c v)) (.int 2) S = some (vlD v, S) := atI2
    have e5 : ixD (grD g) (.int 0) S = some (.tup (g.cells.map cellD), S) := atI0
    have e6 := name_place_cells (S := S) G h.1
    have e7 := set_in_ok (S := S) G hst h.1 h.2.1 h.2.2
    clear G hst h
    simp only [stR]
    walk_at "ev"
  | deed k n =>
    have e1 : oEq (.str (rowW (.deed k n))) (.str "set") S = some (.bl false, S) := wEq (a := "deed") (by decide +kernel)
    clear G hst h
    simp only [stR]
    walk_at "ev"
  | branch t to =>
    have e1 : oEq (.str (rowW (.branch t to))) (.str "set") S = some (.bl false, S) := wEq (a := "branch") (by decide +kernel)
    clear G hst h
    simp only [stR]
    walk_at "ev"
  | switch c rows =>
    have e1 : oEq (.str (rowW (.switch c rows))) (.str "set") S = some (.bl false, S) := wEq (a := "switch") (by decide +kernel)
    clear G hst h
    simp only [stR]
    walk_at "ev"
  | jump to =>
    have e1 : oEq (.str (rowW (.jump to))) (.str "set") S = some (.bl false, S) := wEq (a := "jump") (by decide +kernel)
    clear G hst h
    simp only [stR]
    walk_at "ev"
  | exit e =>
    have e1 : oEq (.str (rowW (.exit e))) (.str "set") S = some (.bl false, S) := wEq (a := "exit") (by decide +kernel)
    clear G hst h
    simp only [stR]
    walk_at "ev"
theorem count_behind_ok {g : Gr} {ct : List Int} {S : Store} {many : Nat} (G : GoodGr g) (hct : ct.length = g.kinds.length) (r : Rw) (h : rowOk g many r) : c_count_behind [grD g, rowD r, stD ct] S = .ok (stD (ctR g ct r)) S := by
  refine fn_rt (pure_st _) ?_
  have e0 := row_at0 r (S := S)
  unfold b_count_behind
  show evSeq _ _ [some (grD g), some (rowD r), some (stD ct), none] S = _
  cases r with
  | deed k n =>
    have e1 : oEq (.str (rowW (.deed k n))) (.str "deed") S = some (.bl true, S) := wEq (a := "deed") (by decide +kernel)
    have e3 : ixD (rowD (.deed k n)) (.int 1) S = some (.str k, S) := atI1
    have e4 : ixD (rowD (.deed k n)) (.int 2) S = some (.int n, S) := atI2
    have e5 : ixD (grD g) (.int 1) S = some (.tup (g.kinds.map kindD), S) := atI1
    have e6 := name_place_kinds (S := S) G h.1
    have hl : plc (kns g) k < ct.length := by
      have h1 : plc (kns g) k < (kns g).length := plc_lt h.1
      rw [List.length_map, ← hct] at h1
      exact h1
    have e7 : ixD (stD ct) (.int (plc (kns g) k : Nat)) S = some (.int (ct.getD (plc (kns g) k) 0), S) := ix_st hl
    have e8 := changed_ok (S := S) (v := ct.getD (plc (kns g) k) 0 + n) hl (by have := G.k1; omega)
    clear G hct h hl
    simp only [ctR]
    walk_at "ev"
  | set c v =>
    have e1 : oEq (.str (rowW (.set c v))) (.str "deed") S = some (.bl false, S) := wEq (a := "set") (by decide +kernel)
    clear G hct h
    simp only [ctR]
    walk_at "ev"
  | branch t to =>
    have e1 : oEq (.str (rowW (.branch t to))) (.str "deed") S = some (.bl false, S) := wEq (a := "branch") (by decide +kernel)
    clear G hct h
    simp only [ctR]
    walk_at "ev"
  | switch c rows =>
    have e1 : oEq (.str (rowW (.switch c rows))) (.str "deed") S = some (.bl false, S) := wEq (a := "switch") (by decide +kernel)
    clear G hct h
    simp only [ctR]
    walk_at "ev"
  | jump to =>
    have e1 : oEq (.str (rowW (.jump to))) (.str "deed") S = some (.bl false, S) := wEq (a := "jump") (by decide +kernel)
    clear G hct h
    simp only [ctR]
    walk_at "ev"
  | exit e =>
    have e1 : oEq (.str (rowW (.exit e))) (.str "deed") S = some (.bl false, S) := wEq (a := "exit") (by decide +kernel)
    clear G hct h
    simp only [ctR]
    walk_at "ev"
theorem nought_of_ok {g : Gr} {S : Store} (G : GoodGr g) : c_nought_of [grD g] S = .ok (stD (List.replicate g.kinds.length 0)) S := by
  refine fn_rt (pure_st _) ?_
  have hc : evComp [1] (itSeq (evBin ixD (evVar 0) (evC (.int 1)))) (tgN 1) evYes (evC (.int 0)) [some (grD g), none] S = .ok (g.kinds.map fun _ => D.int 0) S := by
    exact comp_all (m := ⟨g.kinds.map kindD, fun _ => True⟩) kindD _ rfl rfl trivial (fun d hd => ⟨_, rfl, rfl⟩) (by have := G.k1; rw [sizeLine_eq]; omega)
  refine ret_of ?_
  refine (tuple_of hc).trans ?_
  unfold stD
  rw [List.map_replicate, List.map_const']
theorem prices_of_ok {g : Gr} {S : Store} (G : GoodGr g) : c__law_prices_of [grD g] S = .ok (stD (g.kinds.map (·.2))) S := by
  refine fn_rt (pure_st _) ?_
  have hc : evComp [1] (itSeq (evBin ixD (evVar 0) (evC (.int 1)))) (tgN 1) evYes (evBin ixD (evVar 1) (evC (.int 1))) [some (grD g), none] S = .ok (g.kinds.map fun p => D.int p.2) S := by
    exact comp_all (m := ⟨g.kinds.map kindD, fun _ => True⟩) kindD _ rfl rfl trivial (fun d hd => ⟨_, rfl, rfl⟩) (by have := G.k1; rw [sizeLine_eq]; omega)
  refine ret_of ?_
  refine (tuple_of hc).trans ?_
  unfold stD
  rw [List.map_map]
  rfl
def costV (g : Gr) (ct : List Int) : Int := ((ct.zip g.kinds).map fun p => p.1 * p.2.2).sum
theorem zipD_kinds : ∀ (ds : List Int) (cs : List (Str × Int)), zipD (ds.map D.int) (cs.map kindD) = (ds.zip cs).map fun p => .tup [.int p.1, kindD p.2]
  | [], _ => by simp [zipD]
  | _ :: _, [] => by simp [zipD]
  | d :: ds, c :: cs => by
    show .tup [.int d, kindD c] :: zipD (ds.map D.int) (cs.map kindD) = _
    rw [zipD_kinds ds cs]
    rfl
def SmallL (ct : List Int) : Prop := ∀ x ∈ ct, x.natAbs < 2 ^ 4000
theorem price_small {g : Gr} (G : GoodGr g) {p : Str × Int} (h : p ∈ g.kinds) : p.2.natAbs < 2 ^ 4000 := by
  have h1 := (G.k2 p h).2
  have h2 : p.2.natAbs < 2 ^ 7 := by
    have : (2 : Nat) ^ 7 = 128 := by decide
    omega
  exact Nat.lt_of_lt_of_le h2 (Nat.pow_le_pow_right (by decide) (by decide))
theorem price_of_ok {g : Gr} {ct : List Int} {S : Store} (G : GoodGr g) (hs : SmallL ct) : c_price_of [grD g, stD ct] S = .ok (.int (costV g ct)) S := by
  refine fn_rt rfl ?_
  have hc : evComp [2, 3, 4] (itOf itmZip (evCons (evVar 1) (evCons (evBin ixD (evVar 0) (evC (.int 1))) evNil))) (tgTup 2 (tgCons (tgN 2) (tgCons (tgTup 2 (tgCons (tgN 3) (tgCons (tgN 4) tgNil))) tgNil))) evYes (evBin oMul (evVar 2) (evVar 4)) [some (grD g), some (stD ct), none, none, none] S = .ok ((ct.zip g.kinds).map fun p => D.int (p.1 * p.2.2)) S := by
    refine comp_all (m := ⟨zipD (ct.map D.int) (g.kinds.map kindD), fun _ => True⟩) (fun (p : Int × (Str × Int)) => .tup [.int p.1, kindD p.2]) _ rfl (zipD_kinds ct g.kinds) trivial (fun p hp => ?_) (by rw [List.length_zip, sizeLine_eq]; have := G.k1; omega)
    refine ⟨[some (grD g), some (stD ct), some (.int p.1), some (.str p.2.1), some (.int p.2.2)], rfl, ?_⟩
    obtain ⟨x, k⟩ := p
    have hx := List.of_mem_zip hp
    exact bin_of (S1 := S) (S2 := S) (a := .int x) (b := .int k.2) rfl rfl (mul_small (hs x hx.1) (price_small G hx.2))
  exact ret_of (sum_of _ hc)
theorem cost_eq {g : Gr} {ct : List Int} (hl : ct.length = g.kinds.length) : ((List.range g.kinds.length).map fun k => (g.kinds.map (·.2)).getD k 0 * ct.getD k 0).sum = costV g ct := by
  unfold costV
  congr 1
  refine List.ext_getElem (by simp [hl]) fun i h1 h2 => ?_
  rw [List.length_map, List.length_range] at h1
  have h3 : i < ct.length := by omega
  simp only [List.getElem_map, List.getElem_range, List.getElem_zip, List.getD_eq_getElem?_getD, List.getElem?_map]
  rw [List.getElem?_eq_getElem h1, List.getElem?_eq_getElem h3]
  show (g.kinds[i]).2 * ct[i] = _
  exact Int.mul_comm _ _
theorem law_cost_ok {g : Gr} {ct : List Int} {S : Store} (G : GoodGr g) (hl : ct.length = g.kinds.length) (hs : SmallL ct) : c__law_cost [stD (g.kinds.map (·.2)), stD ct] S = .ok (.int (costV g ct)) S := by
  refine fn_rt rfl ?_
  have hln : ((g.kinds.map (·.2)).map D.int).length = g.kinds.length := by simp
  have hi : itOf itmR1 (evCons (evCallO bLen (evCons (evVar 0) evNil)) evNil) [some (stD (g.kinds.map (·.2))), some (stD ct), none] S = .ok ⟨rangeD 0 g.kinds.length, fun _ => True⟩ S := by
    refine range_small (by have := G.k1; omega) ?_
    rw [← hln]
    rfl
  have hc : evComp [2] (itOf itmR1 (evCons (evCallO bLen (evCons (evVar 0) evNil)) evNil)) (tgN 2) evYes (evBin oMul (evBin ixD (evVar 0) (evVar 2)) (evBin ixD (evVar 1) (evVar 2))) [some (stD (g.kinds.map (·.2))), some (stD ct), none] S = .ok ((List.range g.kinds.length).map fun k => D.int ((g.kinds.map (·.2)).getD k 0 * ct.getD k 0)) S := by
    refine comp_all (m := ⟨rangeD 0 g.kinds.length, fun _ => True⟩) (fun (k : Nat) => D.int (k : Nat)) _ hi (rangeD_map _) trivial (fun k hk => ?_) (by rw [List.length_range, sizeLine_eq]; have := G.k1; omega)
    refine ⟨[some (stD (g.kinds.map (·.2))), some (stD ct), some (.int (k : Nat))], rfl, ?_⟩
    have hk := List.mem_range.mp hk
    have b1 := ix_st (S := S) (st := g.kinds.map (·.2)) (i := k) (by simpa using hk)
    have b2 := ix_st (S := S) (st := ct) (i := k) (by omega)
    refine bin_of (bin_of rfl rfl b1) (bin_of rfl rfl b2) (mul_small ?_ (hs _ ?_))
    · rw [List.getD_eq_getElem?_getD, List.getElem?_map, List.getElem?_eq_getElem hk]
      exact price_small G (List.getElem_mem hk)
    · have h3 : k < ct.length := by omega
      rw [List.getD_eq_getElem?_getD, List.getElem?_eq_getElem h3]
      exact List.getElem_mem h3
  have := sum_of _ hc
  rw [cost_eq hl] at this
  exact ret_of this
end K84
end
section
set_option Elab.async false
set_option linter.all false
set_option maxRecDepth 100000
set_option maxHeartbeats 4000000
/-! plain: the run of rows -/
namespace K84
open PySem PySem.Spec PyProof.Rows L2 DL
local macro_rules | `(tactic| walk_at "ev") => `(tactic| simp only [evSeq, evIfS, evRet, evRetN, evVar, evC, evBin, evUn, p2, evNil, evCons, evTup, evLst, evNew, evTest, evAndT, evOrT, evNotT, evAnd, evOr, evNot, evIte, evIteT, evTruth, evChain, evCall, evCallO, evIsi, evAsg, evDrop, evMk, mkI, mkN, evNext, tgN, tgTup, tgCons, tgNil, asB, dTruth, notRef, isiD, bLen, oLe, oLt, oGe, oGt, oSub, oInt, oAdd, oIsN, oNotN, DL.isNon,
  bind_ok, bind_bad, ofO_some, ofO_none, Option.map_some, Option.map_none, List.getElem?_cons_zero, List.getElem?_cons_succ, List.set_cons_zero, List.set_cons_succ, List.length_cons, List.length_nil, if_true, if_false, Bool.false_eq_true, Bool.not_true, Bool.not_false, decide_true, decide_false, and_self, reduceIte, *])

abbrev Kx := Nat × List Int
def kv (k : Kx) : DKx.PK × D := (((k.1 : Nat), k.2), .bl true)
def keyT (i : Nat) (st : List Int) : D := .tup [.int (i : Nat), stD st]
theorem key_of (i : Nat) (st : List Int) : keyOf (keyT i st) = some (((i : Nat) : Int), st) := by
  show (intsOf (st.map D.int)).map (fun ns => ((((i : Nat) : Int)), ns)) = _
  rw [intsOf_map]
  rfl
theorem kv_mem {met : List Kx} {i : Nat} {st : List Int} : ((((i : Nat) : Int), st) ∈ (met.map kv).map (·.1)) ↔ (i, st) ∈ met := by
  rw [List.map_map, List.mem_map]
  constructor
  · rintro ⟨⟨j, s⟩, h, e⟩
    simp only [Function.comp, kv, Prod.mk.injEq] at e
    obtain ⟨e1, e2⟩ := e
    have : j = i := by omega
    subst this e2
    exact h
  · intro h
    exact ⟨(i, st), h, rfl⟩
theorem in_dct {S : Store} {met : List Kx} {i n : Nat} {st : List Int} {neg : Bool} (hS : S[n]? = some (.dct (met.map kv))) : inDc neg (keyT i st) (.ref n) S = some (.bl (neg ^^ decide ((i, st) ∈ met)), S) := by
  unfold inDc
  simp only
  rw [hS, key_of]
  simp only
  congr 4
  rw [decide_eq_decide]
  exact kv_mem
theorem set_dct {S : Store} {met : List Kx} {i n : Nat} {st : List Int} (hS : S[n]? = some (.dct (met.map kv))) (h : (i, st) ∉ met) (hl : met.length ≤ 1000000) : setDc (.ref n) (keyT i st) (.bl true) S = some (S.set n (.dct ((met ++ [(i, st)]).map kv))) := by
  unfold setDc
  simp only
  rw [hS, key_of]
  simp only
  rw [if_pos ⟨fun hm => h (kv_mem.mp hm), by rw [List.length_map, sizeLine_eq]; omega⟩, List.map_append]
  rfl
theorem len_dct {S : Store} {met : List Kx} {n : Nat} (hS : S[n]? = some (.dct (met.map kv))) : bLenD [.ref n] S = some (natD met.length, S) := by
  show (match S[n]? with
    | some (.dct kvs) => some (D.int (kvs.length : Nat), S)
    | _ => none) = _
  rw [hS, ← List.length_map (f := kv) (as := met)]
  rfl
abbrev Out := Option (List Int × Int × Nat) × Nat
def outD1 : Option (List Int × Int × Nat) → D
  | none => .non
  | some o => .tup [stD o.1, .int o.2.1, natD o.2.2]
def outD (r : Out) : D := .tup [outD1 r.1, natD r.2]
def mach (g : Gr) (rows : List Rw) : Nat → List Kx → Nat → List Int → List Int → Option Out
  | 0, _, _, _, _ => none
  | k + 1, met, i, st, ct => if (i, st) ∈ met then some (none, met.length) else
    match rows[i]? with
    | none => none
    | some (.exit e) => some (some (ct, numSt g.cells st 0, plc g.exits e), met.length + 1)
    | some row => mach g rows k (met ++ [(i, st)]) (nextR g st i row) (stR g st row) (ctR g ct row)
theorem while_stop {c : DEnv → Store → R Bool} {b f : DEnv → Store → R Fl} {F : Nat} {δ : DEnv} {S : Store} (h : c δ S = .ok false S) : evSeq (whileN c b (F + 1)) f δ S = f δ S := by
  refine seq_nx (δ1 := δ) (S1 := S) ?_
  unfold whileN
  rw [h]
  rfl
theorem while_rt {c : DEnv → Store → R Bool} {b f : DEnv → Store → R Fl} {F : Nat} {δ : DEnv} {S S2 : Store} {v : D} (h : c δ S = .ok true S) (hb : b δ S = .ok (.rt v) S2) : evSeq (whileN c b (F + 1)) f δ S = .ok (.rt v) S2 := by
  refine seq_rt ?_
  unfold whileN
  rw [h, bind_ok, if_pos rfl, hb]
  rfl
theorem while_nx {c : DEnv → Store → R Bool} {b f : DEnv → Store → R Fl} {F : Nat} {δ δ2 : DEnv} {S S2 : Store} (h : c δ S = .ok true S) (hb : b δ S = .ok (.nx δ2) S2) : evSeq (whileN c b (F + 1)) f δ S = evSeq (whileN c b F) f δ2 S2 := by
  have : whileN c b (F + 1) δ S = whileN c b F δ2 S2 := by
    conv => lhs; unfold whileN
    rw [h, bind_ok, if_pos rfl, hb]
    rfl
  unfold evSeq
  rw [this]
noncomputable def rrC : DEnv → Store → R Bool := (evTest (evBin (inDc true) (evTup (evCons (evVar 4) (evCons (evVar 2) evNil))) (evVar 3)))
noncomputable def rrB : DEnv → Store → R Fl := (evSeq (evAsg (evC (.bl true)) (tgSub setDc (evVar 3) (evTup (evCons (evVar 4) (evCons (evVar 2) evNil)))))
    (evSeq (evAsg (evBin ixD (evVar 1) (evVar 4)) (tgN 6))
    (evSeq (evIfS (evTest (evBin oEq (evBin ixD (evVar 6) (evC (.int 0))) (evC (.str "exit")))) (evRet (evTup (evCons (evTup (evCons (evVar 5) (evCons (evCall c_number_of (evCons (evVar 0) (evCons (evVar 2) evNil))) (evCons (evMethT tIndex (evBin ixD (evVar 0) (evC (.int 2))) (evCons (evBin ixD (evVar 6) (evC (.int 1))) evNil)) evNil)))) (evCons (evCallO bLenD (evCons (evVar 3) evNil)) evNil)))) evNext)
    (evSeq (evAsg (evCall c_next_row (evCons (evVar 0) (evCons (evVar 6) (evCons (evVar 4) (evCons (evVar 2) evNil))))) (tgN 4))
    (evSeq (evAsg (evCall c_count_behind (evCons (evVar 0) (evCons (evVar 6) (evCons (evVar 5) evNil)))) (tgN 5))
    (evAsg (evCall c_state_behind (evCons (evVar 0) (evCons (evVar 6) (evCons (evVar 2) evNil)))) (tgN 2)))))))
noncomputable def rrE : DEnv → Store → R Fl := evRet (evTup (evCons (evC .non) (evCons (evCallO bLenD (evCons (evVar 3) evNil)) evNil)))
theorem ctR_len (g : Gr) (ct : List Int) (r : Rw) : (ctR g ct r).length = ct.length := by
  cases r <;> simp [ctR]
theorem stR_in {g : Gr} {st : List Int} {many : Nat} (G : GoodGr g) (hst : InSt g.cells st) (r : Rw) (h : rowOk g many r) : InSt g.cells (stR g st r) := by
  cases r with
  | set c v =>
    obtain ⟨p, hp, e⟩ := cell_at h.1
    have h1 := sz_pos G h.1
    rw [e] at h1
    refine hst.set hp ?_ ?_
    · exact Int.emod_nonneg _ (by rw [e]; omega)
    · rw [e]
      exact Int.emod_lt_of_pos _ (by omega)
  | _ => exact hst
theorem nextR_lt {g : Gr} {st : List Int} {rows : List Rw} {i : Nat} (C : GoodCode g rows) (hst : InSt g.cells st) {r : Rw} (hr : rows[i]? = some r) (he : ∀ e, r ≠ .exit e) : nextR g st i r < rows.length := by
  have hi := (List.getElem?_eq_some_iff.mp hr).1
  have h := C.ok r (List.mem_of_getElem? hr)
  have hn : endOk r = false → i + 1 < rows.length := fun hz => by
    obtain ⟨ini, l, hf, hl⟩ := C.fin
    rw [hf, List.length_append, List.length_singleton] at hi ⊢
    by_cases hj : i = ini.length
    · subst hj
      rw [hf] at hr
      simp at hr
      subst hr
      rw [hl] at hz
      cases hz
    · omega
  cases r with
  | set c v => exact hn rfl
  | deed k n => exact hn rfl
  | branch t to =>
    show (if tstV g st t then i + 1 else to) < _
    split
    · exact hn rfl
    · exact h.2.2
  | switch c l =>
    have := (switch_at (S := []) hst h.1 h.2.1).2
    exact h.2.2 _ this
  | jump to => exact h
  | exit e => exact absurd rfl (he e)
end K84
end
section
set_option Elab.async false
set_option linter.all false
set_option maxRecDepth 100000
set_option maxHeartbeats 4000000
/-! plain: the run of rows 2 -/
namespace K84
open PySem PySem.Spec PyProof.Rows L2 DL
local macro_rules | `(tactic| walk_at "ev") => `(tactic| simp only [evSeq, evIfS, evRet, evRetN, evVar, evC, evBin, evUn, p2, evNil, evCons, evTup, evLst, evNew, evTest, evAndT, evOrT, evNotT, evAnd, evOr, evNot, evIte, evIteT, evTruth, evChain, evCall, evCallO, evIsi, evAsg, evDrop, evMk, mkI, mkN, evNext, tgN, tgTup, tgCons, tgNil, asB, dTruth, notRef, isiD, bLen, oLe, oLt, oGe, oGt, oSub, oInt, oAdd, oIsN, oNotN, DL.isNon,
  bind_ok, bind_bad, ofO_some, ofO_none, Option.map_some, Option.map_none, List.getElem?_cons_zero, List.getElem?_cons_succ, List.set_cons_zero, List.set_cons_succ, List.length_cons, List.length_nil, if_true, if_false, Bool.false_eq_true, Bool.not_true, Bool.not_false, decide_true, decide_false, and_self, reduceIte, *])

theorem cls_kv {k : Nat} (met : List Kx) : clM k (.dct (met.map kv)) = true := by
  show (met.map kv).all (fun p => clD k p.2) = true
  rw [List.all_map]
  exact List.all_eq_true.mpr fun _ _ => rfl
theorem outD_pure (r : Out) : pureD (outD r) = true := by
  obtain ⟨o, n⟩ := r
  cases o with
  | none => rfl
  | some o =>
    show ((pureD (stD o.1) && true) && true) = true
    rw [pure_st]
    rfl
theorem row_get {rows : List Rw} {i : Nat} {r : Rw} {S : Store} (h : rows[i]? = some r) : ixD (codeD rows) (.int (i : Nat)) S = some (rowD r, S) := ix_tup (by rw [List.getElem?_map, h]; rfl)
def isExit : Rw → Bool
  | .exit _ => true
  | _ => false
theorem exit_w (r : Rw) {S : Store} : oEq (.str (rowW r)) (.str "exit") S = some (.bl (isExit r), S) := by
  cases r with
  | set c v => exact wEq (a := "set") (v := false) (by decide +kernel)
  | deed c v => exact wEq (a := "deed") (v := false) (by decide +kernel)
  | branch c v => exact wEq (a := "branch") (v := false) (by decide +kernel)
  | switch c v => exact wEq (a := "switch") (v := false) (by decide +kernel)
  | jump c => exact wEq (a := "jump") (v := false) (by decide +kernel)
  | exit c => exact wEq (a := "exit") (v := true) (by decide +kernel)
theorem loop_exit {g : Gr} {rows : List Rw} {S0 : Store} {met : List Kx} {i : Nat} {st ct : List Int} {e : Str} {x6 : Option D} (G : GoodGr g) (hst : InSt g.cells st) (hr : rows[i]? = some (.exit e)) (he : e ∈ g.exits) (hm : (i, st) ∉ met) (hl : met.length ≤ 1000000) :
    rrB [some (grD g), some (codeD rows), some (stD st), some (.ref S0.length), some (natD i), some (stD ct), x6] (S0 ++ [.dct (met.map kv)]) = .ok (.rt (outD (some (ct, numSt g.cells st 0, plc g.exits e), met.length + 1))) (S0 ++ [.dct ((met ++ [(i, st)]).map kv)]) := by
  have hg : (S0 ++ [M.dct (met.map kv)])[S0.length]? = some (M.dct (met.map kv)) := get_last
  have e1 := set_dct hg hm hl
  rw [set_last] at e1
  generalize hS : S0 ++ [M.dct ((met ++ [(i, st)]).map kv)] = S at e1 ⊢
  have e2 : bLenD [.ref S0.length] S = some (natD (met.length + 1), S) := by
    have := len_dct (S := S) (n := S0.length) (met := met ++ [(i, st)]) (by rw [← hS]; exact get_last)
    rw [List.length_append, List.length_singleton] at this
    exact this
  have e3 := row_get (S := S) hr
  have e4 := row_at0 (.exit e) (S := S)
  have e5 : oEq (.str (rowW (.exit e))) (.str "exit") S = some (.bl true, S) := exit_w (.exit e)
  have e6 := number_of_ok (S := S) G hst
  have e7 : ixD (grD g) (.int 2) S = some (.tup (g.exits.map D.str), S) := atI2
  have e8 : ixD (rowD (.exit e)) (.int 1) S = some (.str e, S) := atI1
  have e9 := index_tup (S := S) he
  have e10 : isTupD (.tup (g.exits.map D.str)) = true := rfl
  have z2 : 2 ≤ sizeLine := by rw [sizeLine_eq]; decide
  have z3 : 3 ≤ sizeLine := by rw [sizeLine_eq]; decide
  clear hr he hm hl hg hS G hst
  unfold rrB keyT natD at *
  unfold codeD at e3 ⊢
  unfold tgSub evMethT
  walk_at "ev"
  rfl
theorem loop_step {g : Gr} {rows : List Rw} {S0 : Store} {met : List Kx} {i : Nat} {st ct : List Int} {r : Rw} {x6 : Option D} {many : Nat} (G : GoodGr g) (hst : InSt g.cells st) (hct : ct.length = g.kinds.length) (hr : rows[i]? = some r) (ho : rowOk g many r) (he : isExit r = false) (hm : (i, st) ∉ met) (hl : met.length ≤ 1000000) :
    rrB [some (grD g), some (codeD rows), some (stD st), some (.ref S0.length), some (natD i), some (stD ct), x6] (S0 ++ [.dct (met.map kv)]) = .ok (.nx [some (grD g), some (codeD rows), some (stD (stR g st r)), some (.ref S0.length), some (natD (nextR g st i r)), some (stD (ctR g ct r)), some (rowD r)]) (S0 ++ [.dct ((met ++ [(i, st)]).map kv)]) := by
  have hg : (S0 ++ [M.dct (met.map kv)])[S0.length]? = some (M.dct (met.map kv)) := get_last
  have e1 := set_dct hg hm hl
  rw [set_last] at e1
  generalize hS : S0 ++ [M.dct ((met ++ [(i, st)]).map kv)] = S at e1 ⊢
  have e3 := row_get (S := S) hr
  have e4 := row_at0 r (S := S)
  have e5 := exit_w r (S := S)
  rw [he] at e5
  have e6 := next_row_ok (S := S) G hst r i ho
  have e7 := state_behind_ok (S := S) G hst r ho
  have e8 := count_behind_ok (S := S) G hct r ho
  have z2 : 2 ≤ sizeLine := by rw [sizeLine_eq]; decide
  clear hr he hm hl hg hS G hst hct ho
  unfold rrB keyT natD at *
  unfold codeD at e3 ⊢
  unfold tgSub
  walk_at "ev"
theorem cond_ok {g : Gr} {rows : List Rw} {S0 : Store} {met : List Kx} {i : Nat} {st ct : List Int} {x6 : Option D} :
    rrC [some (grD g), some (codeD rows), some (stD st), some (.ref S0.length), some (natD i), some (stD ct), x6] (S0 ++ [.dct (met.map kv)]) = .ok (!decide ((i, st) ∈ met)) (S0 ++ [.dct (met.map kv)]) := by
  have hg : (S0 ++ [M.dct (met.map kv)])[S0.length]? = some (M.dct (met.map kv)) := get_last
  have e1 := in_dct (neg := true) (i := i) (st := st) hg
  rw [Bool.true_xor] at e1
  have z2 : 2 ≤ sizeLine := by rw [sizeLine_eq]; decide
  clear hg
  generalize S0 ++ [M.dct (met.map kv)] = S at e1 ⊢
  generalize (!decide ((i, st) ∈ met)) = b at e1 ⊢
  unfold rrC keyT natD at *
  walk_at "ev"
theorem run_loop {g : Gr} {rows : List Rw} {S0 : Store} (G : GoodGr g) (C : GoodCode g rows) : ∀ (k : Nat) (met : List Kx) (i : Nat) (st ct : List Int) (r : Out) (F : Nat) (x6 : Option D), mach g rows k met i st ct = some r → InSt g.cells st → ct.length = g.kinds.length → k ≤ F → met.length + k ≤ 1000000 →
    ∃ met', evSeq (whileN rrC rrB F) rrE [some (grD g), some (codeD rows), some (stD st), some (.ref S0.length), some (natD i), some (stD ct), x6] (S0 ++ [.dct (met.map kv)]) = .ok (.rt (outD r)) (S0 ++ [M.dct met'])
  | 0, _, _, _, _, _, _, _, h, _, _, _, _ => by cases h
  | k + 1, met, i, st, ct, r, 0, x6, h, hst, hct, hF, hl => absurd hF (by omega)
  | k + 1, met, i, st, ct, r, F + 1, x6, h, hst, hct, hF, hl => by
    have hc := cond_ok (g := g) (rows := rows) (S0 := S0) (met := met) (i := i) (st := st) (ct := ct) (x6 := x6)
    unfold mach at h
    by_cases hm : (i, st) ∈ met
    · rw [if_pos hm] at h
      cases h
      rw [decide_eq_true hm] at hc
      refine ⟨met.map kv, (while_stop hc).trans ?_⟩
      have hg : (S0 ++ [M.dct (met.map kv)])[S0.length]? = some (M.dct (met.map kv)) := get_last
      have e1 := len_dct hg
      have z2 : 2 ≤ sizeLine := by rw [sizeLine_eq]; decide
      clear hg hc hF hl hct hst G C
      generalize S0 ++ [M.dct (met.map kv)] = S at e1 ⊢
      unfold rrE
      walk_at "ev"
      rfl
    · rw [if_neg hm] at h
      rw [decide_eq_false hm] at hc
      cases hr : rows[i]? with
      | none => rw [hr] at h; cases h
      | some row =>
        rw [hr] at h
        have ho := C.ok row (List.mem_of_getElem? hr)
        cases hx : isExit row with
        | true =>
          cases row with
          | exit e =>
            cases h
            exact ⟨_, while_rt hc (loop_exit G hst hr ho hm (by omega))⟩
          | _ => cases hx
        | false =>
          have h' : mach g rows k (met ++ [(i, st)]) (nextR g st i row) (stR g st row) (ctR g ct row) = some r := by
            cases row with
            | exit e => cases hx
            | _ => exact h
          obtain ⟨met', e⟩ := run_loop (S0 := S0) G C k _ _ _ _ r F (some (rowD row)) h' (stR_in G hst row ho) (by rw [ctR_len]; exact hct) (by omega) (by rw [List.length_append, List.length_singleton]; omega)
          exact ⟨met', (while_nx hc (loop_step G hst hct hr ho hx hm (by omega))).trans e⟩
def runR (g : Gr) (rows : List Rw) (st : List Int) (k : Nat) : Option Out := mach g rows k [] 0 st (List.replicate g.kinds.length 0)
theorem run_rows_ok {g : Gr} {rows : List Rw} {S : Store} {st : List Int} {k : Nat} {r : Out} (G : GoodGr g) (C : GoodCode g rows) (hst : InSt g.cells st) (h : runR g rows st k = some r) (hk : k ≤ 1000000) : c_run_rows [grD g, codeD rows, stD st] S = .ok (outD r) S := by
  obtain ⟨met', e⟩ := run_loop (S0 := S) G C k [] 0 st _ r 1000000 none h hst (by simp) hk (by simpa using hk)
  refine fn_rtJ [M.dct met'] (outD_pure r) ?_
  unfold b_run_rows
  have a1 : evAsg evNewD (tgN 3) [some (grD g), some (codeD rows), some (stD st), none, none, none, none] S = .ok (.nx [some (grD g), some (codeD rows), some (stD st), some (.ref S.length), none, none, none]) (S ++ [.dct []]) := rfl
  have a3 : evAsg (evCall c_nought_of (evCons (evVar 0) evNil)) (tgN 5) [some (grD g), some (codeD rows), some (stD st), some (.ref S.length), some (natD 0), none, none] (S ++ [.dct []]) = .ok (.nx [some (grD g), some (codeD rows), some (stD st), some (.ref S.length), some (natD 0), some (stD (List.replicate g.kinds.length 0)), none]) (S ++ [.dct []]) := by
    refine asg_of (call_of (ds := [grD g]) rfl (nought_of_ok G)) rfl
  exact (seq_nx a1).trans ((seq_nx rfl).trans ((seq_nx a3).trans e))
end K84
end
section
set_option Elab.async false
set_option linter.all false
set_option maxRecDepth 100000
set_option maxHeartbeats 4000000
/-! plain: the law on states -/
namespace K84
open PySem PySem.Spec PyProof.Rows L2 DL
local macro_rules | `(tactic| walk_at "ev") => `(tactic| simp only [evSeq, evIfS, evRet, evRetN, evVar, evC, evBin, evUn, p2, evNil, evCons, evTup, evLst, evNew, evTest, evAndT, evOrT, evNotT, evAnd, evOr, evNot, evIte, evIteT, evTruth, evChain, evCall, evCallO, evIsi, evAsg, evDrop, evMk, mkI, mkN, evNext, tgN, tgTup, tgCons, tgNil, asB, dTruth, notRef, isiD, bLen, oLe, oLt, oGe, oGt, oSub, oInt, oAdd, oIsN, oNotN, DL.isNon,
  bind_ok, bind_bad, ofO_some, ofO_none, Option.map_some, Option.map_none, List.getElem?_cons_zero, List.getElem?_cons_succ, List.set_cons_zero, List.set_cons_succ, List.length_cons, List.length_nil, if_true, if_false, Bool.false_eq_true, Bool.not_true, Bool.not_false, decide_true, decide_false, and_self, reduceIte, *])

theorem stD_app (st : List Int) (v : Int) : stD (st ++ [v]) = .tup (st.map D.int ++ [.int v]) := by
  unfold stD
  rw [List.map_append]
  rfl
/-- one state drawn out by a value -/
theorem longer_comp {g : Gr} {S : Store} {x1 x3 : Option D} (c : Str × Nat) (st : List Int) (h8 : c.2 ≤ 8) (hl : st.length ≤ 100) :
    evMk mkI (evComp [5] (itOf itmR1 (evCons (evBin ixD (evVar 2) (evC (.int 1))) evNil)) (tgN 5) evYes (evBin oAdd (evVar 4) (evTup (evCons (evVar 5) evNil)))) [some (grD g), x1, some (cellD c), x3, some (stD st), none] S = .ok (.lst (((List.range c.2).map fun (v : Nat) => st ++ [(v : Int)]).map stD)) S := by
  refine lc_of ?_
  have hi : itOf itmR1 (evCons (evBin ixD (evVar 2) (evC (.int 1))) evNil) [some (grD g), x1, some (cellD c), x3, some (stD st), none] S = .ok ⟨rangeD 0 c.2, fun _ => True⟩ S := range_small h8 rfl
  rw [List.map_map]
  refine comp_all (fun (v : Nat) => D.int (v : Int)) _ hi (rangeD_map _) trivial (fun v hv => ⟨_, rfl, ?_⟩) (by rw [List.length_range, sizeLine_eq]; omega)
  have e1 := add_tup (st.map D.int) [.int (v : Int)] S (by simp only [List.length_map, List.length_cons, List.length_nil]; rw [sizeLine_eq]; omega)
  show ofO (oAdd (.tup (st.map D.int)) (.tup [.int (v : Int)]) S) = _
  rw [e1]
  show R.ok _ _ = R.ok (stD (st ++ [(v : Int)])) _
  rw [stD_app]
theorem ext_last {S : Store} {xs ys : List D} (h : xs.length + ys.length ≤ sizeLine) : mExtend (.ref S.length) [.lst ys] (S ++ [M.lst xs]) = some (.non, S ++ [M.lst (xs ++ ys)]) := by
  unfold mExtend
  simp only
  rw [get_last]
  simp only
  rw [if_pos h, set_last]
theorem moreSt_cons (st : List Int) (xs : List (List Int)) (n : Nat) : moreSt (st :: xs) n = ((List.range n).map fun (v : Nat) => st ++ [(v : Int)]) ++ moreSt xs n := rfl
theorem inner_loop {g : Gr} {S : Store} {chk : Store → Prop} {x1 : Option D} (c : Str × Nat) (h8 : c.2 ≤ 8) (hc : ∀ l, chk (S ++ [M.lst l])) : ∀ (rest acc : List (List Int)) (x4 : Option D), (∀ st ∈ rest, st.length ≤ 100) → acc.length + (moreSt rest c.2).length ≤ 100000 →
    ∃ x4', forGo chk (tgN 4) (evDrop (evMeth mExtend (evVar 3) (evCons (evMk mkI (evComp [5] (itOf itmR1 (evCons (evBin ixD (evVar 2) (evC (.int 1))) evNil)) (tgN 5) evYes (evBin oAdd (evVar 4) (evTup (evCons (evVar 5) evNil))))) evNil))) (rest.map stD) [some (grD g), x1, some (cellD c), some (.ref S.length), x4, none] (S ++ [M.lst (acc.map stD)]) =
      .ok (.nx [some (grD g), x1, some (cellD c), some (.ref S.length), x4', none]) (S ++ [M.lst ((acc ++ moreSt rest c.2).map stD)])
  | [], acc, x4, _, _ => ⟨x4, by
    rw [show acc ++ moreSt [] c.2 = acc from List.append_nil acc]
    exact forGo_nil (hc _)⟩
  | st :: rest, acc, x4, hs, hl => by
    rw [moreSt_cons, List.length_append] at hl
    obtain ⟨x4', ih⟩ := inner_loop (x1 := x1) c h8 hc rest (acc ++ (List.range c.2).map fun (v : Nat) => st ++ [(v : Int)]) (some (stD st)) (fun s h => hs s (List.mem_cons_of_mem _ h)) (by rw [List.length_append]; omega)
    refine ⟨x4', ?_⟩
    rw [moreSt_cons, ← List.append_assoc]
    rw [List.map_cons]
    refine (forGo_nx (S1 := S ++ [M.lst (acc.map stD)]) (S2 := S ++ [M.lst ((acc ++ (List.range c.2).map fun (v : Nat) => st ++ [(v : Int)]).map stD)]) (δ2 := [some (grD g), x1, some (cellD c), some (.ref S.length), some (stD st), none]) (hc _) rfl ?_).trans ih
    have e1 := longer_comp (g := g) (S := S ++ [M.lst (acc.map stD)]) (x1 := x1) (x3 := some (.ref S.length)) c st h8 (hs st (List.mem_cons_self ..))
    have e2 := ext_last (S := S) (xs := acc.map stD) (ys := ((List.range c.2).map fun (v : Nat) => st ++ [(v : Int)]).map stD) (by simp only [List.length_map] at hl ⊢; rw [sizeLine_eq]; omega)
    rw [← List.map_append] at e2
    have e3 : (lstOf (S ++ [M.lst (acc.map stD)]) (.ref S.length)).isSome = true := by
      unfold lstOf
      simp only
      rw [get_last]
      rfl
    clear ih hl hs hc h8
    unfold evMeth
    generalize evMk mkI (evComp [5] (itOf itmR1 (evCons (evBin ixD (evVar 2) (evC (.int 1))) evNil)) (tgN 5) evYes (evBin oAdd (evVar 4) (evTup (evCons (evVar 5) evNil)))) = X at e1 ⊢
    walk_at "ev"
/-- a list: frozen, or new behind S0 -/
def FdL (S0 S : Store) (d : D) (xs : List D) : Prop := d = .lst xs ∨ ∃ n, S0.length ≤ n ∧ d = .ref n ∧ S[n]? = some (M.lst xs)
theorem fd_it {S0 S : Store} {d : D} {xs : List D} {fe : DEnv → Store → R D} {δ : DEnv} {l : List D} (h : FdL S0 S d xs) (hf : fe δ (S ++ [M.lst l]) = .ok d (S ++ [M.lst l])) : ∃ chk, itSeq fe δ (S ++ [M.lst l]) = .ok ⟨xs, chk⟩ (S ++ [M.lst l]) ∧ ∀ l, chk (S ++ [M.lst l]) := by
  rcases h with rfl | ⟨n, hn, rfl, hs⟩
  · refine ⟨fun _ => True, ?_, fun _ => trivial⟩
    unfold itSeq
    rw [hf]
    rfl
  · have hlt : n < S.length := (List.getElem?_eq_some_iff.mp hs).1
    refine ⟨fun S' => S'[n]? = some (M.lst xs), ?_, fun l => by
      show (S ++ [M.lst l])[n]? = _
      rw [List.getElem?_append_left hlt]
      exact hs⟩
    unfold itSeq
    rw [hf, bind_ok]
    unfold itmOf
    simp only
    rw [List.getElem?_append_left hlt, hs]
    rfl
theorem cls_st {k : Nat} (xs : List (List Int)) : clDs k (xs.map stD) = true := cls_pure _ (pures_st xs)
theorem outer_loop {g : Gr} {S0 : Store} : ∀ (cs : List (Str × Nat)) (found : List (List Int)) (k : Nat) (J : Store) (d : D) (x2 x3 x4 : Option D), (∀ p ∈ cs, p.2 ≤ 8) → k + cs.length ≤ 4 → found.length ≤ 8 ^ k → (∀ st ∈ found, st.length = k) → FdL S0 (S0 ++ J) d (found.map stD) →
    ∃ J' d' x2' x3' x4', forGo (fun _ => True) (tgN 2) (evSeq (evAsg (evNew evNil) (tgN 3)) (evSeq (evFor (itSeq (evVar 1)) (tgN 4) (evDrop (evMeth mExtend (evVar 3) (evCons (evMk mkI (evComp [5] (itOf itmR1 (evCons (evBin ixD (evVar 2) (evC (.int 1))) evNil)) (tgN 5) evYes (evBin oAdd (evVar 4) (evTup (evCons (evVar 5) evNil))))) evNil)))) (evAsg (evVar 3) (tgN 1)))) (cs.map cellD)
      [some (grD g), some d, x2, x3, x4, none] (S0 ++ J) = .ok (.nx [some (grD g), some d', x2', x3', x4', none]) (S0 ++ J') ∧ FdL S0 (S0 ++ J') d' ((cs.foldl (fun f c => moreSt f c.2) found).map stD)
  | [], found, k, J, d, x2, x3, x4, _, _, _, _, hd => ⟨J, d, x2, x3, x4, forGo_nil trivial, hd⟩
  | c :: cs, found, k, J, d, x2, x3, x4, h8, hk, hl, hs, hd => by
    rw [List.length_cons] at hk
    have c8 := h8 c (List.mem_cons_self ..)
    have hk8 : 8 ^ k ≤ 8 ^ 3 := Nat.pow_le_pow_right (by decide) (by omega)
    have hml : (moreSt found c.2).length ≤ 8 ^ (k + 1) := by
      rw [moreSt_len, Nat.pow_succ]
      exact Nat.mul_le_mul hl c8
    have hk9 : 8 ^ (k + 1) ≤ 8 ^ 4 := Nat.pow_le_pow_right (by decide) (by omega)
    obtain ⟨chk, hi, hc⟩ := fd_it (l := []) (fe := evVar 1) (δ := [some (grD g), some d, some (cellD c), some (.ref (S0 ++ J).length), x4, none]) hd rfl
    obtain ⟨x4', hin⟩ := inner_loop (g := g) (S := S0 ++ J) (chk := chk) (x1 := some d) c c8 hc found [] x4 (fun st h => by have := hs st h; omega) (by simp only [List.length_nil]; omega)
    rw [List.nil_append] at hin
    have hd' : FdL S0 (S0 ++ (J ++ [M.lst ((moreSt found c.2).map stD)])) (.ref (S0 ++ J).length) ((moreSt found c.2).map stD) := by
      refine .inr ⟨_, by simp, rfl, ?_⟩
      rw [← List.append_assoc]
      exact get_last
    obtain ⟨J', d', a, b, e, ih, hf⟩ := outer_loop (g := g) (S0 := S0) cs (moreSt found c.2) (k + 1) (J ++ [M.lst ((moreSt found c.2).map stD)]) (.ref (S0 ++ J).length) (some (cellD c)) (some (.ref (S0 ++ J).length)) x4' (fun p hp => h8 p (List.mem_cons_of_mem _ hp)) (by omega) hml (moreSt_st hs) hd'
    refine ⟨J', d', a, b, e, ?_, hf⟩
    rw [List.map_cons]
    refine (forGo_nx (S1 := S0 ++ J) trivial rfl ?_).trans ih
    have a1 : evAsg (evNew evNil) (tgN 3) [some (grD g), some d, some (cellD c), x3, x4, none] (S0 ++ J) = .ok (.nx [some (grD g), some d, some (cellD c), some (.ref (S0 ++ J).length), x4, none]) ((S0 ++ J) ++ [M.lst []]) := by
      unfold evAsg evNew evNil
      rw [bind_ok]
      rw [if_pos (by rw [sizeLine_eq]; decide)]
      rfl
    refine (seq_nx a1).trans ?_
    have a2 := (for_eq (body := evDrop (evMeth mExtend (evVar 3) (evCons (evMk mkI (evComp [5] (itOf itmR1 (evCons (evBin ixD (evVar 2) (evC (.int 1))) evNil)) (tgN 5) evYes (evBin oAdd (evVar 4) (evTup (evCons (evVar 5) evNil))))) evNil))) (tg := tgN 4) hi).trans hin
    refine (seq_nx a2).trans ?_
    rw [List.append_assoc]
    rfl
theorem law_states_ok {g : Gr} {S : Store} (G : GoodGr g) : c__law_states [grD g] S = .ok (.lst ((allSt g.cells).map stD)) S := by
  obtain ⟨J, d, a, b, e, hm, hf⟩ := outer_loop (g := g) (S0 := S) g.cells [[]] 0 [] (.lst [stD []]) none none none (fun p hp => (G.c2 p hp).2.2) (by have := G.c1; omega) (by simp) (by simp) (.inl rfl)
  have hb : b__law_states (startD 6 [grD g]) S = .ok (.rt d) (S ++ J) := by
    unfold b__law_states
    have a1 : evAsg (evLst (evCons (evTup evNil) evNil)) (tgN 1) (startD 6 [grD g]) S = .ok (.nx [some (grD g), some (.lst [stD []]), none, none, none, none]) S := by
      have z0 : 0 ≤ sizeLine := Nat.zero_le _
      have z1 : 1 ≤ sizeLine := by rw [sizeLine_eq]; decide
      show evAsg (evLst (evCons (evTup evNil) evNil)) (tgN 1) [some (grD g), none, none, none, none, none] S = _
      clear hm hf G
      walk_at "ev"
      rfl
    refine (seq_nx a1).trans ?_
    have hi : itSeq (evBin ixD (evVar 0) (evC (.int 0))) [some (grD g), some (.lst [stD []]), none, none, none, none] S = .ok ⟨g.cells.map cellD, fun _ => True⟩ S := rfl
    rw [List.append_nil] at hm
    exact (seq_nx ((for_eq hi).trans hm)).trans rfl
  unfold c__law_states fnR
  rw [if_pos (show [grD g].length = 1 from rfl), hb, bind_ok]
  show gcV S d (S ++ J) .fz = _
  have hg : gcOk S (.lst ((allSt g.cells).map stD)) (S ++ J) := gcOk_app (by show clDs S.length ((allSt g.cells).map stD) = true; exact cls_st _)
  rcases hf with rfl | ⟨n, hn, rfl, hs⟩
  · unfold gcV
    simp only
    refine (if_pos hg).trans ?_
    rw [List.take_left]
    rfl
  · unfold gcV
    simp only
    rw [hs]
    simp only
    refine (if_pos ⟨hn, hg⟩).trans ?_
    rw [List.take_left]
    rfl
end K84
end
section
set_option Elab.async false
set_option linter.all false
set_option maxRecDepth 100000
set_option maxHeartbeats 4000000
/-! plain: how long a run may be -/
namespace K84
open PySem PySem.Spec PyProof.Rows L2 DL
local macro_rules | `(tactic| walk_at "ev") => `(tactic| simp only [evSeq, evIfS, evRet, evRetN, evVar, evC, evBin, evUn, p2, evNil, evCons, evTup, evLst, evNew, evTest, evAndT, evOrT, evNotT, evAnd, evOr, evNot, evIte, evIteT, evTruth, evChain, evCall, evCallO, evIsi, evAsg, evDrop, evMk, mkI, mkN, evNext, tgN, tgTup, tgCons, tgNil, asB, dTruth, notRef, isiD, bLen, oLe, oLt, oGe, oGt, oSub, oInt, oAdd, oIsN, oNotN, DL.isNon,
  bind_ok, bind_bad, ofO_some, ofO_none, Option.map_some, Option.map_none, List.getElem?_cons_zero, List.getElem?_cons_succ, List.set_cons_zero, List.set_cons_succ, List.length_cons, List.length_nil, if_true, if_false, Bool.false_eq_true, Bool.not_true, Bool.not_false, decide_true, decide_false, and_self, reduceIte, *])

theorem mem_moreSt {found : List (List Int)} {n : Nat} {st : List Int} : st ∈ moreSt found n ↔ ∃ p ∈ found, ∃ v : Int, 0 ≤ v ∧ v < (n : Nat) ∧ st = p ++ [v] := by
  unfold moreSt
  rw [List.mem_flatMap]
  constructor
  · rintro ⟨p, hp, h⟩
    obtain ⟨v, hv, rfl⟩ := List.mem_map.mp h
    have := List.mem_range.mp hv
    exact ⟨p, hp, v, by omega, by omega, rfl⟩
  · rintro ⟨p, hp, v, h0, h1, rfl⟩
    refine ⟨p, hp, List.mem_map.mpr ⟨v.toNat, List.mem_range.mpr (by omega), ?_⟩⟩
    rw [Int.toNat_of_nonneg h0]
theorem mem_from : ∀ (cs : List (Str × Nat)) (found : List (List Int)) (st : List Int), st ∈ cs.foldl (fun f c => moreSt f c.2) found ↔ ∃ p ∈ found, ∃ vs, InSt cs vs ∧ st = p ++ vs
  | [], found, st => by
    constructor
    · intro h
      exact ⟨st, h, [], trivial, by simp⟩
    · rintro ⟨p, hp, vs, hv, rfl⟩
      cases vs with
      | nil => rw [List.append_nil]; exact hp
      | cons v vs => exact hv.elim
  | c :: cs, found, st => by
    rw [List.foldl_cons, mem_from cs]
    constructor
    · rintro ⟨p, hp, vs, hv, rfl⟩
      obtain ⟨q, hq, v, h0, h1, rfl⟩ := mem_moreSt.mp hp
      exact ⟨q, hq, v :: vs, ⟨⟨h0, h1⟩, hv⟩, by simp⟩
    · rintro ⟨p, hp, vs, hv, rfl⟩
      cases vs with
      | nil => exact hv.elim
      | cons v vs => exact ⟨p ++ [v], mem_moreSt.mpr ⟨p, hp, v, hv.1.1, hv.1.2, rfl⟩, vs, hv.2, by simp⟩
theorem mem_allSt {cs : List (Str × Nat)} {st : List Int} : st ∈ allSt cs ↔ InSt cs st := by
  have := mem_from cs [[]] st
  refine Iff.trans this ?_
  constructor
  · rintro ⟨p, hp, vs, hv, rfl⟩
    rw [List.mem_singleton.mp hp, List.nil_append]
    exact hv
  · intro h
    exact ⟨[], List.mem_singleton.mpr rfl, st, h, rfl⟩
theorem nodup_le {α : Type} [BEq α] [LawfulBEq α] : ∀ (l m : List α), l.Nodup → (∀ x ∈ l, x ∈ m) → l.length ≤ m.length
  | [], _, _, _ => Nat.zero_le _
  | x :: l, m, hn, hs => by
    rw [List.nodup_cons] at hn
    have hx := hs x (List.mem_cons_self ..)
    have := nodup_le l (m.erase x) hn.2 fun y hy => by
      have hne : y ≠ x := fun e => hn.1 (e ▸ hy)
      exact (List.mem_erase_of_ne hne).mpr (hs y (List.mem_cons_of_mem _ hy))
    rw [List.length_erase_of_mem hx] at this
    have hp := List.length_pos_of_mem hx
    rw [List.length_cons]
    omega
def spaceR (g : Gr) (rows : List Rw) : List Kx := (List.range rows.length).flatMap fun i => (allSt g.cells).map fun st => (i, st)
theorem flat_len {α β : Type} (f : α → List β) (n : Nat) : ∀ xs : List α, (∀ x ∈ xs, (f x).length = n) → (xs.flatMap f).length = xs.length * n
  | [], _ => by simp
  | x :: xs, h => by
    rw [List.flatMap_cons, List.length_append, h x (List.mem_cons_self ..), flat_len f n xs fun y hy => h y (List.mem_cons_of_mem _ hy), List.length_cons, Nat.succ_mul, Nat.add_comm]
def manyR (g : Gr) (rows : List Rw) : Nat := rows.length * (allSt g.cells).length
theorem space_len (g : Gr) (rows : List Rw) : (spaceR g rows).length = manyR g rows := by
  unfold spaceR manyR
  rw [flat_len _ (allSt g.cells).length _ fun _ _ => List.length_map .., List.length_range]
theorem mem_space {g : Gr} {rows : List Rw} {i : Nat} {st : List Int} (hi : i < rows.length) (hs : InSt g.cells st) : (i, st) ∈ spaceR g rows :=
  List.mem_flatMap.mpr ⟨i, List.mem_range.mpr hi, List.mem_map.mpr ⟨st, mem_allSt.mpr hs, rfl⟩⟩
def OutOk (g : Gr) (n : Nat) (r : Out) : Prop := r.2 ≤ n ∧ ∀ o, r.1 = some o → o.1.length = g.kinds.length ∧ ∀ x ∈ o.1, 0 ≤ x ∧ x ≤ 99 * (n : Int)
theorem mach_some {g : Gr} {rows : List Rw} (C : GoodCode g rows) (G : GoodGr g) : ∀ (k : Nat) (met : List Kx) (i : Nat) (st ct : List Int), met.Nodup → (∀ x ∈ met, x ∈ spaceR g rows) → i < rows.length → InSt g.cells st → ct.length = g.kinds.length → (∀ x ∈ ct, 0 ≤ x ∧ x ≤ 99 * (met.length : Int)) → k + met.length = manyR g rows + 1 →
    ∃ r, mach g rows k met i st ct = some r ∧ OutOk g (manyR g rows + 1) r
  | 0, met, i, st, ct, hn, hs, _, _, _, _, hk => by
    have := nodup_le met (spaceR g rows) hn hs
    rw [space_len] at this
    omega
  | k + 1, met, i, st, ct, hn, hs, hi, hst, hct, hx, hk => by
    unfold mach
    by_cases hm : (i, st) ∈ met
    · rw [if_pos hm]
      exact ⟨_, rfl, by show met.length ≤ _; omega, fun o h => by cases h⟩
    · rw [if_neg hm, List.getElem?_eq_getElem hi]
      have hr : rows[i]? = some rows[i] := List.getElem?_eq_getElem hi
      have ho := C.ok rows[i] (List.getElem_mem hi)
      generalize rows[i] = row at hr ho
      have hct' : ∀ x ∈ ctR g ct row, 0 ≤ x ∧ x ≤ 99 * ((met ++ [(i, st)]).length : Int) := by
        intro x h
        rw [List.length_append, List.length_singleton]
        cases row with
        | deed kk n =>
          rcases List.mem_or_eq_of_mem_set h with h | h
          · have := hx x h
            omega
          · have h1 := ho.2
            have : 0 ≤ ct.getD (plc (kns g) kk) 0 ∧ ct.getD (plc (kns g) kk) 0 ≤ 99 * (met.length : Int) := by
              rw [List.getD_eq_getElem?_getD]
              cases hc : ct[plc (kns g) kk]? with
              | none => simp; omega
              | some y => exact hx y (List.mem_of_getElem? hc)
            omega
        | _ =>
          have := hx x h
          omega
      cases hx' : isExit row with
      | true =>
        cases row with
        | exit e =>
          refine ⟨_, rfl, ?_, fun o h => ?_⟩
          · show met.length + 1 ≤ _
            omega
          · cases h
            refine ⟨hct, fun x h => ?_⟩
            have := hx x h
            omega
        | _ => cases hx'
      | false =>
        have ih := mach_some C G k (met ++ [(i, st)]) (nextR g st i row) (stR g st row) (ctR g ct row) (by
            rw [List.nodup_append]
            refine ⟨hn, by simp, fun a ha b hb => ?_⟩
            rw [List.mem_singleton.mp hb]
            exact fun e => hm (e ▸ ha)) (fun x h => by
            rcases List.mem_append.mp h with h | h
            · exact hs x h
            · rw [List.mem_singleton.mp h]
              exact mem_space hi hst) (nextR_lt C hst hr fun e he => by rw [he] at hx'; cases hx') (stR_in G hst row ho) (by rw [ctR_len]; exact hct) hct' (by rw [List.length_append, List.length_singleton]; omega)
        cases row with
        | exit e => cases hx'
        | _ => exact ih
theorem runR_some {g : Gr} {rows : List Rw} {st : List Int} (G : GoodGr g) (C : GoodCode g rows) (hst : InSt g.cells st) : ∃ r, runR g rows st (manyR g rows + 1) = some r ∧ OutOk g (manyR g rows + 1) r := by
  refine mach_some C G _ [] 0 st _ List.nodup_nil (fun x h => by cases h) (by have := C.l1; omega) hst (by simp) (fun x h => ?_) rfl
  rw [(List.mem_replicate.mp h).2]
  simp
end K84
end
section
set_option Elab.async false
set_option linter.all false
set_option maxRecDepth 100000
set_option maxHeartbeats 4000000
/-! plain: the law own run -/
namespace K84
open PySem PySem.Spec PyProof.Rows L2 DL
local macro_rules | `(tactic| walk_at "ev") => `(tactic| simp only [evSeq, evIfS, evRet, evRetN, evVar, evC, evBin, evUn, p2, evNil, evCons, evTup, evLst, evNew, evTest, evAndT, evOrT, evNotT, evAnd, evOr, evNot, evIte, evIteT, evTruth, evChain, evCall, evCallO, evIsi, evAsg, evDrop, evMk, mkI, mkN, evNext, tgN, tgTup, tgCons, tgNil, asB, dTruth, notRef, isiD, bLen, oLe, oLt, oGe, oGt, oSub, oInt, oAdd, oIsN, oNotN, DL.isNon,
  bind_ok, bind_bad, ofO_some, ofO_none, Option.map_some, Option.map_none, List.getElem?_cons_zero, List.getElem?_cons_succ, List.set_cons_zero, List.set_cons_succ, List.length_cons, List.length_nil, if_true, if_false, Bool.false_eq_true, Bool.not_true, Bool.not_false, decide_true, decide_false, and_self, reduceIte, *])

noncomputable def lrB : DEnv → Store → R Fl := (evSeq (evIfS (evTest (evBin (inDc false) (evTup (evCons (evVar 3) (evCons (evVar 2) evNil))) (evVar 5))) (evRet (evTup (evCons (evC .non) (evCons (evCallO bLenD (evCons (evVar 5) evNil)) evNil)))) evNext)
    (evSeq (evAsg (evC (.bl true)) (tgSub setDc (evVar 5) (evTup (evCons (evVar 3) (evCons (evVar 2) evNil)))))
    (evSeq (evAsg (evBin ixD (evVar 1) (evVar 3)) (tgN 9))
    (evSeq (evIfS (evTest (evBin oEq (evBin ixD (evVar 9) (evC (.int 0))) (evC (.str "exit")))) (evRet (evTup (evCons (evTup (evCons (evCallO bTuple (evCons (evVar 4) evNil)) (evCons (evMeth mIndex (evVar 6) (evCons (evVar 2) evNil)) (evCons (evMethT tIndex (evBin ixD (evVar 0) (evC (.int 2))) (evCons (evBin ixD (evVar 9) (evC (.int 1))) evNil)) evNil)))) (evCons (evCallO bLenD (evCons (evVar 5) evNil)) evNil)))) evNext)
    (evSeq (evAsg (evCall c__law_next (evCons (evVar 0) (evCons (evVar 9) (evCons (evVar 3) (evCons (evVar 2) evNil))))) (tgN 3))
    (evSeq (evIfS (evTest (evBin oEq (evBin ixD (evVar 9) (evC (.int 0))) (evC (.str "deed")))) (evSeq (evAsg (evCall c__law_place (evCons (evBin ixD (evVar 0) (evC (.int 1))) (evCons (evBin ixD (evVar 9) (evC (.int 1))) evNil))) (tgN 7))
    (evAsg (evBin oAdd (evBin ixD (evVar 4) (evVar 7)) (evBin ixD (evVar 9) (evC (.int 2)))) (tgSub setL (evVar 4) (evVar 7)))) evNext)
    (evIfS (evTest (evBin oEq (evBin ixD (evVar 9) (evC (.int 0))) (evC (.str "set")))) (evSeq (evAsg (evCall c__law_place (evCons (evBin ixD (evVar 0) (evC (.int 0))) (evCons (evBin ixD (evVar 9) (evC (.int 1))) evNil))) (tgN 10))
    (evSeq (evAsg (evBin oMod (evCallO bInt (evCons (evCall (c__law_number 8) (evCons (evVar 0) (evCons (evVar 2) (evCons (evBin ixD (evVar 9) (evC (.int 2))) evNil)))) evNil)) (evBin ixD (evBin ixD (evBin ixD (evVar 0) (evC (.int 0))) (evVar 10)) (evC (.int 1)))) (tgN 11))
    (evAsg (evBin oAdd (evBin oAdd (evSl (evVar 2) evNoPart (evPart (evVar 10))) (evTup (evCons (evVar 11) evNil))) (evSl (evVar 2) (evPart (evBin oAdd (evVar 10) (evC (.int 1)))) evNoPart)) (tgN 2)))) evNext)))))))
theorem eqvs_ints : ∀ a b : List Int, PyData.eqvAll (toPys (a.map D.int)) (toPys (b.map D.int)) = (a == b)
  | [], [] => rfl
  | [], _ :: _ => rfl
  | _ :: _, [] => rfl
  | x :: a, y :: b => by
    show ((x == y) && PyData.eqvAll (toPys (a.map D.int)) (toPys (b.map D.int))) = _
    rw [eqvs_ints a b]
    rfl
theorem eqD_st (a b : List Int) : eqD (stD a) (stD b) = (a == b) := eqvs_ints a b
structure LawGr (g : Gr) : Prop where
  G : GoodGr g
  idx : ∀ st ∈ allSt g.cells, (allSt g.cells).findIdx? (fun z => z == st) = some (numSt g.cells st 0).toNat ∧ 0 ≤ numSt g.cells st 0
  pure : okN 3 (grD g) = true
theorem okN_st (st : List Int) (n : Nat) : okN (n + 1) (stD st) = true := by
  show (st.map D.int).all (okN n) = true
  rw [List.all_map]
  refine List.all_eq_true.mpr fun x _ => ?_
  cases n <;> rfl
theorem okD_states (xs : List (List Int)) : okD (.lst (xs.map stD)) = true := okD_of (n := 2) (by
  show (xs.map stD).all (okN 1) = true
  rw [List.all_map]
  exact List.all_eq_true.mpr fun x _ => okN_st x 0) (by decide)
theorem index_states {g : Gr} {st : List Int} {S : Store} (L : LawGr g) (hst : InSt g.cells st) : mIndex (.lst ((allSt g.cells).map stD)) [stD st] S = some (.int (numSt g.cells st 0), S) := by
  obtain ⟨h1, h2⟩ := L.idx st (mem_allSt.mpr hst)
  show ((some ((allSt g.cells).map stD)).bind fun xs => if okD (.lst xs) = true ∧ okD (stD st) = true then (findD (stD st) xs).map fun j => (D.int (j : Nat), S) else none) = _
  rw [Option.bind_some, if_pos ⟨okD_states _, okD_of (okN_st st 0) (by decide)⟩]
  have : findD (stD st) ((allSt g.cells).map stD) = some (numSt g.cells st 0).toNat := by
    unfold findD
    rw [List.findIdx?_map, ← h1]
    congr 1
    funext z
    exact eqD_st z st
  rw [this, Option.map_some, Int.toNat_of_nonneg h2]
theorem get0 {S : Store} {a b : M} : (S ++ [a, b])[S.length]? = some a := by simp
theorem get1 {S : Store} {a b : M} : (S ++ [a, b])[S.length + 1]? = some b := by simp
theorem set0 {S : Store} {a b c : M} : (S ++ [a, b]).set S.length c = S ++ [c, b] := by simp
theorem set1 {S : Store} {a b c : M} : (S ++ [a, b]).set (S.length + 1) c = S ++ [a, c] := by simp
def ctM (ct : List Int) : M := .lst (ct.map D.int)
def metM (met : List Kx) : M := .dct (met.map kv)
theorem law_exit {g : Gr} {rows : List Rw} {S0 : Store} {met : List Kx} {i : Nat} {st ct : List Int} {e : Str} {x7 x8 x9 x10 x11 : Option D} (L : LawGr g) (hst : InSt g.cells st) (hr : rows[i]? = some (.exit e)) (he : e ∈ g.exits) (hm : (i, st) ∉ met) (hl : met.length ≤ 1000000) :
    lrB [some (grD g), some (codeD rows), some (stD st), some (natD i), some (.ref S0.length), some (.ref (S0.length + 1)), some (.lst ((allSt g.cells).map stD)), x7, x8, x9, x10, x11] (S0 ++ [ctM ct, metM met]) = .ok (.rt (outD (some (ct, numSt g.cells st 0, plc g.exits e), met.length + 1))) (S0 ++ [ctM ct, metM (met ++ [(i, st)])]) := by
  have hg : (S0 ++ [ctM ct, metM met])[S0.length + 1]? = some (M.dct (met.map kv)) := get1
  have e0 := in_dct (neg := false) (i := i) (st := st) hg
  rw [Bool.false_xor, decide_eq_false hm] at e0
  have e1 := set_dct hg hm hl
  rw [set1] at e1
  have e1 : setDc (.ref (S0.length + 1)) (keyT i st) (.bl true) (S0 ++ [ctM ct, metM met]) = some (S0 ++ [ctM ct, metM (met ++ [(i, st)])]) := e1
  have e2 : bLenD [.ref (S0.length + 1)] (S0 ++ [ctM ct, metM (met ++ [(i, st)])]) = some (natD (met.length + 1), S0 ++ [ctM ct, metM (met ++ [(i, st)])]) := by
    have := len_dct (S := S0 ++ [ctM ct, metM (met ++ [(i, st)])]) (n := S0.length + 1) (met := met ++ [(i, st)]) get1
    rw [List.length_append, List.length_singleton] at this
    exact this
  have e11 : bTuple [.ref S0.length] (S0 ++ [ctM ct, metM (met ++ [(i, st)])]) = some (stD ct, S0 ++ [ctM ct, metM (met ++ [(i, st)])]) := by
    have : (lstOf (S0 ++ [ctM ct, metM (met ++ [(i, st)])]) (.ref S0.length)) = some (ct.map D.int) := by
      unfold lstOf
      simp only
      rw [get0]
      rfl
    show (lstOf (S0 ++ [ctM ct, metM (met ++ [(i, st)])]) (.ref S0.length)).map (fun xs => (D.tup xs, S0 ++ [ctM ct, metM (met ++ [(i, st)])])) = _
    rw [this]
    rfl
  generalize S0 ++ [ctM ct, metM (met ++ [(i, st)])] = S at e1 e2 e11 ⊢
  generalize S0 ++ [ctM ct, metM met] = S1 at e0 e1 ⊢
  have e3 := row_get (S := S) hr
  have e4 := row_at0 (.exit e) (S := S)
  have e5 : oEq (.str (rowW (.exit e))) (.str "exit") S = some (.bl true, S) := exit_w (.exit e)
  have e6 := index_states (S := S) L hst
  have e7 : ixD (grD g) (.int 2) S = some (.tup (g.exits.map D.str), S) := atI2
  have e8 : ixD (rowD (.exit e)) (.int 1) S = some (.str e, S) := atI1
  have e9 := index_tup (S := S) he
  have e10 : isTupD (.tup (g.exits.map D.str)) = true := rfl
  have e12 : (lstOf S (.lst ((allSt g.cells).map stD))).isSome = true := rfl
  have z2 : 2 ≤ sizeLine := by rw [sizeLine_eq]; decide
  have z3 : 3 ≤ sizeLine := by rw [sizeLine_eq]; decide
  clear hr he hm hl hg L hst
  unfold lrB keyT natD at *
  unfold codeD at e3 ⊢
  unfold tgSub evMethT evMeth
  walk_at "ev"
  rfl
theorem law_stop {g : Gr} {rows : List Rw} {S0 : Store} {met : List Kx} {i : Nat} {st ct : List Int} {x6 x7 x8 x9 x10 x11 : Option D} (hm : (i, st) ∈ met) :
    lrB [some (grD g), some (codeD rows), some (stD st), some (natD i), some (.ref S0.length), some (.ref (S0.length + 1)), x6, x7, x8, x9, x10, x11] (S0 ++ [ctM ct, metM met]) = .ok (.rt (outD (none, met.length))) (S0 ++ [ctM ct, metM met]) := by
  have hg : (S0 ++ [ctM ct, metM met])[S0.length + 1]? = some (M.dct (met.map kv)) := get1
  have e0 := in_dct (neg := false) (i := i) (st := st) hg
  rw [Bool.false_xor, decide_eq_true hm] at e0
  have e2 := len_dct hg
  generalize S0 ++ [ctM ct, metM met] = S1 at e0 e2 ⊢
  have z2 : 2 ≤ sizeLine := by rw [sizeLine_eq]; decide
  clear hm hg
  unfold lrB keyT natD at *
  walk_at "ev"
  rfl
theorem law_step {g : Gr} {rows : List Rw} {S0 : Store} {met : List Kx} {i : Nat} {st ct : List Int} {r : Rw} {x6 x7 x8 x9 x10 x11 : Option D} {many : Nat} (G : GoodGr g) (hst : InSt g.cells st) (hct : ct.length = g.kinds.length) (hr : rows[i]? = some r) (ho : rowOk g many r) (he : isExit r = false) (hm : (i, st) ∉ met) (hl : met.length ≤ 1000000) :
    ∃ x7' x9' x10' x11', lrB [some (grD g), some (codeD rows), some (stD st), some (natD i), some (.ref S0.length), some (.ref (S0.length + 1)), x6, x7, x8, x9, x10, x11] (S0 ++ [ctM ct, metM met]) = .ok (.nx [some (grD g), some (codeD rows), some (stD (stR g st r)), some (natD (nextR g st i r)), some (.ref S0.length), some (.ref (S0.length + 1)), x6, x7', x8, x9', x10', x11']) (S0 ++ [ctM (ctR g ct r), metM (met ++ [(i, st)])]) := by
  have hg : (S0 ++ [ctM ct, metM met])[S0.length + 1]? = some (M.dct (met.map kv)) := get1
  have e0 := in_dct (neg := false) (i := i) (st := st) hg
  rw [Bool.false_xor, decide_eq_false hm] at e0
  have e1a := set_dct hg hm hl
  rw [set1] at e1a
  have e1 : setDc (.ref (S0.length + 1)) (keyT i st) (.bl true) (S0 ++ [ctM ct, metM met]) = some (S0 ++ [ctM ct, metM (met ++ [(i, st)])]) := e1a
  clear e1a
  generalize hS : S0 ++ [ctM ct, metM (met ++ [(i, st)])] = S at e1
  have e3 := row_get (S := S) hr
  have e4 := row_at0 r (S := S)
  have e5 := exit_w r (S := S)
  rw [he] at e5
  have e6 := law_next_ok (S := S) G hst r i ho
  have z2 : 2 ≤ sizeLine := by rw [sizeLine_eq]; decide
  cases r with
  | exit e => cases he
  | deed k n =>
    have d1 : oEq (.str (rowW (.deed k n))) (.str "deed") S = some (.bl true, S) := wEq (a := "deed") (by decide +kernel)
    have d2 : ixD (grD g) (.int 1) S = some (.tup (g.kinds.map kindD), S) := atI1
    have d3 : ixD (rowD (.deed k n)) (.int 1) S = some (.str k, S) := atI1
    have d4 : ixD (rowD (.deed k n)) (.int 2) S = some (.int n, S) := atI2
    have d5 := law_place_kinds (S := S) G ho.1
    have hlt : plc (kns g) k < ct.length := by
      have h1 : plc (kns g) k < (kns g).length := plc_lt ho.1
      rw [List.length_map, ← hct] at h1
      exact h1
    have d6 : ixD (.ref S0.length) (.int (plc (kns g) k : Nat)) S = some (.int (ct.getD (plc (kns g) k) 0), S) := by
      have := ix_st (S := S) hlt
      show (match S[S0.length]? with
        | some (.lst xs) => (L2.atI xs (plc (kns g) k : Nat)).map (·, S)
        | _ => none) = _
      rw [← hS, get0]
      rw [hS]
      exact this
    have d7 : setL (.ref S0.length) (.int (plc (kns g) k : Nat)) (.int (ct.getD (plc (kns g) k) 0 + n)) S = some (S0 ++ [ctM (ctR g ct (.deed k n)), metM (met ++ [(i, st)])]) := by
      show (match S[S0.length]? with
        | some (.lst ds) => (L2.ixN ds.length (plc (kns g) k : Nat)).map fun j => S.set S0.length (.lst (ds.set j (.int (ct.getD (plc (kns g) k) 0 + n))))
        | _ => none) = _
      have hx : L2.ixN (ct.map D.int).length (plc (kns g) k : Nat) = some (plc (kns g) k) := by
        unfold L2.ixN
        rw [if_pos (by omega), if_pos (by rw [List.length_map]; omega)]
        rfl
      rw [← hS, get0]
      show (L2.ixN (ct.map D.int).length (plc (kns g) k : Nat)).map _ = _
      rw [hx, Option.map_some, set0]
      unfold ctM ctR
      simp only
      rw [List.map_set]
    have d8 : oEq (.str (rowW (.deed k n))) (.str "set") (S0 ++ [ctM (ctR g ct (.deed k n)), metM (met ++ [(i, st)])]) = some (.bl false, S0 ++ [ctM (ctR g ct (.deed k n)), metM (met ++ [(i, st)])]) := wEq (a := "deed") (by decide +kernel)
    have d9 := row_at0 (.deed k n) (S := S0 ++ [ctM (ctR g ct (.deed k n)), metM (met ++ [(i, st)])])
    generalize S0 ++ [ctM (ctR g ct (.deed k n)), metM (met ++ [(i, st)])] = S2 at d7 d8 d9 ⊢
    generalize S0 ++ [ctM ct, metM met] = S1 at e0 e1 ⊢
    refine ⟨some (.int (plc (kns g) k : Nat)), some (rowD (.deed k n)), x10, x11, ?_⟩
    simp only [stR]
    clear hr he hm hl hg hS G hst hct ho hlt
    unfold lrB keyT natD at *
    unfold codeD at e3 ⊢
    unfold tgSub
    walk_at "ev"
  | set c v =>
    have d1 : oEq (.str (rowW (.set c v))) (.str "deed") S = some (.bl false, S) := wEq (a := "set") (by decide +kernel)
    have d1' : oEq (.str (rowW (.set c v))) (.str "set") S = some (.bl true, S) := wEq (a := "set") (by decide +kernel)
    have d2 : ixD (grD g) (.int 0) S = some (.tup (g.cells.map cellD), S) := atI0
    have d3 : ixD (rowD (.set c v)) (.int 1) S = some (.str c, S) := atI1
    have d4 : ixD (rowD (.set c v)) (.int 2) S = some (vlD v, S) := atI2
    have d5 := law_place_cells (S := S) G ho.1
    obtain ⟨p, d6, d7⟩ := size_at (g := g) (S := S) ho.1
    have d8 := law_number_ok (S := S) G hst v 8 ho.2.1 (by have := ho.2.2; omega) (by have := ho.2.2; omega)
    have hlt : plc (cns g) c < st.length := by
      have h1 : plc (cns g) c < (cns g).length := plc_lt ho.1
      rw [List.length_map, ← hst.len] at h1
      exact h1
    have d9 : oMod (.int (valV g st v)) (natD (szOf g c)) S = some (.int (valV g st v % (szOf g c : Nat)), S) := by
      show (if decide ((0 : Int) < (szOf g c : Nat)) = true then some (D.int (valV g st v % (szOf g c : Nat)), S) else none) = _
      exact if_pos (decide_eq_true (by have := sz_pos G ho.1; omega))
    have d10 := set_parts (S := S) (st := st) (i := plc (cns g) c) (v := valV g st v % (szOf g c : Nat)) (fr := evVar 2) (fa := evVar 10) (fv := evVar 11) (δ := [some (grD g), some (codeD rows), some (stD st), some (natD (nextR g st i (.set c v))), some (.ref S0.length), some (.ref (S0.length + 1)), x6, x7, x8, some (rowD (.set c v)), some (.int (plc (cns g) c : Nat)), some (.int (valV g st v % (szOf g c : Nat)))]) rfl rfl rfl hlt (by have := hst.len; have := G.c1; omega)
    refine ⟨x7, some (rowD (.set c v)), some (.int (plc (cns g) c : Nat)), some (.int (valV g st v % (szOf g c : Nat))), ?_⟩
    simp only [stR, ctR]
    rw [hS]
    have d11 := asg_of (tg := tgN 2) (δ1 := [some (grD g), some (codeD rows), some (stD (st.set (plc (cns g) c) (valV g st v % (szOf g c : Nat)))), some (natD (nextR g st i (.set c v))), some (.ref S0.length), some (.ref (S0.length + 1)), x6, x7, x8, some (rowD (.set c v)), some (.int (plc (cns g) c : Nat)), some (.int (valV g st v % (szOf g c : Nat)))]) d10 rfl
    clear hr he hm hl hg hS G hst hct ho hlt d10
    unfold lrB keyT natD at *
    unfold codeD at *
    generalize evAsg (evBin oAdd (evBin oAdd (evSl (evVar 2) evNoPart (evPart (evVar 10))) (evTup (evCons (evVar 11) evNil))) (evSl (evVar 2) (evPart (evBin oAdd (evVar 10) (evC (.int 1)))) evNoPart)) (tgN 2) = X at d11 ⊢
    generalize oMod = O at d9 ⊢
    have d12 : bInt [.int (valV g st v)] S = some (.int (valV g st v), S) := rfl
    unfold tgSub
    walk_at "ev"
  | branch t to =>
    have d1 : oEq (.str (rowW (.branch t to))) (.str "deed") S = some (.bl false, S) := wEq (a := "branch") (by decide +kernel)
    have d2 : oEq (.str (rowW (.branch t to))) (.str "set") S = some (.bl false, S) := wEq (a := "branch") (by decide +kernel)
    refine ⟨x7, some (rowD (.branch t to)), x10, x11, ?_⟩
    simp only [stR, ctR]
    rw [hS]
    clear hr he hm hl hg hS G hst hct ho
    unfold lrB keyT natD at *
    unfold codeD at e3 ⊢
    unfold tgSub
    walk_at "ev"
  | switch c l =>
    have d1 : oEq (.str (rowW (.switch c l))) (.str "deed") S = some (.bl false, S) := wEq (a := "switch") (by decide +kernel)
    have d2 : oEq (.str (rowW (.switch c l))) (.str "set") S = some (.bl false, S) := wEq (a := "switch") (by decide +kernel)
    refine ⟨x7, some (rowD (.switch c l)), x10, x11, ?_⟩
    simp only [stR, ctR]
    rw [hS]
    clear hr he hm hl hg hS G hst hct ho
    unfold lrB keyT natD at *
    unfold codeD at e3 ⊢
    unfold tgSub
    walk_at "ev"
  | jump to =>
    have d1 : oEq (.str (rowW (.jump to))) (.str "deed") S = some (.bl false, S) := wEq (a := "jump") (by decide +kernel)
    have d2 : oEq (.str (rowW (.jump to))) (.str "set") S = some (.bl false, S) := wEq (a := "jump") (by decide +kernel)
    refine ⟨x7, some (rowD (.jump to)), x10, x11, ?_⟩
    simp only [stR, ctR]
    rw [hS]
    clear hr he hm hl hg hS G hst hct ho
    unfold lrB keyT natD at *
    unfold codeD at e3 ⊢
    unfold tgSub
    walk_at "ev"
end K84
end
section
set_option Elab.async false
set_option linter.all false
set_option maxRecDepth 100000
set_option maxHeartbeats 4000000
/-! plain: the law own run 2 -/
namespace K84
open PySem PySem.Spec PyProof.Rows L2 DL
local macro_rules | `(tactic| walk_at "ev") => `(tactic| simp only [evSeq, evIfS, evRet, evRetN, evVar, evC, evBin, evUn, p2, evNil, evCons, evTup, evLst, evNew, evTest, evAndT, evOrT, evNotT, evAnd, evOr, evNot, evIte, evIteT, evTruth, evChain, evCall, evCallO, evIsi, evAsg, evDrop, evMk, mkI, mkN, evNext, tgN, tgTup, tgCons, tgNil, asB, dTruth, notRef, isiD, bLen, oLe, oLt, oGe, oGt, oSub, oInt, oAdd, oIsN, oNotN, DL.isNon,
  bind_ok, bind_bad, ofO_some, ofO_none, Option.map_some, Option.map_none, List.getElem?_cons_zero, List.getElem?_cons_succ, List.set_cons_zero, List.set_cons_succ, List.length_cons, List.length_nil, if_true, if_false, Bool.false_eq_true, Bool.not_true, Bool.not_false, decide_true, decide_false, and_self, reduceIte, *])

theorem cons1_of {f : DEnv → Store → R D} {δ : DEnv} {S S1 : Store} {d : D} (h : f δ S = .ok d S1) : evCons f evNil δ S = .ok [d] S1 := by
  unfold evCons
  rw [h]
  rfl
theorem law_loop {g : Gr} {rows : List Rw} {S0 : Store} (L : LawGr g) (C : GoodCode g rows) : ∀ (ds : List D) (met : List Kx) (i : Nat) (st ct : List Int) (r : Out) (x7 x8 x9 x10 x11 : Option D), mach g rows ds.length met i st ct = some r → InSt g.cells st → ct.length = g.kinds.length → met.length + ds.length ≤ 1000000 →
    ∃ a b, forGo (fun _ => True) (tgN 8) lrB ds [some (grD g), some (codeD rows), some (stD st), some (natD i), some (.ref S0.length), some (.ref (S0.length + 1)), some (.lst ((allSt g.cells).map stD)), x7, x8, x9, x10, x11] (S0 ++ [ctM ct, metM met]) = .ok (.rt (outD r)) (S0 ++ [a, b])
  | [], _, _, _, _, _, _, _, _, _, _, h, _, _, _ => by cases h
  | d :: ds, met, i, st, ct, r, x7, x8, x9, x10, x11, h, hst, hct, hl => by
    rw [List.length_cons] at h hl
    unfold mach at h
    by_cases hm : (i, st) ∈ met
    · rw [if_pos hm] at h
      cases h
      exact ⟨_, _, forGo_rt trivial rfl (law_stop hm)⟩
    · rw [if_neg hm] at h
      cases hr : rows[i]? with
      | none => rw [hr] at h; cases h
      | some row =>
        rw [hr] at h
        have ho := C.ok row (List.mem_of_getElem? hr)
        cases hx : isExit row with
        | true =>
          cases row with
          | exit e =>
            cases h
            exact ⟨_, _, forGo_rt trivial rfl (law_exit L hst hr ho hm (by omega))⟩
          | _ => cases hx
        | false =>
          have h' : mach g rows ds.length (met ++ [(i, st)]) (nextR g st i row) (stR g st row) (ctR g ct row) = some r := by
            cases row with
            | exit e => cases hx
            | _ => exact h
          obtain ⟨y7, y9, y10, y11, hb⟩ := law_step (S0 := S0) (x6 := some (.lst ((allSt g.cells).map stD))) (x7 := x7) (x8 := some d) (x9 := x9) (x10 := x10) (x11 := x11) L.G hst hct hr ho hx hm (by omega)
          obtain ⟨a, b, ih⟩ := law_loop (S0 := S0) L C ds _ _ _ _ r y7 (some d) y9 y10 y11 h' (stR_in L.G hst row ho) (by rw [ctR_len]; exact hct) (by rw [List.length_append, List.length_singleton]; omega)
          exact ⟨a, b, (forGo_nx trivial rfl hb).trans ih⟩
theorem states_le {g : Gr} (G : GoodGr g) : (allSt g.cells).length ≤ 8 ^ 4 := by
  have main : ∀ (cs : List (Str × Nat)) (f : List (List Int)) (k : Nat), f.length ≤ 8 ^ k → k + cs.length ≤ 4 → (∀ p ∈ cs, p.2 ≤ 8) → (cs.foldl (fun f c => moreSt f c.2) f).length ≤ 8 ^ 4 := by
    intro cs
    induction cs with
    | nil => intro f k h hk _; exact Nat.le_trans h (Nat.pow_le_pow_right (by decide) (by simpa using hk))
    | cons c cs ih =>
      intro f k h hk hc
      rw [List.length_cons] at hk
      refine ih (moreSt f c.2) (k + 1) ?_ (by omega) fun p hp => hc p (List.mem_cons_of_mem _ hp)
      rw [moreSt_len, Nat.pow_succ]
      exact Nat.mul_le_mul h (hc c (List.mem_cons_self ..))
  exact main g.cells [[]] 0 (by simp) (by have := G.c1; omega) fun p hp => (G.c2 p hp).2.2
theorem rangeD_len (n : Nat) : (rangeD 0 n).length = n := by rw [rangeD_map]; simp
theorem law_code_run_ok {g : Gr} {rows : List Rw} {S : Store} {st : List Int} {r : Out} (L : LawGr g) (C : GoodCode g rows) (hst : InSt g.cells st) (h : runR g rows st (manyR g rows + 1) = some r) (hN : manyR g rows + 1 ≤ 100000) : c__law_code_run [grD g, codeD rows, stD st] S = .ok (outD r) S := by
  obtain ⟨a, b, e⟩ := law_loop (S0 := S) L C (rangeD 0 (manyR g rows + 1)) [] 0 st (List.replicate g.kinds.length 0) r none none none none none (by rw [rangeD_len]; exact h) hst (by simp) (by rw [rangeD_len]; simp; omega)
  refine fn_rtJ [a, b] (outD_pure r) ?_
  unfold b__law_code_run
  have z4 : ([D.int 0, .ref S.length, .ref (S.length + 1), .lst ((allSt g.cells).map stD)] : List D).length ≤ sizeLine := by rw [sizeLine_eq]; show 4 ≤ _; decide
  have c1 : evMk mkN (evComp [7] (itSeq (evBin ixD (evVar 0) (evC (.int 1)))) (tgN 7) evYes (evC (.int 0))) [some (grD g), some (codeD rows), some (stD st), none, none, none, none, none, none, none, none, none] S = .ok (.ref S.length) (S ++ [ctM (List.replicate g.kinds.length 0)]) := by
    have hc : evComp [7] (itSeq (evBin ixD (evVar 0) (evC (.int 1)))) (tgN 7) evYes (evC (.int 0)) [some (grD g), some (codeD rows), some (stD st), none, none, none, none, none, none, none, none, none] S = .ok (g.kinds.map fun _ => D.int 0) S := by
      exact comp_all (m := ⟨g.kinds.map kindD, fun _ => True⟩) kindD _ rfl rfl trivial (fun d hd => ⟨_, rfl, rfl⟩) (by have := L.G.k1; rw [sizeLine_eq]; omega)
    unfold evMk
    rw [hc]
    unfold ctM
    rw [List.map_replicate, List.map_const']
    rfl
  have c2 := law_states_ok (S := S ++ [ctM (List.replicate g.kinds.length 0)] ++ [M.dct []]) L.G
  have c3 : evTup (evCons (evC (.int 0)) (evCons (evMk mkN (evComp [7] (itSeq (evBin ixD (evVar 0) (evC (.int 1)))) (tgN 7) evYes (evC (.int 0)))) (evCons evNewD (evCons (evCall c__law_states (evCons (evVar 0) evNil)) evNil)))) [some (grD g), some (codeD rows), some (stD st), none, none, none, none, none, none, none, none, none] S =
      .ok (.tup [.int 0, .ref S.length, .ref (S.length + 1), .lst ((allSt g.cells).map stD)]) (S ++ [ctM (List.replicate g.kinds.length 0)] ++ [M.dct []]) := by
    have d1 : evNewD [some (grD g), some (codeD rows), some (stD st), none, none, none, none, none, none, none, none, none] (S ++ [ctM (List.replicate g.kinds.length 0)]) = .ok (.ref (S.length + 1)) (S ++ [ctM (List.replicate g.kinds.length 0)] ++ [M.dct []]) := by
      unfold evNewD
      rw [List.length_append]
      rfl
    clear e h hN hst C L
    simp only [List.length_cons, List.length_nil] at z4
    generalize evMk mkN (evComp [7] (itSeq (evBin ixD (evVar 0) (evC (.int 1)))) (tgN 7) evYes (evC (.int 0))) = X at c1 ⊢
    generalize evNewD = Y at d1 ⊢
    walk_at "ev"
  have a1 := asg_of (tg := tgTup 4 (tgCons (tgN 3) (tgCons (tgN 4) (tgCons (tgN 5) (tgCons (tgN 6) tgNil))))) (δ1 := [some (grD g), some (codeD rows), some (stD st), some (.int 0), some (.ref S.length), some (.ref (S.length + 1)), some (.lst ((allSt g.cells).map stD)), none, none, none, none, none]) c3 rfl
  refine (seq_nx a1).trans ?_
  rw [List.append_assoc]
  refine seq_rt ?_
  have hi : itOf itmR1 (evCons (evBin oAdd (evBin oMul (evCallO bLen (evCons (evVar 1) evNil)) (evCallO bLen (evCons (evVar 6) evNil))) (evC (.int 1))) evNil) [some (grD g), some (codeD rows), some (stD st), some (.int 0), some (.ref S.length), some (.ref (S.length + 1)), some (.lst ((allSt g.cells).map stD)), none, none, none, none, none] (S ++ ([ctM (List.replicate g.kinds.length 0)] ++ [M.dct []])) = .ok ⟨rangeD 0 (manyR g rows + 1), fun _ => True⟩ (S ++ ([ctM (List.replicate g.kinds.length 0)] ++ [M.dct []])) := by
    generalize S ++ ([ctM (List.replicate g.kinds.length 0)] ++ [M.dct []]) = S1
    have hl1 : ((rows.map rowD).length : Int) = (rows.length : Nat) := by rw [List.length_map]
    have hl2 : (((allSt g.cells).map stD).length : Int) = ((allSt g.cells).length : Nat) := by rw [List.length_map]
    have hw : ∀ n : Nat, n ≤ 100000 → ((n : Nat) : Int).natAbs < 2 ^ 4000 := fun n hn => by
      rw [Int.natAbs_natCast]
      exact Nat.lt_of_le_of_lt hn (Nat.lt_of_lt_of_le (show 100000 < 2 ^ 17 by decide) (Nat.pow_le_pow_right (by decide) (by decide)))
    have m1 : oMul (.int ((rows.map rowD).length : Nat)) (.int (((allSt g.cells).map stD).length : Nat)) S1 = some (.int ((manyR g rows : Nat)), S1) := by
      have q1 : rows.length ≤ 100000 := by have := C.l2; omega
      have q2 : (allSt g.cells).length ≤ 100000 := by
        have h1 := states_le L.G
        have h2 : (8 : Nat) ^ 4 = 4096 := by decide
        omega
      have q3 := mul_small (S := S1) (hw rows.length q1) (hw (allSt g.cells).length q2)
      have q4 : ((manyR g rows : Nat) : Int) = ((rows.length : Nat) : Int) * (((allSt g.cells).length : Nat) : Int) := by
        unfold manyR
        exact Int.natCast_mul ..
      rw [hl1, hl2, q4]
      exact q3
    unfold itOf
    have : evCons (evBin oAdd (evBin oMul (evCallO bLen (evCons (evVar 1) evNil)) (evCallO bLen (evCons (evVar 6) evNil))) (evC (.int 1))) evNil [some (grD g), some (codeD rows), some (stD st), some (.int 0), some (.ref S.length), some (.ref (S.length + 1)), some (.lst ((allSt g.cells).map stD)), none, none, none, none, none] S1 = .ok [.int ((manyR g rows + 1 : Nat))] S1 := by
      have b : evBin oMul (evCallO bLen (evCons (evVar 1) evNil)) (evCallO bLen (evCons (evVar 6) evNil)) [some (grD g), some (codeD rows), some (stD st), some (.int 0), some (.ref S.length), some (.ref (S.length + 1)), some (.lst ((allSt g.cells).map stD)), none, none, none, none, none] S1 = .ok (.int ((manyR g rows : Nat))) S1 := bin_of rfl rfl m1
      have b2 := bin_of (op := oAdd) (fb := evC (.int 1)) (b := .int 1) (d := .int ((manyR g rows + 1 : Nat))) b rfl rfl
      exact cons1_of b2
    rw [this, bind_ok, itmR1_nat hN]
    rfl
  exact (for_eq hi).trans e
end K84
end
section
set_option Elab.async false
set_option linter.all false
set_option maxRecDepth 100000
set_option maxHeartbeats 4000000
/-! plain: runs and tables -/
namespace K84
open PySem PySem.Spec PyProof.Rows L2 DL
local macro_rules | `(tactic| walk_at "ev") => `(tactic| simp only [evSeq, evIfS, evRet, evRetN, evVar, evC, evBin, evUn, p2, evNil, evCons, evTup, evLst, evNew, evTest, evAndT, evOrT, evNotT, evAnd, evOr, evNot, evIte, evIteT, evTruth, evChain, evCall, evCallO, evIsi, evAsg, evDrop, evMk, mkI, mkN, evNext, tgN, tgTup, tgCons, tgNil, asB, dTruth, notRef, isiD, bLen, oLe, oLt, oGe, oGt, oSub, oInt, oAdd, oIsN, oNotN, DL.isNon,
  bind_ok, bind_bad, ofO_some, ofO_none, Option.map_some, Option.map_none, List.getElem?_cons_zero, List.getElem?_cons_succ, List.set_cons_zero, List.set_cons_succ, List.length_cons, List.length_nil, if_true, if_false, Bool.false_eq_true, Bool.not_true, Bool.not_false, decide_true, decide_false, and_self, reduceIte, *])

theorem inst_valOk : ∀ {cs : List (Str × Nat)} {vs : List Int}, InSt cs vs → ((vs.map D.int).zip cs).all valOk = true
  | [], [], _ => rfl
  | c :: cs, v :: vs, h => by
    show (valOk (.int v, c) && ((vs.map D.int).zip cs).all valOk) = true
    rw [inst_valOk h.2]
    show ((decide (0 ≤ v) && decide (v < (c.2 : Nat))) && true) = true
    rw [decide_eq_true h.1.1, decide_eq_true h.1.2]
    rfl
theorem is_state_ok {g : Gr} {st : List Int} {S : Store} (G : GoodGr g) (hst : InSt g.cells st) : c_is_state [grD g, stD st] S = .ok (.bl true) S := by
  have h := is_state_tup (S := S) (ds := st.map D.int) G (fun d hd => by
    obtain ⟨v, _, rfl⟩ := List.mem_map.mp hd
    rfl) (by rw [List.length_map, hst.len]; have := G.c1; omega)
  rw [inst_valOk hst, List.length_map, decide_eq_true hst.len] at h
  exact h
theorem want_state_ok {g : Gr} {st : List Int} {S : Store} (G : GoodGr g) (hst : InSt g.cells st) : c_want_state [grD g, stD st] S = .ok .non S := by
  have e1 := is_state_ok (S := S) G hst
  have hb : b_want_state [some (grD g), some (stD st)] S = .ok (.nx [some (grD g), some (stD st)]) S := by
    unfold b_want_state
    clear G hst
    walk_at "ev"
  unfold c_want_state fnR
  rw [if_pos (show [grD g, stD st].length = 2 from rfl)]
  show gcR .pl S ((b_want_state [some (grD g), some (stD st)] S).bind _) = _
  rw [hb, bind_ok]
  show gcV S .non S .pl = _
  unfold gcV
  refine (if_pos (gcOk_self rfl)).trans ?_
  rw [List.take_length]
theorem okN_rw {g : Gr} {many : Nat} (G : GoodGr g) : ∀ r : Rw, rowOk g many r → okN 16 (rowD r) = true
  | .set c v, h => by
    have h1 := okN_up (okN_vl (cell_strs G) v h.2.1) (m := 15) (by have := h.2.2; omega)
    have h2 : okN 15 (.str c) = true := cell_strs G c h.1
    have h3 : okN 15 (.str "set") = true := by show PyData.strOk _ = true; decide +kernel
    show (okN 15 (.str "set") && (okN 15 (.str c) && (okN 15 (vlD v) && true))) = true
    rw [h1, h2, h3]
    rfl
  | .deed k n, h => by
    have h2 : okN 15 (.str k) = true := kind_strs G k h.1
    have h3 : okN 15 (.str "deed") = true := by show PyData.strOk _ = true; decide +kernel
    show (okN 15 (.str "deed") && (okN 15 (.str k) && (okN 15 (.int n) && true))) = true
    rw [h2, h3]
    rfl
  | .branch t to, h => by
    have h1 := okN_up (okN_ts (cell_strs G) t h.1) (m := 15) (by have := h.2.1; omega)
    have h3 : okN 15 (.str "branch") = true := by show PyData.strOk _ = true; decide +kernel
    show (okN 15 (.str "branch") && (okN 15 (tsD t) && (okN 15 (natD to) && true))) = true
    rw [h1, h3]
    rfl
  | .switch c l, h => by
    have h2 : okN 15 (.str c) = true := cell_strs G c h.1
    have h3 : okN 15 (.str "switch") = true := by show PyData.strOk _ = true; decide +kernel
    have h4 : okN 15 (.tup (l.map natD)) = true := by
      show (l.map natD).all (okN 14) = true
      rw [List.all_map]
      exact List.all_eq_true.mpr fun _ _ => rfl
    show (okN 15 (.str "switch") && (okN 15 (.str c) && (okN 15 (.tup (l.map natD)) && true))) = true
    rw [h2, h3, h4]
    rfl
  | .jump to, h => by
    have h3 : okN 15 (.str "jump") = true := by show PyData.strOk _ = true; decide +kernel
    show (okN 15 (.str "jump") && (okN 15 (natD to) && true)) = true
    rw [h3]
    rfl
  | .exit e, h => by
    have h2 : okN 15 (.str e) = true := name_str (G.e3 e h)
    have h3 : okN 15 (.str "exit") = true := by show PyData.strOk _ = true; decide +kernel
    show (okN 15 (.str "exit") && (okN 15 (.str e) && true)) = true
    rw [h2, h3]
    rfl
theorem okN_code {g : Gr} {rows : List Rw} (G : GoodGr g) (C : GoodCode g rows) : okN 17 (codeD rows) = true := by
  show (rows.map rowD).all (okN 16) = true
  rw [List.all_map]
  exact List.all_eq_true.mpr fun r hr => okN_rw G r (C.ok r hr)
theorem mach_out {g : Gr} {rows : List Rw} {S : Store} {st : List Int} {r : Out} (L : LawGr g) (C : GoodCode g rows) (hst : InSt g.cells st) (h : runR g rows st (manyR g rows + 1) = some r) (hN : manyR g rows + 1 ≤ 100000) : c_run_rows [grD g, codeD rows, stD st] S = .ok (outD r) S := run_rows_ok L.G C hst h (by omega)
theorem outD1_pure (o : Option (List Int × Int × Nat)) : pureD (outD1 o) = true := by
  cases o with
  | none => rfl
  | some o =>
    show (pureD (stD o.1) && true) = true
    rw [pure_st]
    rfl
theorem run_code_ok {g : Gr} {rows : List Rw} {S : Store} {st : List Int} {r : Out} (L : LawGr g) (C : GoodCode g rows) (hst : InSt g.cells st) (h : runR g rows st (manyR g rows + 1) = some r) (hN : manyR g rows + 1 ≤ 100000) : c_run_code [grD g, codeD rows, stD st] S = .ok (outD1 r.1) S := by
  refine fn_rt (outD1_pure _) ?_
  have e1 := made_ground_ok (S := S) L.G (pure_of L.pure)
  have e2 := made_code_ok (S := S) L.G C (pure_of (okN_code L.G C))
  have e3 := want_state_ok (S := S) L.G hst
  have e4 := mach_out (S := S) L C hst h hN
  have e5 : ixD (outD r) (.int 0) S = some (outD1 r.1, S) := atI0
  unfold b_run_code
  show evSeq _ _ [some (grD g), some (codeD rows), some (stD st)] S = _
  clear L C hst h hN
  walk_at "ev"
end K84
end
section
set_option Elab.async false
set_option linter.all false
set_option maxRecDepth 100000
set_option maxHeartbeats 4000000
/-! plain: tables -/
namespace K84
open PySem PySem.Spec PyProof.Rows L2 DL
local macro_rules | `(tactic| walk_at "ev") => `(tactic| simp only [evSeq, evIfS, evRet, evRetN, evVar, evC, evBin, evUn, p2, evNil, evCons, evTup, evLst, evNew, evTest, evAndT, evOrT, evNotT, evAnd, evOr, evNot, evIte, evIteT, evTruth, evChain, evCall, evCallO, evIsi, evAsg, evDrop, evMk, mkI, mkN, evNext, tgN, tgTup, tgCons, tgNil, asB, dTruth, notRef, isiD, bLen, oLe, oLt, oGe, oGt, oSub, oInt, oAdd, oIsN, oNotN, DL.isNon,
  bind_ok, bind_bad, ofO_some, ofO_none, Option.map_some, Option.map_none, List.getElem?_cons_zero, List.getElem?_cons_succ, List.set_cons_zero, List.set_cons_succ, List.length_cons, List.length_nil, if_true, if_false, Bool.false_eq_true, Bool.not_true, Bool.not_false, decide_true, decide_false, and_self, reduceIte, *])

def outOf (g : Gr) (rows : List Rw) (st : List Int) : Out := (runR g rows st (manyR g rows + 1)).getD (none, 0)
theorem out_eq {g : Gr} {rows : List Rw} {st : List Int} (G : GoodGr g) (C : GoodCode g rows) (hst : InSt g.cells st) : runR g rows st (manyR g rows + 1) = some (outOf g rows st) ∧ OutOk g (manyR g rows + 1) (outOf g rows st) := by
  obtain ⟨r, h1, h2⟩ := runR_some G C hst
  have : outOf g rows st = r := by
    unfold outOf
    rw [h1]
    rfl
  rw [this]
  exact ⟨h1, h2⟩
theorem run_rows_of {g : Gr} {rows : List Rw} {S : Store} {st : List Int} (L : LawGr g) (C : GoodCode g rows) (hst : InSt g.cells st) (hN : manyR g rows + 1 ≤ 100000) : c_run_rows [grD g, codeD rows, stD st] S = .ok (outD (outOf g rows st)) S := mach_out L C hst (out_eq L.G C hst).1 hN
theorem run_code_of {g : Gr} {rows : List Rw} {S : Store} {st : List Int} (L : LawGr g) (C : GoodCode g rows) (hst : InSt g.cells st) (hN : manyR g rows + 1 ≤ 100000) : c_run_code [grD g, codeD rows, stD st] S = .ok (outD1 (outOf g rows st).1) S := run_code_ok L C hst (out_eq L.G C hst).1 hN
theorem law_run_of {g : Gr} {rows : List Rw} {S : Store} {st : List Int} (L : LawGr g) (C : GoodCode g rows) (hst : InSt g.cells st) (hN : manyR g rows + 1 ≤ 100000) : c__law_code_run [grD g, codeD rows, stD st] S = .ok (outD (outOf g rows st)) S := law_code_run_ok L C hst (out_eq L.G C hst).1 hN
def tableD (g : Gr) (rows : List Rw) : D := .tup ((allSt g.cells).map fun st => outD1 (outOf g rows st).1)
theorem pures_map {α : Type} (f : α → D) (h : ∀ x, pureD (f x) = true) : ∀ xs : List α, pureDs (xs.map f) = true
  | [] => rfl
  | x :: xs => by
    show (pureD (f x) && pureDs (xs.map f)) = true
    rw [h, pures_map f h xs]
    rfl
theorem states_small {g : Gr} (G : GoodGr g) : (allSt g.cells).length ≤ sizeLine := by
  have h1 := states_le G
  have h2 : (8 : Nat) ^ 4 = 4096 := by decide
  rw [sizeLine_eq]
  omega
theorem table_of_code_ok {g : Gr} {rows : List Rw} {S : Store} (L : LawGr g) (C : GoodCode g rows) (hN : manyR g rows + 1 ≤ 100000) : c_table_of_code [grD g, codeD rows] S = .ok (tableD g rows) S := by
  refine fn_rt (pures_map _ (fun _ => outD1_pure _) _) ?_
  have hi : itSeq (evCall c_all_states (evCons (evVar 0) evNil)) [some (grD g), some (codeD rows), none] S = .ok ⟨(allSt g.cells).map stD, fun _ => True⟩ S := by
    have e := all_states_ok (S := S) L.G
    unfold itSeq
    rw [call_of (ds := [grD g]) (S1 := S) rfl e]
    rfl
  have hc : evComp [2] (itSeq (evCall c_all_states (evCons (evVar 0) evNil))) (tgN 2) evYes (evBin ixD (evCall c_run_rows (evCons (evVar 0) (evCons (evVar 1) (evCons (evVar 2) evNil)))) (evC (.int 0))) [some (grD g), some (codeD rows), none] S = .ok ((allSt g.cells).map fun st => outD1 (outOf g rows st).1) S := by
    refine comp_all stD _ hi rfl trivial (fun st hs => ⟨_, rfl, ?_⟩) (states_small L.G)
    exact bin_of (b := .int 0) (call_of (ds := [grD g, codeD rows, stD st]) (S1 := S) rfl (run_rows_of L C (mem_allSt.mp hs) hN)) rfl atI0
  exact ret_of (tuple_of hc)
theorem code_table_ok {g : Gr} {rows : List Rw} {S : Store} (L : LawGr g) (C : GoodCode g rows) (hN : manyR g rows + 1 ≤ 100000) : c_code_table [grD g, codeD rows] S = .ok (tableD g rows) S := by
  refine fn_rt (pures_map _ (fun _ => outD1_pure _) _) ?_
  have e1 := made_ground_ok (S := S) L.G (pure_of L.pure)
  have e2 := made_code_ok (S := S) L.G C (pure_of (okN_code L.G C))
  have e3 := table_of_code_ok (S := S) L C hN
  unfold b_code_table
  show evSeq _ _ [some (grD g), some (codeD rows)] S = _
  clear L C hN
  walk_at "ev"
def dueD1 (g : Gr) (r : Out) : D := match r.1 with
  | none => .non
  | some o => .tup [natD r.2, .int (costV g o.1)]
theorem dueD1_pure (g : Gr) (r : Out) : pureD (dueD1 g r) = true := by
  obtain ⟨o, n⟩ := r
  cases o <;> rfl
theorem small_of {ct : List Int} {n : Nat} (hn : n ≤ 100000) (h : ∀ x ∈ ct, 0 ≤ x ∧ x ≤ 99 * (n : Int)) : SmallL ct := fun x hx => by
  have := h x hx
  have h2 : x.natAbs < 2 ^ 30 := by
    have : (2 : Nat) ^ 30 = 1073741824 := by decide
    omega
  exact Nat.lt_of_lt_of_le h2 (Nat.pow_le_pow_right (by decide) (by decide))
theorem metered_ok {g : Gr} {r : Out} {S : Store} {n : Nat} (G : GoodGr g) (hr : OutOk g n r) (hn : n ≤ 100000) : c_metered [grD g, outD r] S = .ok (dueD1 g r) S := by
  refine fn_rt (dueD1_pure g r) ?_
  obtain ⟨o, m⟩ := r
  unfold b_metered
  cases o with
  | none =>
    show evSeq _ _ [some (grD g), some (.tup [.non, natD m]), none, none] S = .ok (.rt .non) S
    clear hr hn G
    walk_at "ev"
  | some o =>
    have h := hr.2 o rfl
    have e1 := price_of_ok (S := S) G (small_of hn h.2)
    have e2 : ixD (.tup [stD o.1, .int o.2.1, natD o.2.2]) (.int 0) S = some (stD o.1, S) := atI0
    have z2 : 2 ≤ sizeLine := by rw [sizeLine_eq]; decide
    show evSeq _ _ [some (grD g), some (.tup [.tup [stD o.1, .int o.2.1, natD o.2.2], natD m]), none, none] S = .ok (.rt (.tup [natD m, .int (costV g o.1)])) S
    clear hr hn G h
    walk_at "ev"
def meterD (g : Gr) (rows : List Rw) : D := .tup ((allSt g.cells).map fun st => dueD1 g (outOf g rows st))
theorem meter_ok {g : Gr} {rows : List Rw} {S : Store} (L : LawGr g) (C : GoodCode g rows) (hN : manyR g rows + 1 ≤ 100000) : c_meter [grD g, codeD rows] S = .ok (meterD g rows) S := by
  refine fn_rt (pures_map _ (fun _ => dueD1_pure g _) _) ?_
  have e1 := made_ground_ok (S := S) L.G (pure_of L.pure)
  have e2 := made_code_ok (S := S) L.G C (pure_of (okN_code L.G C))
  have hi : itSeq (evCall c_all_states (evCons (evVar 0) evNil)) [some (grD g), some (codeD rows), none] S = .ok ⟨(allSt g.cells).map stD, fun _ => True⟩ S := by
    have e := all_states_ok (S := S) L.G
    unfold itSeq
    rw [call_of (ds := [grD g]) (S1 := S) rfl e]
    rfl
  have hc : evComp [2] (itSeq (evCall c_all_states (evCons (evVar 0) evNil))) (tgN 2) evYes (evCall c_metered (evCons (evVar 0) (evCons (evCall c_run_rows (evCons (evVar 0) (evCons (evVar 1) (evCons (evVar 2) evNil)))) evNil))) [some (grD g), some (codeD rows), none] S = .ok ((allSt g.cells).map fun st => dueD1 g (outOf g rows st)) S := by
    refine comp_all stD _ hi rfl trivial (fun st hs => ⟨[some (grD g), some (codeD rows), some (stD st)], rfl, ?_⟩) (states_small L.G)
    have e3 := run_rows_of (S := S) L C (mem_allSt.mp hs) hN
    have e4 := metered_ok (S := S) L.G (out_eq L.G C (mem_allSt.mp hs)).2 hN
    clear hs hi e1 e2 hN C L
    walk_at "ev"
  have e3 := tuple_of hc
  unfold b_meter
  show evSeq _ _ [some (grD g), some (codeD rows), none] S = _
  clear L C hN hi hc
  generalize evCallO bTuple (evCons (evMk mkI (evComp [2] (itSeq (evCall c_all_states (evCons (evVar 0) evNil))) (tgN 2) evYes (evCall c_metered (evCons (evVar 0) (evCons (evCall c_run_rows (evCons (evVar 0) (evCons (evVar 1) (evCons (evVar 2) evNil)))) evNil))))) evNil) = X at e3 ⊢
  walk_at "ev"
  rfl
end K84
end
section
set_option Elab.async false
set_option linter.all false
set_option maxRecDepth 100000
set_option maxHeartbeats 4000000
/-! plain: draws -/
namespace K84
open PySem PySem.Spec PyProof.Rows L2 DL
local macro_rules | `(tactic| walk_at "ev") => `(tactic| simp only [evSeq, evIfS, evRet, evRetN, evVar, evC, evBin, evUn, p2, evNil, evCons, evTup, evLst, evNew, evTest, evAndT, evOrT, evNotT, evAnd, evOr, evNot, evIte, evIteT, evTruth, evChain, evCall, evCallO, evIsi, evAsg, evDrop, evMk, mkI, mkN, evNext, tgN, tgTup, tgCons, tgNil, asB, dTruth, notRef, isiD, bLen, oLe, oLt, oGe, oGt, oSub, oInt, oAdd, oIsN, oNotN, DL.isNon,
  bind_ok, bind_bad, ofO_some, ofO_none, Option.map_some, Option.map_none, List.getElem?_cons_zero, List.getElem?_cons_succ, List.set_cons_zero, List.set_cons_succ, List.length_cons, List.length_nil, if_true, if_false, Bool.false_eq_true, Bool.not_true, Bool.not_false, decide_true, decide_false, and_self, reduceIte, *])

def src (a b : Int) : M := .lst [.int a, .int b]
theorem gcOk_src {J J' : Store} {a b a' b' : Int} {d : D} (hd : pureD d = true) : gcOk (src a b :: J) d (src a' b' :: (J ++ J')) := by
  refine ⟨cl_pure d hd, fun n m hn e => ?_⟩
  cases n with
  | zero =>
    simp only [List.getElem?_cons_zero, Option.some.injEq] at e
    subst e
    exact .inr rfl
  | succ n =>
    left
    rw [List.getElem?_cons_succ] at e ⊢
    rw [List.length_cons] at hn
    rwa [List.getElem?_append_left (by omega)] at e
theorem fn_src {np nN : Nat} {body : DEnv → Store → R Fl} {ds : List D} {J : Store} {a b a' b' : Int} {d : D} (J' : Store) (hd : pureD d = true) (h : body (startD nN ds) (src a b :: J) = .ok (.rt d) (src a' b' :: (J ++ J'))) (hn : ds.length = np := by rfl) : fnR .pl np nN body ds (src a b :: J) = .ok d (src a' b' :: J) := by
  unfold fnR
  rw [if_pos hn, h, bind_ok]
  show gcV (src a b :: J) d (src a' b' :: (J ++ J')) .pl = _
  unfold gcV
  refine (if_pos (gcOk_src hd)).trans ?_
  rw [List.length_cons, List.take_succ_cons, List.take_left]
theorem src_at0 {a b : Int} {J : Store} : ixD (.ref 0) (.int 0) (src a b :: J) = some (.int a, src a b :: J) := rfl
theorem src_at1 {a b : Int} {J : Store} : ixD (.ref 0) (.int 1) (src a b :: J) = some (.int b, src a b :: J) := rfl
theorem src_set0 {a b c : Int} {J : Store} : setL (.ref 0) (.int 0) (.int c) (src a b :: J) = some (src c b :: J) := rfl
theorem src_set1 {a b c : Int} {J : Store} : setL (.ref 0) (.int 1) (.int c) (src a b :: J) = some (src a c :: J) := rfl
theorem mod_pos {i j : Int} {S : Store} (h : 0 < j) : oMod (.int i) (.int j) S = some (.int (i % j), S) := by
  show (if decide (0 < j) = true then some (D.int (i % j), S) else none) = _
  exact if_pos (decide_eq_true h)
theorem div_pos {i j : Int} {S : Store} (h : 0 < j) (h2 : j < 2 ^ 40) : oDiv (.int i) (.int j) S = some (.int (i / j), S) := by
  have hw : j.natAbs.log2 < 9000 := by
    have : j.natAbs < 2 ^ 40 := by omega
    have := log2_small this
    omega
  show (if (decide (0 < j) && decide (j.natAbs.log2 < 9000)) = true then some (D.int (i / j), S) else none) = _
  refine if_pos ?_
  rw [decide_eq_true h, decide_eq_true hw]
  rfl
theorem law_take_ok {a b top : Int} {J : Store} (hb : 0 ≤ b ∧ b < 2147483647) (ht : 0 < top) (ht2 : top < 2 ^ 40) : ∃ d a' b', c__law_take [.ref 0, .int top] (src a b :: J) = .ok (.int d) (src a' b' :: J) ∧ 0 ≤ d ∧ d < top ∧ 0 ≤ b' ∧ b' < 2147483647 := by
  by_cases h : a > 0
  · refine ⟨a % top, a / top, b, ?_, Int.emod_nonneg _ (by omega), Int.emod_lt_of_pos _ ht, hb⟩
    refine fn_src [] rfl ?_
    rw [List.append_nil]
    have e1 := src_at0 (a := a) (b := b) (J := J)
    have e2 := src_set0 (a := a) (b := b) (c := a / top) (J := J)
    have e3 := mod_pos (i := a) (S := src a b :: J) ht
    have e4 := div_pos (i := a) (S := src a b :: J) ht ht2
    have e5 : decide (a > 0) = true := decide_eq_true h
    have e6 : bInt [.int a] (src a b :: J) = some (.int a, src a b :: J) := rfl
    generalize src a b :: J = S at *
    generalize src (a / top) b :: J = S' at *
    unfold b__law_take
    show evSeq _ _ [some (.ref 0), some (.int top), none] S = _
    clear hb ht ht2 h
    generalize oMod = O at *
    generalize oDiv = O2 at *
    unfold tgSub
    walk_at "ev"
  · have hb1 : 0 ≤ (b * 39373 + 7) % 2147483647 := Int.emod_nonneg _ (by decide)
    have hb2 : (b * 39373 + 7) % 2147483647 < 2147483647 := Int.emod_lt_of_pos _ (by decide)
    have m1 := mul_small (S := src a b :: J) (i := b) (j := 39373) (Nat.lt_of_lt_of_le (show b.natAbs < 2 ^ 31 by omega) (Nat.pow_le_pow_right (by decide) (by decide))) (Nat.lt_of_lt_of_le (show (39373 : Int).natAbs < 2 ^ 31 by decide) (Nat.pow_le_pow_right (by decide) (by decide)))
    have m2 : oMod (.int (b * 39373 + 7)) (.int 2147483647) (src a b :: J) = some (.int ((b * 39373 + 7) % 2147483647), src a b :: J) := mod_pos (by decide)
    generalize (b * 39373 + 7) % 2147483647 = b' at hb1 hb2 m2
    refine ⟨(b' * b') % 2147483629 / 32 % top, a, b', ?_, Int.emod_nonneg _ (by omega), Int.emod_lt_of_pos _ ht, hb1, hb2⟩
    refine fn_src [] rfl ?_
    rw [List.append_nil]
    have hs : b'.natAbs < 2 ^ 4000 := Nat.lt_of_lt_of_le (show b'.natAbs < 2 ^ 31 by omega) (Nat.pow_le_pow_right (by decide) (by decide))
    have m3 := mul_small (S := src a b' :: J) hs hs
    have m4 : oMod (.int (b' * b')) (.int 2147483629) (src a b' :: J) = some (.int (b' * b' % 2147483629), src a b' :: J) := mod_pos (by decide)
    have m5 : oDiv (.int (b' * b' % 2147483629)) (.int 32) (src a b' :: J) = some (.int (b' * b' % 2147483629 / 32), src a b' :: J) := div_pos (by decide) (by decide)
    have m6 := mod_pos (i := b' * b' % 2147483629 / 32) (S := src a b' :: J) ht
    have e1 := src_at0 (a := a) (b := b) (J := J)
    have e1' := src_at1 (a := a) (b := b) (J := J)
    have e1'' := src_at1 (a := a) (b := b') (J := J)
    have e2 := src_set1 (a := a) (b := b) (c := b') (J := J)
    have e5 : decide (a > 0) = false := decide_eq_false h
    have e6 : bInt [.int (b * 39373 + 7)] (src a b :: J) = some (.int (b * 39373 + 7), src a b :: J) := rfl
    have e7 : bInt [.int (b' * b')] (src a b' :: J) = some (.int (b' * b'), src a b' :: J) := rfl
    have e8 : bInt [.int (b' * b' % 2147483629 / 32)] (src a b' :: J) = some (.int (b' * b' % 2147483629 / 32), src a b' :: J) := rfl
    generalize src a b :: J = S at *
    generalize src a b' :: J = S' at *
    unfold b__law_take
    show evSeq _ _ [some (.ref 0), some (.int top), none] S = _
    clear hb ht ht2 h hb1 hb2 hs
    generalize oMod = O at *
    generalize oDiv = O2 at *
    generalize oMul = O3 at *
    unfold tgSub
    walk_at "ev"
end K84
end
section
set_option Elab.async false
set_option linter.all false
set_option maxRecDepth 100000
set_option maxHeartbeats 4000000
/-! plain: draws 2 -/
namespace K84
open PySem PySem.Spec PyProof.Rows L2 DL
local macro_rules | `(tactic| walk_at "ev") => `(tactic| simp only [evSeq, evIfS, evRet, evRetN, evVar, evC, evBin, evUn, p2, evNil, evCons, evTup, evLst, evNew, evTest, evAndT, evOrT, evNotT, evAnd, evOr, evNot, evIte, evIteT, evTruth, evChain, evCall, evCallO, evIsi, evAsg, evDrop, evMk, mkI, mkN, evNext, tgN, tgTup, tgCons, tgNil, asB, dTruth, notRef, isiD, bLen, oLe, oLt, oGe, oGt, oSub, oInt, oAdd, oIsN, oNotN, DL.isNon,
  bind_ok, bind_bad, ofO_some, ofO_none, Option.map_some, Option.map_none, List.getElem?_cons_zero, List.getElem?_cons_succ, List.set_cons_zero, List.set_cons_succ, List.length_cons, List.length_nil, if_true, if_false, Bool.false_eq_true, Bool.not_true, Bool.not_false, decide_true, decide_false, and_self, reduceIte, *])

/-- the source: [a, b] with b below the modulus, a not below nought -/
def SrcOk (b : Int) : Prop := 0 ≤ b ∧ b < 2147483647
theorem pures_mem : ∀ {xs : List D} {d : D}, pureDs xs = true → d ∈ xs → pureD d = true
  | x :: xs, d, h, hm => by
    have h' : (pureD x && pureDs xs) = true := h
    rw [Bool.and_eq_true] at h'
    rcases List.mem_cons.mp hm with rfl | hm
    · exact h'.1
    · exact pures_mem h'.2 hm
theorem law_one_ok {a b : Int} {J : Store} {t : D} {xs : List D} (hb : SrcOk b) (ht : t = .tup xs ∨ t = .lst xs) (hp : pureDs xs = true) (h0 : xs ≠ []) (hl : xs.length ≤ 100000) : ∃ d a' b', c__law_one [.ref 0, t] (src a b :: J) = .ok d (src a' b' :: J) ∧ d ∈ xs ∧ SrcOk b' := by
  have hpos : 0 < xs.length := List.length_pos_iff.mpr h0
  obtain ⟨i, a', b', e1, i0, i1, hb'⟩ := law_take_ok (a := a) (b := b) (top := (xs.length : Nat)) (J := J) hb (by omega) (by
    have : (2 : Int) ^ 40 = 1099511627776 := by decide
    omega)
  have hi : ((i.toNat : Nat) : Int) = i := Int.toNat_of_nonneg i0
  have hlt : i.toNat < xs.length := by omega
  refine ⟨xs[i.toNat], a', b', ?_, List.getElem_mem hlt, hb'⟩
  refine fn_src [] (pures_mem hp (List.getElem_mem hlt)) ?_
  rw [List.append_nil]
  have e2 : bLen [t] (src a b :: J) = some (.int (xs.length : Nat), src a b :: J) := by
    rcases ht with rfl | rfl <;> rfl
  have e3 : ixD t (.int i) (src a' b' :: J) = some (xs[i.toNat], src a' b' :: J) := by
    have : ixD t (.int ((i.toNat : Nat) : Int)) (src a' b' :: J) = some (xs[i.toNat], src a' b' :: J) := by
      rcases ht with rfl | rfl
      · exact ix_tup (List.getElem?_eq_getElem hlt)
      · exact ix_lst (List.getElem?_eq_getElem hlt)
    rw [hi] at this
    exact this
  refine ret_of ?_
  refine bin_of (a := t) (b := .int i) (S1 := src a b :: J) (S2 := src a' b' :: J) rfl ?_ e3
  refine call_of (ds := [.ref 0, .int (xs.length : Nat)]) (S1 := src a b :: J) ?_ e1
  have e4 : evCallO bLen (evCons (evVar 1) evNil) (startD 2 [.ref 0, t]) (src a b :: J) = .ok (.int (xs.length : Nat)) (src a b :: J) := by
    show ofO (bLen [t] (src a b :: J)) = _
    rw [e2]
    rfl
  show R.bind (R.ok (D.ref 0) (src a b :: J)) _ = _
  rw [bind_ok, cons1_of e4]
  rfl
end K84
end
section
set_option Elab.async false
set_option linter.all false
set_option maxRecDepth 100000
set_option maxHeartbeats 4000000
/-! plain: the drawn ground -/
namespace K84
open PySem PySem.Spec PyProof.Rows L2 DL
local macro_rules | `(tactic| walk_at "ev") => `(tactic| simp only [evSeq, evIfS, evRet, evRetN, evVar, evC, evBin, evUn, p2, evNil, evCons, evTup, evLst, evNew, evTest, evAndT, evOrT, evNotT, evAnd, evOr, evNot, evIte, evIteT, evTruth, evChain, evCall, evCallO, evIsi, evAsg, evDrop, evMk, mkI, mkN, evNext, tgN, tgTup, tgCons, tgNil, asB, dTruth, notRef, isiD, bLen, oLe, oLt, oGe, oGt, oSub, oInt, oAdd, oIsN, oNotN, DL.isNon,
  bind_ok, bind_bad, ofO_some, ofO_none, Option.map_some, Option.map_none, List.getElem?_cons_zero, List.getElem?_cons_succ, List.set_cons_zero, List.set_cons_succ, List.length_cons, List.length_nil, if_true, if_false, Bool.false_eq_true, Bool.not_true, Bool.not_false, decide_true, decide_false, and_self, reduceIte, *])

def stdCells : List (List (Str × Nat)) := [[("c", 2)], [("c", 3)], [("a", 2), ("b1", 3)], [("x", 2), ("y", 2)], [("n", 4)], []]
def longCells : List (List (Str × Nat)) := [[("a", 8), ("b", 8)], [("n1", 8), ("b", 7)]]
def allCells : List (List (Str × Nat)) := stdCells ++ longCells
def idxOk (cells : List (Str × Nat)) : Bool := (allSt cells).all fun st => decide ((allSt cells).findIdx? (fun z => z == st) = some (numSt cells st 0).toNat) && decide (0 ≤ numSt cells st 0)
theorem idx_all : allCells.all idxOk = true := by decide +kernel
def kindNames : List (List Str) := [["send"], ["log", "flush"], ["f", "g2"]]
def exitMenu : List (List Str) := [["done", "fail"], ["ok"], ["out", "err", "bad"], ["done", "full"]]
def cellsOk (cells : List (Str × Nat)) : Bool := decide (cells.length ≤ 4) && cells.all (fun p => nameOk p.1 && decide (1 ≤ p.2) && decide (p.2 ≤ 8)) && decide (prodC cells ≤ 64) && decide ((allSt cells).length ≤ 64)
theorem cells_all : allCells.all cellsOk = true := by decide +kernel
def kindsOk (ks : List Str) : Bool := decide (ks.length ≤ 3) && decide (1 ≤ ks.length) && ks.all nameOk
theorem kinds_all : kindNames.all kindsOk = true := by decide +kernel
def exitsOk (es : List Str) : Bool := decide (1 ≤ es.length) && decide (es.length ≤ 4) && es.all nameOk
theorem exits_all : exitMenu.all exitsOk = true := by decide +kernel
theorem nd_all : (allCells.all fun c => kindNames.all fun k => exitMenu.all fun e => decide (c.map (·.1) ++ (k ++ e)).Nodup) = true := by decide +kernel
structure MenuGr (g : Gr) : Prop where
  c : g.cells ∈ allCells
  k : g.kinds.map (·.1) ∈ kindNames
  p : ∀ x ∈ g.kinds, 1 ≤ x.2 ∧ x.2 ≤ 99
  e : g.exits ∈ exitMenu
theorem MenuGr.good {g : Gr} (m : MenuGr g) : GoodGr g := by
  have hc := List.all_eq_true.mp cells_all _ m.c
  have hk := List.all_eq_true.mp kinds_all _ m.k
  have he := List.all_eq_true.mp exits_all _ m.e
  have hn := List.all_eq_true.mp (List.all_eq_true.mp (List.all_eq_true.mp nd_all _ m.c) _ m.k) _ m.e
  simp only [cellsOk, Bool.and_eq_true, decide_eq_true_eq, List.all_eq_true] at hc
  simp only [kindsOk, Bool.and_eq_true, decide_eq_true_eq, List.all_eq_true, List.length_map] at hk
  simp only [exitsOk, Bool.and_eq_true, decide_eq_true_eq, List.all_eq_true] at he
  exact {
    c1 := hc.1.1.1
    c2 := fun p hp => ⟨(hc.1.1.2 p hp).1.1, (hc.1.1.2 p hp).1.2, (hc.1.1.2 p hp).2⟩
    c3 := hc.1.2
    k1 := hk.1.1
    k2 := fun p hp => ⟨hk.2 p.1 (List.mem_map_of_mem hp), m.p p hp⟩
    e1 := he.1.1
    e2 := he.1.2
    e3 := he.2
    nd := of_decide_eq_true hn }
theorem MenuGr.states {g : Gr} (m : MenuGr g) : (allSt g.cells).length ≤ 64 := by
  have hc := List.all_eq_true.mp cells_all _ m.c
  simp only [cellsOk, Bool.and_eq_true, decide_eq_true_eq] at hc
  exact hc.2
theorem MenuGr.kind {g : Gr} (m : MenuGr g) : 1 ≤ g.kinds.length := by
  have hk := List.all_eq_true.mp kinds_all _ m.k
  simp only [kindsOk, Bool.and_eq_true, decide_eq_true_eq, List.length_map] at hk
  exact hk.1.2
theorem okN_gr {g : Gr} (G : GoodGr g) : okN 3 (grD g) = true := by
  have h1 : okN 2 (.tup (g.cells.map cellD)) = true := by
    show (g.cells.map cellD).all (okN 1) = true
    rw [List.all_map]
    refine List.all_eq_true.mpr fun p hp => ?_
    show (okN 0 (.str p.1) && (okN 0 (.int (p.2 : Nat)) && true)) = true
    rw [show okN 0 (.str p.1) = true from name_str (G.c2 p hp).1]
    rfl
  have h2 : okN 2 (.tup (g.kinds.map kindD)) = true := by
    show (g.kinds.map kindD).all (okN 1) = true
    rw [List.all_map]
    refine List.all_eq_true.mpr fun p hp => ?_
    show (okN 0 (.str p.1) && (okN 0 (.int p.2) && true)) = true
    rw [show okN 0 (.str p.1) = true from name_str (G.k2 p hp).1]
    rfl
  have h3 : okN 2 (.tup (g.exits.map D.str)) = true := by
    show (g.exits.map D.str).all (okN 1) = true
    exact okN_strs (fun z hz => name_str (G.e3 z hz)) 1
  show (okN 2 (.tup (g.cells.map cellD)) && (okN 2 (.tup (g.kinds.map kindD)) && (okN 2 (.tup (g.exits.map D.str)) && true))) = true
  rw [h1, h2, h3]
  rfl
theorem MenuGr.law {g : Gr} (m : MenuGr g) : LawGr g := by
  have G := m.good
  refine ⟨G, fun st hs => ?_, okN_gr G⟩
  have hc := List.all_eq_true.mp (List.all_eq_true.mp idx_all _ m.c) st hs
  rw [Bool.and_eq_true] at hc
  exact ⟨of_decide_eq_true hc.1, of_decide_eq_true hc.2⟩
end K84
end
section
set_option Elab.async false
set_option linter.all false
set_option maxRecDepth 100000
set_option maxHeartbeats 4000000
namespace K84
open PySem PySem.Spec PyProof.Rows L2 DL
local macro_rules | `(tactic| walk_at "ev") => `(tactic| simp only [evSeq, evIfS, evRet, evRetN, evVar, evC, evBin, evUn, p2, evNil, evCons, evTup, evLst, evNew, evTest, evAndT, evOrT, evNotT, evAnd, evOr, evNot, evIte, evIteT, evTruth, evChain, evCall, evCallO, evIsi, evAsg, evDrop, evMk, mkI, mkN, evNext, tgN, tgTup, tgCons, tgNil, asB, dTruth, notRef, isiD, bLen, oLe, oLt, oGe, oGt, oSub, oInt, oAdd, oIsN, oNotN, DL.isNon,
  bind_ok, bind_bad, ofO_some, ofO_none, Option.map_some, Option.map_none, List.getElem?_cons_zero, List.getElem?_cons_succ, List.set_cons_zero, List.set_cons_succ, List.length_cons, List.length_nil, if_true, if_false, Bool.false_eq_true, Bool.not_true, Bool.not_false, decide_true, decide_false, and_self, reduceIte, *])

/-! plain: what draws -/
/-- begun with a source and J behind it, it tells something with P and leaves a source -/
def Dr {α : Type} (f : Store → R α) (J : Store) (P : α → Prop) : Prop := ∀ a b, SrcOk b → ∃ d a' b', f (src a b :: J) = .ok d (src a' b' :: J) ∧ SrcOk b' ∧ P d
/-- it tells d and draws nothing -/
def Pu {α : Type} (f : Store → R α) (d : α) : Prop := ∀ S, f S = .ok d S
def RtP (P : D → Prop) : Fl → Prop := fun fl => ∃ d, fl = .rt d ∧ P d
section
variable {J : Store} {δ : DEnv}
theorem dr_pu {α : Type} {f : Store → R α} {d : α} {P : α → Prop} (h : Pu f d) (hp : P d) : Dr f J P := fun a b hb => ⟨d, a, b, h _, hb, hp⟩
theorem dr_imp {α : Type} {f : Store → R α} {P Q : α → Prop} (h : Dr f J P) (hi : ∀ d, P d → Q d) : Dr f J Q := fun a b hb => by
  obtain ⟨d, a', b', e, h1, h2⟩ := h a b hb
  exact ⟨d, a', b', e, h1, hi d h2⟩
theorem dr_bind {α β : Type} {f : Store → R α} {g : α → Store → R β} {P : α → Prop} {Q : β → Prop} (h : Dr f J P) (h2 : ∀ d, P d → Dr (g d) J Q) : Dr (fun S => (f S).bind g) J Q := fun a b hb => by
  obtain ⟨d, a', b', e, h1, hp⟩ := h a b hb
  obtain ⟨d2, a2, b2, e2, h3, h4⟩ := h2 d hp a' b' h1
  exact ⟨d2, a2, b2, by show (f _).bind g = _; rw [e, bind_ok, e2], h3, h4⟩
theorem dr_asg {f : DEnv → Store → R D} {g : DEnv → Store → R Fl} {i : Nat} {A : D → Prop} {Q : Fl → Prop} (hf : Dr (f δ) J A) (hg : ∀ d, A d → Dr (g (δ.set i (some d))) J Q) : Dr (evSeq (evAsg f (tgN i)) g δ) J Q := fun a b hb => by
  obtain ⟨d, a', b', e, h1, hp⟩ := hf a b hb
  obtain ⟨d2, a2, b2, e2, h3, h4⟩ := hg d hp a' b' h1
  refine ⟨d2, a2, b2, ?_, h3, h4⟩
  rw [seq_nx (asg_of e rfl), e2]
theorem dr_if {c : DEnv → Store → R Bool} {f g : DEnv → Store → R Fl} {q : Bool} {P : D → Prop} (hc : Pu (c δ) q) (ht : q = true → Dr (f δ) J (RtP P)) (hf : q = false → Dr (g δ) J (RtP P)) : Dr (evSeq (evIfS c f evNext) g δ) J (RtP P) := fun a b hb => by
  cases q with
  | true =>
    obtain ⟨fl, a', b', e, h1, d, rfl, hp⟩ := ht rfl a b hb
    exact ⟨_, a', b', seq_rt ((ifs_true (hc _)).trans e), h1, d, rfl, hp⟩
  | false =>
    obtain ⟨fl, a', b', e, h1, hp⟩ := hf rfl a b hb
    refine ⟨fl, a', b', ?_, h1, hp⟩
    rw [seq_nx ((ifs_false (hc _)).trans rfl), e]
theorem dr_ret {f : DEnv → Store → R D} {P : D → Prop} (h : Dr (f δ) J P) : Dr (evRet f δ) J (RtP P) := fun a b hb => by
  obtain ⟨d, a', b', e, h1, hp⟩ := h a b hb
  exact ⟨_, a', b', ret_of e, h1, d, rfl, hp⟩
theorem dr_nil {Q : List D → Prop} (h : Q []) : Dr (evNil δ) J Q := fun a b hb => ⟨[], a, b, rfl, hb, h⟩
theorem dr_cons {f : DEnv → Store → R D} {g : DEnv → Store → R (List D)} {A : D → Prop} {Q : List D → Prop} (h1 : Dr (f δ) J A) (h2 : ∀ d, A d → Dr (g δ) J fun ds => Q (d :: ds)) : Dr (evCons f g δ) J Q := fun a b hb => by
  obtain ⟨d, a', b', e, h3, hp⟩ := h1 a b hb
  obtain ⟨ds, a2, b2, e2, h4, h5⟩ := h2 d hp a' b' h3
  refine ⟨d :: ds, a2, b2, ?_, h4, h5⟩
  show (f δ _).bind _ = _
  rw [e, bind_ok, e2, bind_ok]
theorem dr_tup {g : DEnv → Store → R (List D)} {P : D → Prop} (h : Dr (g δ) J fun ds => ds.length ≤ 1000 ∧ P (.tup ds)) : Dr (evTup g δ) J P := fun a b hb => by
  obtain ⟨ds, a', b', e, h1, h2, h3⟩ := h a b hb
  refine ⟨.tup ds, a', b', ?_, h1, h3⟩
  show (g δ _).bind _ = _
  rw [e, bind_ok, if_pos (by rw [sizeLine_eq]; omega)]
theorem dr_lst {g : DEnv → Store → R (List D)} {P : D → Prop} (h : Dr (g δ) J fun ds => ds.length ≤ 1000 ∧ P (.lst ds)) : Dr (evLst g δ) J P := fun a b hb => by
  obtain ⟨ds, a', b', e, h1, h2, h3⟩ := h a b hb
  refine ⟨.lst ds, a', b', ?_, h1, h3⟩
  show (g δ _).bind _ = _
  rw [e, bind_ok, if_pos (by rw [sizeLine_eq]; omega)]
theorem dr_call {c : List D → Store → R D} {fr : DEnv → Store → R (List D)} {A : List D → Prop} {P : D → Prop} (h : Dr (fr δ) J A) (h2 : ∀ ds, A ds → Dr (c ds) J P) : Dr (evCall c fr δ) J P := dr_bind h h2
theorem dr_bin {op : D → D → Store → Option (D × Store)} {fa fb : DEnv → Store → R D} {A B P : D → Prop} (h1 : Dr (fa δ) J A) (h2 : Dr (fb δ) J B) (h3 : ∀ a b, A a → B b → ∃ d, (∀ S, op a b S = some (d, S)) ∧ P d) : Dr (evBin op fa fb δ) J P := fun x y hb => by
  obtain ⟨d, a', b', e, h4, hp⟩ := h1 x y hb
  obtain ⟨d2, a2, b2, e2, h5, hp2⟩ := h2 a' b' h4
  obtain ⟨z, e3, hz⟩ := h3 d d2 hp hp2
  exact ⟨z, a2, b2, bin_of e e2 (e3 _), h5, hz⟩
theorem dr_ite {c : DEnv → Store → R Bool} {f g : DEnv → Store → R D} {q : Bool} {P : D → Prop} (hc : Pu (c δ) q) (ht : q = true → Dr (f δ) J P) (hf : q = false → Dr (g δ) J P) : Dr (evIte c f g δ) J P := fun a b hb => by
  have e : evIte c f g δ (src a b :: J) = if q = true then f δ (src a b :: J) else g δ (src a b :: J) := by
    show (c δ _).bind _ = _
    rw [hc, bind_ok]
  cases q with
  | true =>
    obtain ⟨d, a', b', e2, h⟩ := ht rfl a b hb
    exact ⟨d, a', b', e.trans e2, h⟩
  | false =>
    obtain ⟨d, a', b', e2, h⟩ := hf rfl a b hb
    exact ⟨d, a', b', e.trans e2, h⟩
theorem dr_fn {np nN : Nat} {body : DEnv → Store → R Fl} {ds : List D} {P : D → Prop} (hp : ∀ d, P d → pureD d = true) (h : Dr (body (startD nN ds)) J (RtP P)) (hn : ds.length = np := by rfl) : Dr (fnR .pl np nN body ds) J P := fun a b hb => by
  obtain ⟨fl, a', b', e, h1, d, rfl, h2⟩ := h a b hb
  refine ⟨d, a', b', fn_src [] (hp d h2) ?_ hn, h1, h2⟩
  rw [List.append_nil, e]
theorem dr_take {top : Int} (ht : 0 < top) (ht2 : top < 2 ^ 40) : Dr (c__law_take [.ref 0, .int top]) J fun d => ∃ i : Int, d = .int i ∧ 0 ≤ i ∧ i < top := fun a b hb => by
  obtain ⟨d, a', b', e, h1, h2, h3⟩ := law_take_ok (a := a) (J := J) hb ht ht2
  exact ⟨_, a', b', e, h3, d, rfl, h1, h2⟩
theorem dr_one {t : D} {xs : List D} (ht : t = .tup xs ∨ t = .lst xs) (hp : pureDs xs = true) (h0 : xs ≠ []) (hl : xs.length ≤ 100000) : Dr (c__law_one [.ref 0, t]) J fun d => d ∈ xs := fun a b hb => by
  obtain ⟨d, a', b', e, h1, h2⟩ := law_one_ok (a := a) (J := J) hb ht hp h0 hl
  exact ⟨d, a', b', e, h2, h1⟩
theorem dr_compGo {chk : Store → Prop} {tg : D → DEnv → Store → R DEnv} {fe : DEnv → Store → R D} {P : D → Prop} (hc : ∀ S, chk S) : ∀ items : List D, (∀ d ∈ items, ∃ δ1, Pu (tg d δ) δ1 ∧ Dr (fe δ1) J P) → Dr (compGo chk tg evYes fe δ items) J fun ys => ys.length = items.length ∧ ∀ y ∈ ys, P y
  | [], _ => fun a b hb => ⟨[], a, b, by unfold compGo; rw [if_pos (hc _)], hb, rfl, fun _ h => nomatch h⟩
  | d :: ds, h => fun a b hb => by
    obtain ⟨δ1, h1, h2⟩ := h d (List.mem_cons_self ..)
    obtain ⟨y, a', b', e, hb', hy⟩ := h2 a b hb
    obtain ⟨ys, a2, b2, e2, hb2, hl, hys⟩ := dr_compGo hc ds (fun x hx => h x (List.mem_cons_of_mem _ hx)) a' b' hb'
    refine ⟨y :: ys, a2, b2, ?_, hb2, by rw [List.length_cons, hl]; rfl, fun z hz => ?_⟩
    · unfold compGo
      rw [if_pos (hc _), h1, bind_ok]
      show (R.ok true _).bind _ = _
      rw [bind_ok, if_pos rfl, e, bind_ok, e2, bind_ok]
    · rcases List.mem_cons.mp hz with rfl | hz
      · exact hy
      · exact hys z hz
theorem dr_comp {vs : List Nat} {fi : DEnv → Store → R Itm} {tg : D → DEnv → Store → R DEnv} {fe : DEnv → Store → R D} {m : Itm} {P : D → Prop} (hi : Pu (fi δ) m) (hc : ∀ S, m.chk S) (hl : m.items.length ≤ 1000) (h : ∀ d ∈ m.items, ∃ δ1, Pu (tg d (wipeD δ vs)) δ1 ∧ Dr (fe δ1) J P) : Dr (evComp vs fi tg evYes fe δ) J fun ys => ys.length = m.items.length ∧ ∀ y ∈ ys, P y := fun a b hb => by
  obtain ⟨ys, a', b', e, h1, h2, h3⟩ := dr_compGo (J := J) (δ := wipeD δ vs) hc m.items h a b hb
  refine ⟨ys, a', b', ?_, h1, h2, h3⟩
  unfold evComp
  rw [hi, bind_ok, e]
  simp only [noX, bind_ok]
  rw [if_pos (by rw [sizeLine_eq]; omega)]
theorem dr_mkI {f : DEnv → Store → R (List D)} {Q : List D → Prop} {P : D → Prop} (h : Dr (f δ) J Q) (hp : ∀ ys, Q ys → P (.lst ys)) : Dr (evMk mkI f δ) J P := dr_bind h fun ys hy a b hb => ⟨_, a, b, rfl, hb, hp ys hy⟩
theorem dr_tuple {f : DEnv → Store → R D} {P : D → Prop} (h : Dr (f δ) J fun d => ∃ xs, d = .lst xs ∧ P (.tup xs)) : Dr (evCallO bTuple (evCons f evNil) δ) J P := fun a b hb => by
  obtain ⟨d, a', b', e, h1, xs, rfl, hp⟩ := h a b hb
  refine ⟨.tup xs, a', b', ?_, h1, hp⟩
  show (evCons f evNil δ _).bind _ = _
  rw [cons1_of e, bind_ok]
  rfl
end
end K84
end
section
set_option Elab.async false
set_option linter.all false
set_option maxRecDepth 100000
set_option maxHeartbeats 4000000
namespace K84
open PySem PySem.Spec PyProof.Rows L2 DL
local macro_rules | `(tactic| walk_at "ev") => `(tactic| simp only [evSeq, evIfS, evRet, evRetN, evVar, evC, evBin, evUn, p2, evNil, evCons, evTup, evLst, evNew, evTest, evAndT, evOrT, evNotT, evAnd, evOr, evNot, evIte, evIteT, evTruth, evChain, evCall, evCallO, evIsi, evAsg, evDrop, evMk, mkI, mkN, evNext, tgN, tgTup, tgCons, tgNil, asB, dTruth, notRef, isiD, bLen, oLe, oLt, oGe, oGt, oSub, oInt, oAdd, oIsN, oNotN, DL.isNon,
  bind_ok, bind_bad, ofO_some, ofO_none, Option.map_some, Option.map_none, List.getElem?_cons_zero, List.getElem?_cons_succ, List.set_cons_zero, List.set_cons_succ, List.length_cons, List.length_nil, if_true, if_false, Bool.false_eq_true, Bool.not_true, Bool.not_false, decide_true, decide_false, and_self, reduceIte, *])

/-! plain: the drawn ground, values, tests -/
section
variable {J : Store}
theorem pu_var {δ : DEnv} {i : Nat} {d : D} (h : δ[i]? = some (some d)) : Pu (evVar i δ) d := fun S => by
  unfold evVar
  rw [h]
theorem pu_bin {op : D → D → Store → Option (D × Store)} {fa fb : DEnv → Store → R D} {δ : DEnv} {a b d : D} (h1 : Pu (fa δ) a) (h2 : Pu (fb δ) b) (h3 : ∀ S, op a b S = some (d, S)) : Pu (evBin op fa fb δ) d := fun S => bin_of (h1 S) (h2 S) (h3 S)
theorem dr_takeE {δ : DEnv} {fs ft : DEnv → Store → R D} {top : Int} {P : D → Prop} (hs : Pu (fs δ) (.ref 0)) (hf : Pu (ft δ) (.int top)) (ht : 0 < top) (ht2 : top < 2 ^ 40) (hp : ∀ i : Int, 0 ≤ i → i < top → P (.int i)) : Dr (evCall c__law_take (evCons fs (evCons ft evNil)) δ) J P :=
  dr_call (A := fun ds => ds = [.ref 0, .int top]) (dr_cons (A := fun d => d = .ref 0) (dr_pu hs rfl) fun d h => by
    subst h
    exact dr_cons (A := fun d => d = .int top) (dr_pu hf rfl) fun d h => by
      subst h
      exact dr_nil rfl) fun ds h => by
    subst h
    exact dr_imp (dr_take ht ht2) fun d ⟨i, e, h1, h2⟩ => by
      rw [e]
      exact hp i h1 h2
theorem dr_oneP {δ : DEnv} {fs ft : DEnv → Store → R D} {P : D → Prop} (hs : Pu (fs δ) (.ref 0)) (hf : Dr (ft δ) J fun t => ∃ xs, (t = .tup xs ∨ t = .lst xs) ∧ pureDs xs = true ∧ xs ≠ [] ∧ xs.length ≤ 1000 ∧ ∀ d ∈ xs, P d) : Dr (evCall c__law_one (evCons fs (evCons ft evNil)) δ) J P :=
  dr_call (A := fun ds => ∃ t, ds = [.ref 0, t] ∧ ∃ xs, (t = .tup xs ∨ t = .lst xs) ∧ pureDs xs = true ∧ xs ≠ [] ∧ xs.length ≤ 1000 ∧ ∀ d ∈ xs, P d) (dr_cons (A := fun d => d = .ref 0) (dr_pu hs rfl) fun d h => by
    subst h
    exact dr_cons hf fun d h => dr_nil ⟨d, rfl, h⟩) fun ds ⟨t, e, xs, h1, h2, h3, h4, h5⟩ => by
    subst e
    exact dr_imp (dr_one h1 h2 h3 (by omega)) h5
theorem dr_fix {α : Type} {f : Store → R α} {d : α} (h : Pu f d) : Dr f J fun x => x = d := dr_pu h rfl
end
theorem pu_gr {g : Gr} {δ : DEnv} {i : Nat} (h : δ[i]? = some (some (grD g))) : Pu (evBin ixD (evVar i) (evC (.int 0)) δ) (.tup (g.cells.map cellD)) ∧ Pu (evBin ixD (evVar i) (evC (.int 1)) δ) (.tup (g.kinds.map kindD)) ∧ Pu (evBin ixD (evVar i) (evC (.int 2)) δ) (.tup (g.exits.map D.str)) :=
  ⟨pu_bin (pu_var h) (fun S => rfl) fun S => atI0, pu_bin (pu_var h) (fun S => rfl) fun S => atI1, pu_bin (pu_var h) (fun S => rfl) fun S => atI2⟩
def cellsOf (d : D) : Prop := ∃ c ∈ stdCells, d = .tup (c.map cellD)
def kindsOf (d : D) : Prop := ∃ ks : List (Str × Int), ks.map (·.1) ∈ kindNames ∧ (∀ x ∈ ks, 1 ≤ x.2 ∧ x.2 ≤ 99) ∧ d = .tup (ks.map kindD)
def exitsOf (d : D) : Prop := ∃ e ∈ exitMenu, d = .tup (e.map D.str)
theorem cells_draw : ∀ d ∈ [D.tup [.tup [.str "c", .int 2]], .tup [.tup [.str "c", .int 3]], .tup [.tup [.str "a", .int 2], .tup [.str "b1", .int 3]], .tup [.tup [.str "x", .int 2], .tup [.str "y", .int 2]], .tup [.tup [.str "n", .int 4]], .tup []], cellsOf d := by
  intro d h
  simp only [List.mem_cons, List.not_mem_nil, or_false] at h
  rcases h with rfl | rfl | rfl | rfl | rfl | rfl
  · exact ⟨_, by simp only [stdCells, List.mem_cons]; exact .inl rfl, rfl⟩
  · exact ⟨_, by simp only [stdCells, List.mem_cons]; exact .inr (.inl rfl), rfl⟩
  · exact ⟨_, by simp only [stdCells, List.mem_cons]; exact .inr (.inr (.inl rfl)), rfl⟩
  · exact ⟨_, by simp only [stdCells, List.mem_cons]; exact .inr (.inr (.inr (.inl rfl))), rfl⟩
  · exact ⟨_, by simp only [stdCells, List.mem_cons]; exact .inr (.inr (.inr (.inr (.inl rfl)))), rfl⟩
  · exact ⟨_, by simp only [stdCells, List.mem_cons]; exact .inr (.inr (.inr (.inr (.inr (.inl rfl))))), rfl⟩
theorem kinds_draw {p : Int} (h1 : 1 ≤ p) (h2 : p ≤ 99) : ∀ d ∈ [D.tup [.tup [.str "send", .int p]], .tup [.tup [.str "log", .int 1], .tup [.str "flush", .int p]], .tup [.tup [.str "f", .int p], .tup [.str "g2", .int p]]], kindsOf d := by
  intro d h
  simp only [List.mem_cons, List.not_mem_nil, or_false] at h
  rcases h with rfl | rfl | rfl
  · refine ⟨[("send", p)], by simp [kindNames], fun x hx => ?_, rfl⟩
    simp only [List.mem_cons, List.not_mem_nil, or_false] at hx
    subst hx
    exact ⟨h1, h2⟩
  · refine ⟨[("log", 1), ("flush", p)], by simp [kindNames], fun x hx => ?_, rfl⟩
    simp only [List.mem_cons, List.not_mem_nil, or_false] at hx
    rcases hx with rfl | rfl
    · exact ⟨of_decide_eq_true rfl, by decide⟩
    · exact ⟨h1, h2⟩
  · refine ⟨[("f", p), ("g2", p)], by simp [kindNames], fun x hx => ?_, rfl⟩
    simp only [List.mem_cons, List.not_mem_nil, or_false] at hx
    rcases hx with rfl | rfl
    · exact ⟨h1, h2⟩
    · exact ⟨h1, h2⟩
theorem exits_draw : ∀ d ∈ [D.tup [.str "done", .str "fail"], .tup [.str "ok"], .tup [.str "out", .str "err", .str "bad"]], exitsOf d := by
  intro d h
  simp only [List.mem_cons, List.not_mem_nil, or_false] at h
  rcases h with rfl | rfl | rfl
  · exact ⟨_, by simp only [exitMenu, List.mem_cons]; exact .inl rfl, rfl⟩
  · exact ⟨_, by simp only [exitMenu, List.mem_cons]; exact .inr (.inl rfl), rfl⟩
  · exact ⟨_, by simp only [exitMenu, List.mem_cons]; exact .inr (.inr (.inl rfl)), rfl⟩
theorem law_ground_ok {J : Store} : Dr (c__law_ground [.ref 0]) J fun d => ∃ g, MenuGr g ∧ g.cells ∈ stdCells ∧ d = grD g := by
  refine dr_fn (fun d ⟨g, h1, _, e⟩ => by rw [e]; exact pure_of (okN_gr h1.good)) ?_
  show Dr (b__law_ground [some (.ref 0), none, none, none]) J _
  unfold b__law_ground
  refine dr_asg (A := cellsOf) (dr_oneP (pu_var rfl) (dr_pu (fun S => rfl) ⟨_, .inr rfl, by decide +kernel, by simp, of_decide_eq_true rfl, cells_draw⟩)) fun d1 hd1 => ?_
  refine dr_asg (A := fun d => ∃ p : Int, d = .int p ∧ 1 ≤ p ∧ p ≤ 99) (dr_oneP (pu_var rfl) ?_) fun d2 hd2 => ?_
  · refine dr_lst ?_
    refine dr_cons (dr_fix fun S => rfl) fun _ e1 => dr_cons (dr_fix fun S => rfl) fun _ e2 => dr_cons (dr_fix fun S => rfl) fun _ e3 => dr_cons (dr_fix fun S => rfl) fun _ e4 => ?_
    refine dr_cons (A := fun d => ∃ p : Int, d = .int p ∧ 1 ≤ p ∧ p ≤ 99) (dr_bin (A := fun d => d = .int 1) (B := fun d => ∃ i : Int, d = .int i ∧ 0 ≤ i ∧ i < 99) (dr_fix fun S => rfl) (dr_takeE (pu_var rfl) (fun S => rfl) (by decide) (by decide) fun i h1 h2 => ⟨i, rfl, h1, h2⟩) fun a b ha hb => ?_) fun d5 e5 => dr_nil ?_
    · obtain ⟨i, rfl, h1, h2⟩ := hb
      subst ha
      exact ⟨.int (1 + i), fun S => rfl, _, rfl, by omega, by omega⟩
    · subst e1 e2 e3 e4
      obtain ⟨p, rfl, h1, h2⟩ := e5
      refine ⟨of_decide_eq_true rfl, _, .inr rfl, rfl, by simp, of_decide_eq_true rfl, fun d hd => ?_⟩
      simp only [List.mem_cons, List.not_mem_nil, or_false] at hd
      rcases hd with rfl | rfl | rfl | rfl | rfl
      · exact ⟨1, rfl, by decide, by decide⟩
      · exact ⟨1, rfl, by decide, by decide⟩
      · exact ⟨5, rfl, by decide, by decide⟩
      · exact ⟨99, rfl, by decide, by decide⟩
      · exact ⟨p, rfl, h1, h2⟩
  · obtain ⟨p, rfl, h1, h2⟩ := hd2
    refine dr_asg (A := kindsOf) (dr_oneP (pu_var rfl) (dr_pu (fun S => rfl) ⟨_, .inr rfl, rfl, by simp, of_decide_eq_true rfl, kinds_draw h1 h2⟩)) fun d3 hd3 => ?_
    refine dr_ret (dr_tup ?_)
    refine dr_cons (dr_fix (pu_var rfl)) fun _ e1 => dr_cons (dr_fix (pu_var rfl)) fun _ e3 => dr_cons (A := exitsOf) (dr_oneP (pu_var rfl) (dr_pu (fun S => rfl) ⟨_, .inr rfl, by decide +kernel, by simp, of_decide_eq_true rfl, exits_draw⟩)) fun d4 hd4 => dr_nil ?_
    subst e1 e3
    obtain ⟨c, hc, rfl⟩ := hd1
    obtain ⟨ks, hk, hk2, rfl⟩ := hd3
    obtain ⟨e, he, rfl⟩ := hd4
    exact ⟨of_decide_eq_true rfl, ⟨c, ks, e⟩, ⟨List.mem_append.mpr (.inl hc), hk, hk2, he⟩, hc, rfl⟩
end K84
end
section
set_option Elab.async false
set_option linter.all false
set_option maxRecDepth 100000
set_option maxHeartbeats 4000000
namespace K84
open PySem PySem.Spec PyProof.Rows L2 DL
local macro_rules | `(tactic| walk_at "ev") => `(tactic| simp only [evSeq, evIfS, evRet, evRetN, evVar, evC, evBin, evUn, p2, evNil, evCons, evTup, evLst, evNew, evTest, evAndT, evOrT, evNotT, evAnd, evOr, evNot, evIte, evIteT, evTruth, evChain, evCall, evCallO, evIsi, evAsg, evDrop, evMk, mkI, mkN, evNext, tgN, tgTup, tgCons, tgNil, asB, dTruth, notRef, isiD, bLen, oLe, oLt, oGe, oGt, oSub, oInt, oAdd, oIsN, oNotN, DL.isNon,
  bind_ok, bind_bad, ofO_some, ofO_none, Option.map_some, Option.map_none, List.getElem?_cons_zero, List.getElem?_cons_succ, List.set_cons_zero, List.set_cons_succ, List.length_cons, List.length_nil, if_true, if_false, Bool.false_eq_true, Bool.not_true, Bool.not_false, decide_true, decide_false, and_self, reduceIte, *])

/-! plain: drawn values, tests, rows, codes -/
section
variable {J : Store} {δ : DEnv}
theorem pu_or {fa fb : DEnv → Store → R Bool} {a b : Bool} (h1 : Pu (fa δ) a) (h2 : Pu (fb δ) b) : Pu (evOrT fa fb δ) (a || b) := fun S => by
  show (fa δ S).bind _ = _
  rw [h1, bind_ok]
  cases a with
  | true => rfl
  | false => rw [if_neg (by decide), h2]; rfl
theorem pu_and {fa fb : DEnv → Store → R Bool} {a b : Bool} (h1 : Pu (fa δ) a) (h2 : Pu (fb δ) b) : Pu (evAndT fa fb δ) (a && b) := fun S => by
  show (fa δ S).bind _ = _
  rw [h1, bind_ok]
  cases a with
  | true => rw [if_pos rfl, h2]; rfl
  | false => rfl
theorem pu_test {f : DEnv → Store → R D} {b : Bool} (h : Pu (f δ) (.bl b)) : Pu (evTest f δ) b := fun S => by
  show (f δ S).bind _ = _
  rw [h, bind_ok]
  rfl
theorem dr_asgT {f : DEnv → Store → R D} {tg : D → DEnv → Store → R DEnv} {g : DEnv → Store → R Fl} {A : D → Prop} {Q : Fl → Prop} (hf : Dr (f δ) J A) (hg : ∀ d, A d → ∃ δ1, Pu (tg d δ) δ1 ∧ Dr (g δ1) J Q) : Dr (evSeq (evAsg f tg) g δ) J Q := fun a b hb => by
  obtain ⟨d, a', b', e, h1, hp⟩ := hf a b hb
  obtain ⟨δ1, ht, hg1⟩ := hg d hp
  obtain ⟨d2, a2, b2, e2, h3, h4⟩ := hg1 a' b' h1
  refine ⟨d2, a2, b2, ?_, h3, h4⟩
  rw [seq_nx (asg_of e (ht _)), e2]
theorem dr_par2 {fr : DEnv → Store → R (List D)} {g : DEnv → Store → R Fl} {i j : Nat} {Q : Fl → Prop} (hf : Dr (fr δ) J fun ds => ∃ a b, ds = [a, b] ∧ Dr (g ((δ.set i (some a)).set j (some b))) J Q) : Dr (evSeq (evPar2 i j fr) g δ) J Q := fun a b hb => by
  obtain ⟨ds, a', b', e, h1, x, y, rfl, hg1⟩ := hf a b hb
  obtain ⟨d2, a2, b2, e2, h3, h4⟩ := hg1 a' b' h1
  refine ⟨d2, a2, b2, ?_, h3, h4⟩
  have : evPar2 i j fr δ (src a b :: J) = .ok (.nx ((δ.set i (some x)).set j (some y))) (src a' b' :: J) := by
    show (fr δ _).bind _ = _
    rw [e, bind_ok]
  rw [seq_nx this, e2]
end
theorem cells_eq {g : Gr} (G : GoodGr g) (S : Store) : oEq (.tup (g.cells.map cellD)) (.tup []) S = some (.bl g.cells.isEmpty, S) := by
  have h := okN_gr G
  have h1 : okN 2 (.tup (g.cells.map cellD)) = true := by
    have h' : (okN 2 (.tup (g.cells.map cellD)) && (okN 2 (.tup (g.kinds.map kindD)) && (okN 2 (.tup (g.exits.map D.str)) && true))) = true := h
    rw [Bool.and_eq_true] at h'
    exact h'.1
  rw [oEq_ok (okD_of h1 (by decide)) (okD_of (n := 2) (d := .tup []) rfl (by decide))]
  cases g.cells <;> rfl
theorem cells_ne {g : Gr} (G : GoodGr g) (S : Store) : oNe (.tup (g.cells.map cellD)) (.tup []) S = some (.bl (!g.cells.isEmpty), S) := by
  have h := okN_gr G
  have h1 : okN 2 (.tup (g.cells.map cellD)) = true := by
    have h' : (okN 2 (.tup (g.cells.map cellD)) && (okN 2 (.tup (g.kinds.map kindD)) && (okN 2 (.tup (g.exits.map D.str)) && true))) = true := h
    rw [Bool.and_eq_true] at h'
    exact h'.1
  rw [oNe_ok (okD_of h1 (by decide)) (okD_of (n := 2) (d := .tup []) rfl (by decide))]
  cases g.cells <;> rfl
theorem gr_parts {g : Gr} (G : GoodGr g) : pureDs (g.cells.map cellD) = true ∧ pureDs (g.kinds.map kindD) = true ∧ pureDs (g.exits.map D.str) = true := by
  have h := pure_of (okN_gr G)
  have h' : (pureDs (g.cells.map cellD) && (pureDs (g.kinds.map kindD) && (pureDs (g.exits.map D.str) && true))) = true := h
  rw [Bool.and_eq_true, Bool.and_eq_true, Bool.and_eq_true] at h'
  exact ⟨h'.1, h'.2.1, h'.2.2.1⟩
section
variable {J : Store} {δ : DEnv}
/-- a drawn cell, kind, exit -/
theorem dr_cell {g : Gr} {i : Nat} (G : GoodGr g) (h0 : δ[0]? = some (some (.ref 0))) (hi : δ[i]? = some (some (grD g))) (hne : g.cells.isEmpty = false) : Dr (evCall c__law_one (evCons (evVar 0) (evCons (evBin ixD (evVar i) (evC (.int 0))) evNil)) δ) J fun d => ∃ p ∈ g.cells, d = cellD p :=
  dr_oneP (pu_var h0) (dr_pu (pu_gr hi).1 ⟨_, .inl rfl, (gr_parts G).1, by
    intro h
    rw [List.map_eq_nil_iff] at h
    rw [h] at hne
    exact absurd hne (by decide), by rw [List.length_map]; have := G.c1; omega, fun d hd => by
      obtain ⟨p, hp, rfl⟩ := List.mem_map.mp hd
      exact ⟨p, hp, rfl⟩⟩)
theorem dr_kind {g : Gr} {i : Nat} (M : MenuGr g) (h0 : δ[0]? = some (some (.ref 0))) (hi : δ[i]? = some (some (grD g))) : Dr (evCall c__law_one (evCons (evVar 0) (evCons (evBin ixD (evVar i) (evC (.int 1))) evNil)) δ) J fun d => ∃ p ∈ g.kinds, d = kindD p :=
  dr_oneP (pu_var h0) (dr_pu (pu_gr hi).2.1 ⟨_, .inl rfl, (gr_parts M.good).2.1, by
    intro h
    rw [List.map_eq_nil_iff] at h
    have := M.kind
    rw [h] at this
    exact absurd this (by decide), by rw [List.length_map]; have := M.good.k1; omega, fun d hd => by
      obtain ⟨p, hp, rfl⟩ := List.mem_map.mp hd
      exact ⟨p, hp, rfl⟩⟩)
theorem dr_exit {g : Gr} {i : Nat} (G : GoodGr g) (h0 : δ[0]? = some (some (.ref 0))) (hi : δ[i]? = some (some (grD g))) : Dr (evCall c__law_one (evCons (evVar 0) (evCons (evBin ixD (evVar i) (evC (.int 2))) evNil)) δ) J fun d => ∃ p ∈ g.exits, d = .str p :=
  dr_oneP (pu_var h0) (dr_pu (pu_gr hi).2.2 ⟨_, .inl rfl, (gr_parts G).2.2, by
    intro h
    rw [List.map_eq_nil_iff] at h
    have := G.e1
    rw [h] at this
    exact absurd this (by decide), by rw [List.length_map]; have := G.e2; omega, fun d hd => by
      obtain ⟨p, hp, rfl⟩ := List.mem_map.mp hd
      exact ⟨p, hp, rfl⟩⟩)
theorem dr_name0 {f : DEnv → Store → R D} {α : Type} {F : α → D} {n : α → Str} {xs : List α} {P : D → Prop} (h : Dr (f δ) J fun d => ∃ p ∈ xs, d = F p) (hF : ∀ p S, ixD (F p) (.int 0) S = some (.str (n p), S)) (hp : ∀ p ∈ xs, P (.str (n p))) : Dr (evBin ixD f (evC (.int 0)) δ) J P :=
  dr_bin (B := fun b => b = .int 0) h (dr_fix fun S => rfl) fun a b ⟨p, hp1, ea⟩ eb => by
    subst ea eb
    exact ⟨_, hF p, hp p hp1⟩
end
def isVal (g : Gr) (deep : Nat) (d : D) : Prop := ∃ v, d = vlD v ∧ vlOk (cns g) v ∧ depV v ≤ deep
def isTst (g : Gr) (deep : Nat) (d : D) : Prop := ∃ t, d = tsD t ∧ tsOk (cns g) 5 t ∧ depT t ≤ deep
theorem cns_strs {g : Gr} (G : GoodGr g) : ∀ z ∈ cns g, PyData.strOk z = true := cell_strs G
theorem isVal.pure {g : Gr} {deep : Nat} {d : D} (G : GoodGr g) (h : isVal g deep d) : pureD d = true := by
  obtain ⟨v, rfl, h1, _⟩ := h
  exact pure_of (okN_vl (cns_strs G) v h1)
theorem isTst.pure {g : Gr} {deep : Nat} {d : D} (G : GoodGr g) (h : isTst g deep d) : pureD d = true := by
  obtain ⟨v, rfl, h1, _⟩ := h
  exact pure_of (okN_ts (cns_strs G) v h1)
theorem dr_num {J : Store} {δ : DEnv} (h0 : δ[0]? = some (some (.ref 0))) : Dr (evCall c__law_one (evCons (evVar 0) (evCons (evLst (evCons (evC (.int 0)) (evCons (evC (.int 1)) (evCons (evC (.int 2)) (evCons (evCall c__law_take (evCons (evVar 0) (evCons (evC (.int 100)) evNil))) evNil))))) evNil)) δ) J fun d => ∃ n : Int, d = .int n ∧ 0 ≤ n ∧ n ≤ 99 := by
  refine dr_oneP (pu_var h0) (dr_lst ?_)
  refine dr_cons (dr_fix fun S => rfl) fun _ e1 => dr_cons (dr_fix fun S => rfl) fun _ e2 => dr_cons (dr_fix fun S => rfl) fun _ e3 => ?_
  refine dr_cons (A := fun d => ∃ n : Int, d = .int n ∧ 0 ≤ n ∧ n ≤ 99) (dr_takeE (pu_var h0) (fun S => rfl) (by decide) (by decide) fun i h1 h2 => ⟨i, rfl, h1, by omega⟩) fun d4 h4 => dr_nil ?_
  obtain ⟨n, rfl, h1, h2⟩ := h4
  subst e1 e2 e3
  refine ⟨of_decide_eq_true rfl, _, .inr rfl, rfl, by simp, of_decide_eq_true rfl, fun d hd => ?_⟩
  simp only [List.mem_cons, List.not_mem_nil, or_false] at hd
  rcases hd with rfl | rfl | rfl | rfl
  · exact ⟨0, rfl, by decide, by decide⟩
  · exact ⟨1, rfl, by decide, by decide⟩
  · exact ⟨2, rfl, by decide, by decide⟩
  · exact ⟨n, rfl, h1, h2⟩
theorem dr_word {J : Store} {δ : DEnv} {fl : DEnv → Store → R D} {zs : List Str} (h0 : δ[0]? = some (some (.ref 0))) (hl : Pu (fl δ) (.lst (zs.map D.str))) (hz : zs ≠ []) (hn : zs.length ≤ 1000) : Dr (evCall c__law_one (evCons (evVar 0) (evCons fl evNil)) δ) J fun d => ∃ z ∈ zs, d = .str z :=
  dr_oneP (pu_var h0) (dr_pu hl ⟨_, .inr rfl, pures_strs zs, by simpa using hz, by rw [List.length_map]; exact hn, fun d hd => by
    obtain ⟨z, h, rfl⟩ := List.mem_map.mp hd
    exact ⟨z, h, rfl⟩⟩)
theorem law_value_ok {J : Store} {g : Gr} (M : MenuGr g) : ∀ (n deep : Nat), deep < n → deep ≤ 5 → Dr (c__law_value n [.ref 0, grD g, .int (deep : Nat)]) J (isVal g deep)
  | 0, _, h, _ => absurd h (by omega)
  | n + 1, deep, h, h5 => by
    have G := M.good
    refine dr_fn (fun d hd => hd.pure G) ?_
    show Dr (b__law_value (c__law_value n) [some (.ref 0), some (grD g), some (.int (deep : Nat)), none, none]) J _
    unfold b__law_value
    refine dr_asg (A := fun d => ∃ i : Int, d = .int i ∧ 0 ≤ i ∧ i < 6) (dr_takeE (pu_var rfl) (fun S => rfl) (by decide) (by decide) fun i h1 h2 => ⟨i, rfl, h1, h2⟩) fun d hd => ?_
    obtain ⟨i, rfl, i0, i6⟩ := hd
    show Dr (evSeq _ _ [some (.ref 0), some (grD g), some (.int (deep : Nat)), some (.int i), none]) J _
    refine dr_if (q := decide (i < 2) || g.cells.isEmpty) (pu_or (pu_test fun S => rfl) (pu_test (pu_bin (pu_gr rfl).1 (fun S => rfl) (cells_eq G)))) (fun _ => ?_) fun hq => ?_
    · refine dr_ret (dr_tup (dr_cons (dr_fix fun S => rfl) fun _ e1 => dr_cons (dr_num rfl) fun d ⟨n, e2, h1, h2⟩ => dr_nil ?_))
      subst e1 e2
      exact ⟨of_decide_eq_true rfl, .num n, rfl, ⟨h1, h2⟩, Nat.zero_le _⟩
    · rw [Bool.or_eq_false_iff] at hq
      have e0 : ((deep : Int) == 0) = decide (deep = 0) := by
        rw [Bool.eq_iff_iff]
        simp only [beq_iff_eq, decide_eq_true_eq]
        omega
      refine dr_if (q := decide (i < 4) || decide (deep = 0)) (pu_or (pu_test fun S => rfl) (pu_test (pu_bin (pu_var rfl) (fun S => rfl) fun S => iEq e0))) (fun _ => ?_) fun hq2 => ?_
      · refine dr_ret (dr_tup (dr_cons (dr_fix fun S => rfl) fun _ e1 => dr_cons (A := fun d => ∃ x ∈ cns g, d = .str x) (dr_name0 (F := cellD) (n := fun p : Str × Nat => p.1) (dr_cell G rfl rfl hq.2) (fun p S => atI0) fun p hp => ⟨p.1, List.mem_map_of_mem hp, rfl⟩) fun d ⟨x, hx, e2⟩ => dr_nil ?_))
        subst e1 e2
        exact ⟨of_decide_eq_true rfl, .cell x, rfl, hx, Nat.zero_le _⟩
      · rw [Bool.or_eq_false_iff] at hq2
        have hd0 : deep ≠ 0 := of_decide_eq_false hq2.2
        obtain ⟨m, rfl⟩ : ∃ m, deep = m + 1 := ⟨deep - 1, by omega⟩
        have em : ∀ S, oSub (.int ((m + 1 : Nat) : Int)) (.int 1) S = some (.int (m : Nat), S) := fun S => by
          show some (D.int (((m + 1 : Nat) : Int) - 1), S) = _
          rw [show ((m + 1 : Nat) : Int) - 1 = (m : Nat) by omega]
        have rec0 : ∀ x3 x4 : Option D, Dr (evCall (c__law_value n) (evCons (evVar 0) (evCons (evVar 1) (evCons (evBin oSub (evVar 2) (evC (.int 1))) evNil))) [some (.ref 0), some (grD g), some (.int ((m + 1 : Nat) : Int)), x3, x4]) J (isVal g m) := fun x3 x4 =>
          dr_call (A := fun ds => ds = [.ref 0, grD g, .int (m : Nat)]) (dr_cons (dr_fix (pu_var rfl)) fun _ e1 => dr_cons (dr_fix (pu_var rfl)) fun _ e2 => dr_cons (dr_fix (pu_bin (pu_var rfl) (fun S => rfl) em)) fun _ e3 => dr_nil (by rw [e1, e2, e3])) fun ds e => by
            rw [e]
            exact law_value_ok M n m (by omega) (by omega)
        refine dr_asg (rec0 _ _) fun d4 ⟨v, e4, h1, h2⟩ => ?_
        subst e4
        refine dr_ret (dr_tup (dr_cons (dr_word (zs := ["add", "sub", "mul"]) rfl (fun S => rfl) (by simp) (by decide)) fun _ ⟨z, hz, e1⟩ => dr_cons (dr_fix (pu_var rfl)) fun _ e2 => dr_cons (rec0 _ _) fun _ ⟨w, e3, h3, h4⟩ => dr_nil ?_))
        subst e1 e2 e3
        have ho : ∃ o : Op3, z = o.word := by
          simp only [List.mem_cons, List.not_mem_nil, or_false] at hz
          rcases hz with rfl | rfl | rfl
          · exact ⟨.add, rfl⟩
          · exact ⟨.sub, rfl⟩
          · exact ⟨.mul, rfl⟩
        obtain ⟨o, rfl⟩ := ho
        exact ⟨of_decide_eq_true rfl, .op o v w, rfl, ⟨h1, h3⟩, by show max _ _ + 1 ≤ _; omega⟩
theorem law_test_ok {J : Store} {g : Gr} (M : MenuGr g) : ∀ (n deep : Nat), deep < n → deep ≤ 5 → Dr (c__law_test n [.ref 0, grD g, .int (deep : Nat)]) J (isTst g deep)
  | 0, _, h, _ => absurd h (by omega)
  | n + 1, deep, h, h5 => by
    have G := M.good
    refine dr_fn (fun d hd => hd.pure G) ?_
    show Dr (b__law_test (c__law_test n) [some (.ref 0), some (grD g), some (.int (deep : Nat)), none, none]) J _
    unfold b__law_test
    refine dr_asg (A := fun d => ∃ i : Int, d = .int i ∧ 0 ≤ i ∧ i < 6) (dr_takeE (pu_var rfl) (fun S => rfl) (by decide) (by decide) fun i h1 h2 => ⟨i, rfl, h1, h2⟩) fun d hd => ?_
    obtain ⟨i, rfl, i0, i6⟩ := hd
    show Dr (evSeq _ _ [some (.ref 0), some (grD g), some (.int (deep : Nat)), some (.int i), none]) J _
    have e0 : ((deep : Int) == 0) = decide (deep = 0) := by
      rw [Bool.eq_iff_iff]
      simp only [beq_iff_eq, decide_eq_true_eq]
      omega
    have val0 : ∀ x2 x3 x4 : Option D, Dr (evCall (c__law_value 4) (evCons (evVar 0) (evCons (evVar 1) (evCons (evC (.int 1)) evNil))) [some (.ref 0), some (grD g), x2, x3, x4]) J (isVal g 1) := fun x2 x3 x4 =>
      dr_call (A := fun ds => ds = [.ref 0, grD g, .int ((1 : Nat) : Int)]) (dr_cons (dr_fix (pu_var rfl)) fun _ e1 => dr_cons (dr_fix (pu_var rfl)) fun _ e2 => dr_cons (dr_fix fun S => rfl) fun _ e3 => dr_nil (by rw [e1, e2, e3]; rfl)) fun ds e => by
        rw [e]
        exact law_value_ok M 4 1 (by omega) (by omega)
    refine dr_if (q := decide (i < 4) || decide (deep = 0)) (pu_or (pu_test fun S => rfl) (pu_test (pu_bin (pu_var rfl) (fun S => rfl) fun S => iEq e0))) (fun _ => ?_) fun hq => ?_
    · refine dr_asg (val0 _ _ _) fun d4 ⟨v, e4, h1, h2⟩ => ?_
      subst e4
      refine dr_ret (dr_tup (dr_cons (dr_word (zs := ["eq", "less"]) rfl (fun S => rfl) (by simp) (by decide)) fun _ ⟨z, hz, e1⟩ => dr_cons (dr_fix (pu_var rfl)) fun _ e2 => dr_cons (val0 _ _ _) fun _ ⟨w, e3, h3, h4⟩ => dr_nil ?_))
      subst e1 e2 e3
      refine ⟨of_decide_eq_true rfl, ?_⟩
      simp only [List.mem_cons, List.not_mem_nil, or_false] at hz
      rcases hz with rfl | rfl
      · exact ⟨.eq v w, rfl, ⟨⟨h1, by omega⟩, h3, by omega⟩, Nat.zero_le _⟩
      · exact ⟨.less v w, rfl, ⟨⟨h1, by omega⟩, h3, by omega⟩, Nat.zero_le _⟩
    · rw [Bool.or_eq_false_iff] at hq
      have hd0 : deep ≠ 0 := of_decide_eq_false hq.2
      obtain ⟨m, rfl⟩ : ∃ m, deep = m + 1 := ⟨deep - 1, by omega⟩
      have em : ∀ S, oSub (.int ((m + 1 : Nat) : Int)) (.int 1) S = some (.int (m : Nat), S) := fun S => by
        show some (D.int (((m + 1 : Nat) : Int) - 1), S) = _
        rw [show ((m + 1 : Nat) : Int) - 1 = (m : Nat) by omega]
      have rec0 : ∀ x3 x4 : Option D, Dr (evCall (c__law_test n) (evCons (evVar 0) (evCons (evVar 1) (evCons (evBin oSub (evVar 2) (evC (.int 1))) evNil))) [some (.ref 0), some (grD g), some (.int ((m + 1 : Nat) : Int)), x3, x4]) J (isTst g m) := fun x3 x4 =>
        dr_call (A := fun ds => ds = [.ref 0, grD g, .int (m : Nat)]) (dr_cons (dr_fix (pu_var rfl)) fun _ e1 => dr_cons (dr_fix (pu_var rfl)) fun _ e2 => dr_cons (dr_fix (pu_bin (pu_var rfl) (fun S => rfl) em)) fun _ e3 => dr_nil (by rw [e1, e2, e3])) fun ds e => by
          rw [e]
          exact law_test_ok M n m (by omega) (by omega)
      refine dr_if (q := i == 4) (pu_test (pu_bin (pu_var rfl) (fun S => rfl) fun S => iEq rfl)) (fun _ => ?_) fun _ => ?_
      · refine dr_ret (dr_tup (dr_cons (dr_fix fun S => rfl) fun _ e1 => dr_cons (rec0 _ _) fun _ ⟨t, e2, h1, h2⟩ => dr_nil ?_))
        subst e1 e2
        exact ⟨of_decide_eq_true rfl, .nt t, rfl, h1, by show depT t + 1 ≤ _; omega⟩
      · refine dr_asg (rec0 _ _) fun d4 ⟨v, e4, h1, h2⟩ => ?_
        subst e4
        refine dr_ret (dr_tup (dr_cons (dr_word (zs := ["and", "or"]) rfl (fun S => rfl) (by simp) (by decide)) fun _ ⟨z, hz, e1⟩ => dr_cons (dr_fix (pu_var rfl)) fun _ e2 => dr_cons (rec0 _ _) fun _ ⟨w, e3, h3, h4⟩ => dr_nil ?_))
        subst e1 e2 e3
        have ho : ∃ o : Bool, z = conW o := by
          simp only [List.mem_cons, List.not_mem_nil, or_false] at hz
          rcases hz with rfl | rfl
          · exact ⟨true, rfl⟩
          · exact ⟨false, rfl⟩
        obtain ⟨o, rfl⟩ := ho
        exact ⟨of_decide_eq_true rfl, .con o v w, rfl, ⟨h1, h3⟩, by show max _ _ + 1 ≤ _; omega⟩
end K84
end
section
set_option Elab.async false
set_option linter.all false
set_option maxRecDepth 100000
set_option maxHeartbeats 4000000
namespace K84
open PySem PySem.Spec PyProof.Rows L2 DL
local macro_rules | `(tactic| walk_at "ev") => `(tactic| simp only [evSeq, evIfS, evRet, evRetN, evVar, evC, evBin, evUn, p2, evNil, evCons, evTup, evLst, evNew, evTest, evAndT, evOrT, evNotT, evAnd, evOr, evNot, evIte, evIteT, evTruth, evChain, evCall, evCallO, evIsi, evAsg, evDrop, evMk, mkI, mkN, evNext, tgN, tgTup, tgCons, tgNil, asB, dTruth, notRef, isiD, bLen, oLe, oLt, oGe, oGt, oSub, oInt, oAdd, oIsN, oNotN, DL.isNon,
  bind_ok, bind_bad, ofO_some, ofO_none, Option.map_some, Option.map_none, List.getElem?_cons_zero, List.getElem?_cons_succ, List.set_cons_zero, List.set_cons_succ, List.length_cons, List.length_nil, if_true, if_false, Bool.false_eq_true, Bool.not_true, Bool.not_false, decide_true, decide_false, and_self, reduceIte, *])

/-! plain: drawn rows and codes -/
theorem nodup_fst : ∀ {xs : List (Str × Nat)}, (xs.map (·.1)).Nodup → ∀ p ∈ xs, ∀ q ∈ xs, p.1 = q.1 → p = q
  | [], _, _, h, _, _, _ => nomatch h
  | x :: xs, hn, p, hp, q, hq, e => by
    rw [List.map_cons, List.nodup_cons] at hn
    rcases List.mem_cons.mp hp with h | hp2
    · subst h
      rcases List.mem_cons.mp hq with h | hq
      · exact h.symm
      · exact absurd (by rw [e]; exact List.mem_map_of_mem hq) hn.1
    · rcases List.mem_cons.mp hq with h | hq
      · subst h
        exact absurd (by rw [← e]; exact List.mem_map_of_mem hp2) hn.1
      · exact nodup_fst hn.2 p hp2 q hq e
theorem plc_get {zs : List Str} {x : Str} (h : x ∈ zs) : zs[plc zs x]? = some x := by
  have hl := plc_lt h
  rw [List.getElem?_eq_getElem hl]
  have := List.findIdx_getElem (p := (· == x)) (xs := zs) (w := hl)
  exact congrArg some (eq_of_beq this)
theorem sz_mem {g : Gr} (G : GoodGr g) {p : Str × Nat} (hp : p ∈ g.cells) : szOf g p.1 = p.2 := by
  have hx : p.1 ∈ cns g := List.mem_map_of_mem hp
  obtain ⟨q, h1, h2⟩ := cell_at hx
  have hq : q ∈ g.cells := List.mem_of_getElem? h1
  have e : q.1 = p.1 := by
    have h3 := plc_get hx
    rw [show cns g = g.cells.map (·.1) from rfl, List.getElem?_map, show g.cells.map (·.1) = cns g from rfl, h1] at h3
    exact Option.some.inj h3
  have hn : (g.cells.map (·.1)).Nodup := (List.nodup_append.mp G.nd).1
  rw [h2, nodup_fst hn q hq p hp e]
theorem nats_of {many : Int} : ∀ {ys : List D}, (∀ y ∈ ys, ∃ i : Int, y = .int i ∧ 0 ≤ i ∧ i < many) → ∃ rs : List Nat, ys = rs.map natD ∧ ∀ r ∈ rs, (r : Int) < many
  | [], _ => ⟨[], rfl, fun _ h => nomatch h⟩
  | y :: ys, h => by
    obtain ⟨rs, e, h2⟩ := nats_of fun z hz => h z (List.mem_cons_of_mem _ hz)
    obtain ⟨i, rfl, h3, h4⟩ := h y (List.mem_cons_self ..)
    refine ⟨i.toNat :: rs, ?_, fun r hr => ?_⟩
    · rw [e, List.map_cons]
      show _ = D.int ((i.toNat : Nat) : Int) :: _
      rw [Int.toNat_of_nonneg h3]
    · rcases List.mem_cons.mp hr with rfl | hr
      · rw [Int.toNat_of_nonneg h3]; exact h4
      · exact h2 r hr
def isRow (g : Gr) (many : Nat) (d : D) : Prop := ∃ r, d = rowD r ∧ rowOk g many r
theorem isRow.pure {g : Gr} {many : Nat} {d : D} (G : GoodGr g) (h : isRow g many d) : pureD d = true := by
  obtain ⟨r, rfl, h1⟩ := h
  exact pure_of (okN_rw G r h1)
theorem law_code_row_ok {J : Store} {g : Gr} {many : Nat} (M : MenuGr g) (h1 : 1 ≤ many) (h2 : many ≤ 1000) : Dr (c__law_code_row [.ref 0, grD g, natD many]) J (isRow g many) := by
  have G := M.good
  refine dr_fn (fun d hd => hd.pure G) ?_
  show Dr (b__law_code_row [some (.ref 0), some (grD g), some (natD many), none, none, none, none, none]) J _
  unfold b__law_code_row
  have big : (many : Int) < 2 ^ 40 := by
    have : (2 : Int) ^ 40 = 1099511627776 := by decide
    omega
  have val0 : ∀ x2 x3 x4 x5 x6 x7 : Option D, Dr (evCall (c__law_value 4) (evCons (evVar 0) (evCons (evVar 1) (evCons (evC (.int 1)) evNil))) [some (.ref 0), some (grD g), x2, x3, x4, x5, x6, x7]) J (isVal g 1) := fun x2 x3 x4 x5 x6 x7 =>
    dr_call (A := fun ds => ds = [.ref 0, grD g, .int ((1 : Nat) : Int)]) (dr_cons (dr_fix (pu_var rfl)) fun _ e1 => dr_cons (dr_fix (pu_var rfl)) fun _ e2 => dr_cons (dr_fix fun S => rfl) fun _ e3 => dr_nil (by rw [e1, e2, e3]; rfl)) fun ds e => by
      rw [e]
      exact law_value_ok M 4 1 (by omega) (by omega)
  have tst0 : ∀ x2 x3 x4 x5 x6 x7 : Option D, Dr (evCall (c__law_test 4) (evCons (evVar 0) (evCons (evVar 1) (evCons (evC (.int 1)) evNil))) [some (.ref 0), some (grD g), x2, x3, x4, x5, x6, x7]) J (isTst g 1) := fun x2 x3 x4 x5 x6 x7 =>
    dr_call (A := fun ds => ds = [.ref 0, grD g, .int ((1 : Nat) : Int)]) (dr_cons (dr_fix (pu_var rfl)) fun _ e1 => dr_cons (dr_fix (pu_var rfl)) fun _ e2 => dr_cons (dr_fix fun S => rfl) fun _ e3 => dr_nil (by rw [e1, e2, e3]; rfl)) fun ds e => by
      rw [e]
      exact law_test_ok M 4 1 (by omega) (by omega)
  refine dr_par2 (dr_cons (A := fun d => ∃ i : Int, d = .int i ∧ 0 ≤ i ∧ i < 8) (dr_takeE (pu_var rfl) (fun S => rfl) (by decide) (by decide) fun i a b => ⟨i, rfl, a, b⟩) fun d1 hd1 => dr_cons (A := fun d => ∃ t : Nat, d = natD t ∧ t < many) (dr_takeE (top := (many : Int)) (pu_var rfl) (pu_var rfl) (by omega) big fun i a b => ⟨i.toNat, by show D.int i = D.int ((i.toNat : Nat) : Int); rw [Int.toNat_of_nonneg a], by omega⟩) fun d2 hd2 => dr_nil ⟨d1, d2, rfl, ?_⟩)
  obtain ⟨i, rfl, i0, i8⟩ := hd1
  obtain ⟨t, rfl, ht⟩ := hd2
  show Dr (evSeq _ _ [some (.ref 0), some (grD g), some (natD many), some (.int i), some (natD t), none, none, none]) J _
  refine dr_if (q := decide (i < 2) && !g.cells.isEmpty) (pu_and (pu_test fun S => rfl) (pu_test (pu_bin (pu_gr rfl).1 (fun S => rfl) (cells_ne G)))) (fun hq => ?_) fun _ => ?_
  · rw [Bool.and_eq_true, Bool.not_eq_true'] at hq
    refine dr_ret (dr_tup (dr_cons (dr_fix fun S => rfl) fun _ e1 => dr_cons (A := fun d => ∃ x ∈ cns g, d = .str x) (dr_name0 (F := cellD) (n := fun p : Str × Nat => p.1) (dr_cell G rfl rfl hq.2) (fun p S => atI0) fun p hp => ⟨p.1, List.mem_map_of_mem hp, rfl⟩) fun d ⟨x, hx, e2⟩ => dr_cons (val0 _ _ _ _ _ _) fun _ ⟨v, e3, v1, v2⟩ => dr_nil ?_))
    subst e1 e2 e3
    exact ⟨of_decide_eq_true rfl, .set x v, rfl, hx, v1, by omega⟩
  refine dr_if (q := decide (i < 4)) (pu_test fun S => rfl) (fun hq => ?_) fun _ => ?_
  · refine dr_ret (dr_tup (dr_cons (dr_fix fun S => rfl) fun _ e1 => dr_cons (A := fun d => ∃ x ∈ kns g, d = .str x) (dr_name0 (F := kindD) (n := fun p : Str × Int => p.1) (dr_kind M rfl rfl) (fun p S => atI0) fun p hp => ⟨p.1, List.mem_map_of_mem hp, rfl⟩) fun d ⟨x, hx, e2⟩ => dr_cons (A := fun d => ∃ n : Int, d = .int n ∧ 1 ≤ n ∧ n ≤ 99) (dr_bin (A := fun d => d = .int 1) (B := fun d => ∃ i : Int, d = .int i ∧ 0 ≤ i ∧ i < 30) (dr_fix fun S => rfl) (dr_takeE (pu_var rfl) (fun S => rfl) (by decide) (by decide) fun i h1 h2 => ⟨i, rfl, h1, h2⟩) fun a b ha hb => ?_) fun _ ⟨n, e3, v1, v2⟩ => dr_nil ?_))
    · obtain ⟨i, rfl, h1, h2⟩ := hb
      subst ha
      exact ⟨.int (1 + i), fun S => rfl, _, rfl, by omega, by omega⟩
    · subst e1 e2 e3
      exact ⟨of_decide_eq_true rfl, .deed x n, rfl, hx, v1, v2⟩
  refine dr_if (q := i == 4) (pu_test (pu_bin (pu_var rfl) (fun S => rfl) fun S => iEq rfl)) (fun hq => ?_) fun _ => ?_
  · refine dr_ret (dr_tup (dr_cons (dr_fix fun S => rfl) fun _ e1 => dr_cons (tst0 _ _ _ _ _ _) fun _ ⟨v, e2, v1, v2⟩ => dr_cons (dr_fix (pu_var rfl)) fun _ e3 => dr_nil ?_))
    subst e1 e2 e3
    exact ⟨of_decide_eq_true rfl, .branch v t, rfl, v1, by omega, ht⟩
  refine dr_if (q := (i == 5) && !g.cells.isEmpty) (pu_and (pu_test (pu_bin (pu_var rfl) (fun S => rfl) fun S => iEq rfl)) (pu_test (pu_bin (pu_gr rfl).1 (fun S => rfl) (cells_ne G)))) (fun hq => ?_) fun _ => ?_
  · rw [Bool.and_eq_true, Bool.not_eq_true'] at hq
    refine dr_asgT (dr_cell G rfl rfl hq.2) fun d ⟨p, hp, e⟩ => ?_
    subst e
    refine ⟨[some (.ref 0), some (grD g), some (natD many), some (.int i), some (natD t), some (.str p.1), some (natD p.2), none], fun S => rfl, ?_⟩
    refine dr_ret (dr_tup (dr_cons (dr_fix fun S => rfl) fun _ e1 => dr_cons (dr_fix (pu_var rfl)) fun _ e2 => dr_cons (A := fun d => ∃ rs : List Nat, d = .tup (rs.map natD) ∧ rs.length = p.2 ∧ ∀ r ∈ rs, r < many) (dr_tuple (dr_mkI (dr_comp (P := fun y => ∃ i : Int, y = .int i ∧ 0 ≤ i ∧ i < (many : Int)) (m := ⟨rangeD 0 p.2, fun _ => True⟩) (fun S => range_small (G.c2 p hp).2.2 rfl) (fun _ => trivial) (by show (rangeD 0 p.2).length ≤ _; rw [rangeD_len]; have := (G.c2 p hp).2.2; omega) fun d hd => ⟨[some (.ref 0), some (grD g), some (natD many), some (.int i), some (natD t), some (.str p.1), some (natD p.2), some d], fun S => rfl, dr_takeE (top := (many : Int)) (pu_var rfl) (pu_var rfl) (by omega) big fun i a b => ⟨i, rfl, a, b⟩⟩) fun ys ⟨hl, hy⟩ => ⟨ys, rfl, ?_⟩)) fun d ⟨rs, e3, hl, hr⟩ => dr_nil ?_))
    · obtain ⟨rs, e, hr⟩ := nats_of hy
      refine ⟨rs, by rw [e], ?_, fun r h => by have := hr r h; omega⟩
      have : ys.length = p.2 := hl.trans (rangeD_len _)
      rw [e, List.length_map] at this
      exact this
    · subst e1 e2 e3
      exact ⟨of_decide_eq_true rfl, .switch p.1 rs, rfl, List.mem_map_of_mem hp, by rw [hl, sz_mem G hp], hr⟩
  · refine dr_ret (dr_ite (q := i == 6) (pu_test (pu_bin (pu_var rfl) (fun S => rfl) fun S => iEq rfl)) (fun _ => ?_) fun _ => ?_)
    · refine dr_tup (dr_cons (dr_fix fun S => rfl) fun _ e1 => dr_cons (dr_exit G rfl rfl) fun _ ⟨e, he, e2⟩ => dr_nil ?_)
      subst e1 e2
      exact ⟨of_decide_eq_true rfl, .exit e, rfl, he⟩
    · refine dr_tup (dr_cons (dr_fix fun S => rfl) fun _ e1 => dr_cons (dr_fix (pu_var rfl)) fun _ e2 => dr_nil ?_)
      subst e1 e2
      exact ⟨of_decide_eq_true rfl, .jump t, rfl, ht⟩
theorem rows_of_all {g : Gr} {many : Nat} : ∀ {ys : List D}, (∀ y ∈ ys, isRow g many y) → ∃ rs : List Rw, ys = rs.map rowD ∧ ∀ r ∈ rs, rowOk g many r
  | [], _ => ⟨[], rfl, fun _ h => nomatch h⟩
  | y :: ys, h => by
    obtain ⟨rs, e, h2⟩ := rows_of_all fun z hz => h z (List.mem_cons_of_mem _ hz)
    obtain ⟨r, rfl, h3⟩ := h y (List.mem_cons_self ..)
    refine ⟨r :: rs, by rw [e]; rfl, fun q hq => ?_⟩
    rcases List.mem_cons.mp hq with rfl | hq
    · exact h3
    · exact h2 q hq
theorem law_code_ok {J : Store} {g : Gr} (M : MenuGr g) : Dr (c__law_code [.ref 0, grD g]) J fun d => ∃ rows, d = codeD rows ∧ GoodCode g rows ∧ rows.length ≤ 9 := by
  have G := M.good
  refine dr_fn (fun d ⟨rows, e, C, _⟩ => by rw [e]; exact pure_of (okN_code G C)) ?_
  show Dr (b__law_code [some (.ref 0), some (grD g), none, none, none]) J _
  unfold b__law_code
  refine dr_asg (A := fun d => ∃ n : Nat, d = natD n ∧ 2 ≤ n ∧ n ≤ 9) (dr_bin (A := fun d => d = .int 2) (B := fun d => ∃ i : Int, d = .int i ∧ 0 ≤ i ∧ i < 8) (dr_fix fun S => rfl) (dr_takeE (pu_var rfl) (fun S => rfl) (by decide) (by decide) fun i h1 h2 => ⟨i, rfl, h1, h2⟩) fun a b ha hb => ?_) fun d ⟨many, e, m2, m9⟩ => ?_
  · obtain ⟨i, rfl, h1, h2⟩ := hb
    subst ha
    exact ⟨.int (2 + i), fun S => rfl, (2 + i).toNat, by show _ = D.int (((2 + i).toNat : Nat) : Int); rw [Int.toNat_of_nonneg (by omega)], by omega, by omega⟩
  subst e
  have big : (many : Int) < 2 ^ 40 := by
    have : (2 : Int) ^ 40 = 1099511627776 := by decide
    omega
  have em : ∀ S, oSub (natD many) (.int 1) S = some (natD (many - 1), S) := fun S => by
    show some (D.int ((many : Int) - 1), S) = some (D.int ((many - 1 : Nat) : Int), S)
    rw [show (many : Int) - 1 = ((many - 1 : Nat) : Int) by omega]
  show Dr (evSeq _ _ [some (.ref 0), some (grD g), some (natD many), none, none]) J _
  refine dr_asg (A := fun d => ∃ rs : List Rw, d = .lst (rs.map rowD) ∧ rs.length = many - 1 ∧ ∀ r ∈ rs, rowOk g many r) (dr_mkI (dr_comp (P := isRow g many) (m := ⟨rangeD 0 (many - 1), fun _ => True⟩) (fun S => range_small (by omega) ?_) (fun _ => trivial) (by show (rangeD 0 _).length ≤ _; rw [rangeD_len]; omega) fun d hd => ⟨[some (.ref 0), some (grD g), some (natD many), none, some d], fun S => rfl, dr_call (A := fun ds => ds = [.ref 0, grD g, natD many]) (dr_cons (dr_fix (pu_var rfl)) fun _ e1 => dr_cons (dr_fix (pu_var rfl)) fun _ e2 => dr_cons (dr_fix (pu_var rfl)) fun _ e3 => dr_nil (by rw [e1, e2, e3])) fun ds e => by
      rw [e]
      exact law_code_row_ok M (by omega) (by omega)⟩) fun ys ⟨hl, hy⟩ => ?_) fun d ⟨rs, e, hl, hr⟩ => ?_
  · exact cons1_of (bin_of (pu_var (i := 2) (δ := [some (.ref 0), some (grD g), some (natD many), none, none]) rfl S) rfl (em S))
  · obtain ⟨rs, e, hr⟩ := rows_of_all hy
    refine ⟨rs, by rw [e], ?_, hr⟩
    have : ys.length = many - 1 := hl.trans (rangeD_len _)
    rw [e, List.length_map] at this
    exact this
  subst e
  obtain ⟨e0, he0⟩ : ∃ e0, g.exits[0]? = some e0 := by
    cases h : g.exits with
    | nil => have := G.e1; rw [h] at this; exact absurd this (by decide)
    | cons e0 es => exact ⟨e0, rfl⟩
  have hpe : Pu (evBin ixD (evBin ixD (evVar 1) (evC (.int 2))) (evC (.int 0)) [some (.ref 0), some (grD g), some (natD many), some (.lst (rs.map rowD)), none]) (.str e0) := pu_bin (pu_gr rfl).2.2 (fun S => rfl) fun S => ix_tup (i := 0) (by rw [List.getElem?_map, he0]; rfl)
  have hem : e0 ∈ g.exits := List.mem_of_getElem? he0
  refine dr_ret (dr_tuple (dr_bin (A := fun d => d = .lst (rs.map rowD)) (B := fun d => ∃ r : Rw, d = .lst [rowD r] ∧ endOk r = true ∧ rowOk g many r) (dr_fix (pu_var rfl)) (dr_lst (dr_cons (A := fun d => ∃ r : Rw, d = rowD r ∧ endOk r = true ∧ rowOk g many r) (dr_oneP (pu_var rfl) (dr_lst ?_)) fun d ⟨r, e, h1, h2⟩ => dr_nil ⟨of_decide_eq_true rfl, r, by rw [e], h1, h2⟩)) fun a b ha hb => ?_))
  · refine dr_cons (dr_tup (P := fun d => d = rowD (.exit e0)) (dr_cons (dr_fix fun S => rfl) fun _ e1 => dr_cons (dr_fix hpe) fun _ e2 => dr_nil ⟨of_decide_eq_true rfl, by rw [e1, e2]; rfl⟩)) fun d1 h1 => dr_cons (dr_tup (P := fun d => ∃ t, d = rowD (.jump t) ∧ t < many) (dr_cons (dr_fix fun S => rfl) fun _ e1 => dr_cons (A := fun d => ∃ t : Nat, d = natD t ∧ t < many) (dr_takeE (top := (many : Int)) (pu_var rfl) (pu_var rfl) (by omega) big fun i a b => ⟨i.toNat, by show D.int i = D.int ((i.toNat : Nat) : Int); rw [Int.toNat_of_nonneg a], by omega⟩) fun _ ⟨t, e2, ht⟩ => dr_nil ⟨of_decide_eq_true rfl, t, by rw [e1, e2]; rfl, ht⟩)) fun d2 h2 => dr_nil ?_
    obtain ⟨t, e2, ht⟩ := h2
    subst h1 e2
    refine ⟨of_decide_eq_true rfl, _, .inr rfl, rfl, by simp, of_decide_eq_true rfl, fun d hd => ?_⟩
    simp only [List.mem_cons, List.not_mem_nil, or_false] at hd
    rcases hd with rfl | rfl
    · exact ⟨_, rfl, rfl, hem⟩
    · exact ⟨_, rfl, rfl, ht⟩
  · obtain ⟨r, rfl, h1, h2⟩ := hb
    subst ha
    have hlen : (rs ++ [r]).length = many := by rw [List.length_append, hl]; show many - 1 + 1 = many; omega
    refine ⟨.lst ((rs ++ [r]).map rowD), fun S => ?_, _, rfl, rs ++ [r], rfl, ⟨by omega, by omega, fun q hq => ?_, rs, r, rfl, h1⟩, by omega⟩
    · rw [List.map_append]
      show (if (rs.map rowD).length + [rowD r].length ≤ sizeLine then some (D.lst (rs.map rowD ++ [rowD r]), S) else none) = _
      exact if_pos (by rw [sizeLine_eq, List.length_map, hl]; show many - 1 + 1 ≤ _; omega)
    · rw [hlen]
      rcases List.mem_append.mp hq with hq | hq
      · exact hr q hq
      · rcases List.mem_singleton.mp hq with rfl
        exact h2
end K84
end
section
set_option Elab.async false
set_option linter.all false
set_option maxRecDepth 100000
set_option maxHeartbeats 4000000
namespace K84
open PySem PySem.Spec PyProof.Rows L2 DL
local macro_rules | `(tactic| walk_at "ev") => `(tactic| simp only [evSeq, evIfS, evRet, evRetN, evVar, evC, evBin, evUn, p2, evNil, evCons, evTup, evLst, evNew, evTest, evAndT, evOrT, evNotT, evAnd, evOr, evNot, evIte, evIteT, evTruth, evChain, evCall, evCallO, evIsi, evAsg, evDrop, evMk, mkI, mkN, evNext, tgN, tgTup, tgCons, tgNil, asB, dTruth, notRef, isiD, bLen, oLe, oLt, oGe, oGt, oSub, oInt, oAdd, oIsN, oNotN, DL.isNon,
  bind_ok, bind_bad, ofO_some, ofO_none, Option.map_some, Option.map_none, List.getElem?_cons_zero, List.getElem?_cons_succ, List.set_cons_zero, List.set_cons_succ, List.length_cons, List.length_nil, if_true, if_false, Bool.false_eq_true, Bool.not_true, Bool.not_false, decide_true, decide_false, and_self, reduceIte, *])

/-! plain: the source of a script -/
theorem bits_wide {z : Int} (h : Builtin.Int.intBits z ≤ 1048576) : z.natAbs.log2 ≤ 1048576 := by
  unfold Builtin.Int.intBits at h
  by_cases h0 : z = 0
  · subst h0; decide
  · rw [if_neg (by simpa using h0)] at h
    omega
theorem log2_mono {a b : Nat} (h : a ≤ b) : a.log2 ≤ b.log2 := by
  by_cases h0 : a = 0
  · subst h0; exact Nat.zero_le _
  · have hb : b ≠ 0 := by omega
    rw [Nat.le_log2 hb]
    exact Nat.le_trans (Nat.log2_self_le h0) h
theorem wide_one {i : Int} {q : Bool} {S : Store} (h : i.natAbs.log2 ≤ 1048576) : oMul (.int i) (.int (if q then 1 else 0)) S = some (.int (i * (if q then 1 else 0)), S) := by
  have hw : wideOk i (if q then 1 else 0) = true := by
    unfold wideOk
    refine decide_eq_true ?_
    have : ((if q then (1 : Int) else 0).natAbs).log2 = 0 := by cases q <;> rfl
    rw [this]
    omega
  show (if wideOk i _ = true then _ else none) = _
  exact if_pos hw
noncomputable def poolT : DEnv → Store → R Fl :=
    (evSeq (evAsg (evCallO bMax (evCons (evCallO bInt (evCons (evVar 2) evNil)) (evCons (evCallO bInt (evCons (evBin oSub (evUn dNeg (evC (.int 1))) (evVar 2)) evNil)) evNil))) (tgN 3))
    (evSeq (evAsg (evBin oMod (evCallO bInt (evCons (evBin oMul (evBin oAdd (evBin oAdd (evBin oAdd (evBin oMod (evCallO bInt (evCons (evVar 3) evNil)) (evC (.int 2147483629))) (evBin oMul (evBin oMul (evC (.int 7919)) (evVar 1)) (evVar 1))) (evBin oMul (evC (.int 31)) (evVar 1))) (evC (.int 17))) (evC (.int 48271))) evNil)) (evC (.int 2147483647))) (tgN 4))
    (evRet (evNew (evCons (evBin oMul (evVar 3) (evCallO bInt (evCons (evAnd (evBin oGe (evVar 3) (evBin oPow (evC (.int 10)) (evC (.int 18)))) (evBin oLt (evVar 1) (evCallO bLen (evCons (evVar 0) evNil)))) evNil))) (evCons (evVar 4) evNil))))))
theorem pool_tail {L : D} {n : Nat} {z : Int} (hl : bLen [L] [] = some (.int (n : Nat), [])) (hz : z.natAbs.log2 ≤ 1048576) : ∃ a b, SrcOk b ∧ poolT [some L, some (.int 0), some (.int z), none, none] [] = .ok (.rt (.ref 0)) [src a b] := by
  have e1 : evCallO bMax (evCons (evCallO bInt (evCons (evVar 2) evNil)) (evCons (evCallO bInt (evCons (evBin oSub (evUn dNeg (evC (.int 1))) (evVar 2)) evNil)) evNil)) [some L, some (.int 0), some (.int z), none, none] [] = .ok (.int (if -1 - z > z then -1 - z else z)) [] := rfl
  have hbig : (if -1 - z > z then -1 - z else z).natAbs.log2 ≤ 1048576 := by
    refine Nat.le_trans (log2_mono ?_) hz
    split <;> omega
  generalize (if -1 - z > z then -1 - z else z) = big at e1 hbig
  have m0 : oMod (.int big) (.int 2147483629) [] = some (.int (big % 2147483629), []) := mod_pos (by decide)
  have g0 : 0 ≤ big % 2147483629 := Int.emod_nonneg _ (by decide)
  have g1 : big % 2147483629 < 2147483629 := Int.emod_lt_of_pos _ (by decide)
  generalize big % 2147483629 = r at m0 g0 g1
  have m1 : oMul (.int (r + 7919 * 0 * 0 + 31 * 0 + 17)) (.int 48271) [] = some (.int ((r + 7919 * 0 * 0 + 31 * 0 + 17) * 48271), []) := mul_small (Nat.lt_of_lt_of_le (show (r + 7919 * 0 * 0 + 31 * 0 + 17).natAbs < 2 ^ 32 by omega) (Nat.pow_le_pow_right (by decide) (by decide))) (Nat.lt_of_lt_of_le (show (48271 : Int).natAbs < 2 ^ 31 by decide) (Nat.pow_le_pow_right (by decide) (by decide)))
  have m2 : oMod (.int ((r + 7919 * 0 * 0 + 31 * 0 + 17) * 48271)) (.int 2147483647) [] = some (.int ((r + 7919 * 0 * 0 + 31 * 0 + 17) * 48271 % 2147483647), []) := mod_pos (by decide)
  have e2 : evBin oMod (evCallO bInt (evCons (evBin oMul (evBin oAdd (evBin oAdd (evBin oAdd (evBin oMod (evCallO bInt (evCons (evVar 3) evNil)) (evC (.int 2147483629))) (evBin oMul (evBin oMul (evC (.int 7919)) (evVar 1)) (evVar 1))) (evBin oMul (evC (.int 31)) (evVar 1))) (evC (.int 17))) (evC (.int 48271))) evNil)) (evC (.int 2147483647)) [some L, some (.int 0), some (.int z), some (.int big), none] [] = .ok (.int ((r + 7919 * 0 * 0 + 31 * 0 + 17) * 48271 % 2147483647)) [] := by
    refine bin_of (a := .int ((r + 7919 * 0 * 0 + 31 * 0 + 17) * 48271)) (S1 := []) ?_ rfl m2
    have i1 : evBin oMod (evCallO bInt (evCons (evVar 3) evNil)) (evC (.int 2147483629)) [some L, some (.int 0), some (.int z), some (.int big), none] [] = .ok (.int r) [] := bin_of (a := .int big) (b := .int 2147483629) (S1 := []) (S2 := []) rfl rfl m0
    have n1 : evBin oMul (evC (.int 7919)) (evVar 1) [some L, some (.int 0), some (.int z), some (.int big), none] [] = .ok (.int (7919 * 0)) [] := bin_of (a := .int 7919) (b := .int 0) (S1 := []) (S2 := []) rfl rfl rfl
    have n2 : evBin oMul (evBin oMul (evC (.int 7919)) (evVar 1)) (evVar 1) [some L, some (.int 0), some (.int z), some (.int big), none] [] = .ok (.int (7919 * 0 * 0)) [] := bin_of (b := .int 0) (S2 := []) n1 rfl rfl
    have n3 : evBin oMul (evC (.int 31)) (evVar 1) [some L, some (.int 0), some (.int z), some (.int big), none] [] = .ok (.int (31 * 0)) [] := bin_of (a := .int 31) (b := .int 0) (S1 := []) (S2 := []) rfl rfl rfl
    have i2 := bin_of (op := oAdd) (d := .int (r + 7919 * 0 * 0)) (S3 := []) i1 n2 rfl
    have i3 := bin_of (op := oAdd) (d := .int (r + 7919 * 0 * 0 + 31 * 0)) (S3 := []) i2 n3 rfl
    have i4 := bin_of (op := oAdd) (fb := evC (.int 17)) (b := .int 17) (S2 := []) (d := .int (r + 7919 * 0 * 0 + 31 * 0 + 17)) (S3 := []) i3 rfl rfl
    have i5 := bin_of (op := oMul) (fb := evC (.int 48271)) (b := .int 48271) (S2 := []) (S3 := []) i4 rfl m1
    show (evCons _ evNil _ _).bind _ = _
    rw [cons1_of i5, bind_ok]
    rfl
  have g2 : 0 ≤ (r + 7919 * 0 * 0 + 31 * 0 + 17) * 48271 % 2147483647 := Int.emod_nonneg _ (by decide)
  have g3 : (r + 7919 * 0 * 0 + 31 * 0 + 17) * 48271 % 2147483647 < 2147483647 := Int.emod_lt_of_pos _ (by decide)
  generalize (r + 7919 * 0 * 0 + 31 * 0 + 17) * 48271 % 2147483647 = mx at e2 g2 g3
  have hp : evBin oPow (evC (.int 10)) (evC (.int 18)) [some L, some (.int 0), some (.int z), some (.int big), some (.int mx)] [] = .ok (.int (10 ^ 18)) [] := bin_of (a := .int 10) (b := .int 18) (S1 := []) (S2 := []) rfl rfl rfl
  have hg : evBin oGe (evVar 3) (evBin oPow (evC (.int 10)) (evC (.int 18))) [some L, some (.int 0), some (.int z), some (.int big), some (.int mx)] [] = .ok (.bl (decide ((10 : Int) ^ 18 ≤ big))) [] := bin_of (a := .int big) (S1 := []) rfl hp rfl
  have hc : evBin oLt (evVar 1) (evCallO bLen (evCons (evVar 0) evNil)) [some L, some (.int 0), some (.int z), some (.int big), some (.int mx)] [] = .ok (.bl (decide ((0 : Int) < (n : Nat)))) [] := by
    refine bin_of (a := .int 0) (b := .int (n : Nat)) (S1 := []) (S2 := []) rfl ?_ rfl
    show ofO (bLen [L] []) = _
    rw [hl]; rfl
  obtain ⟨q, ha⟩ : ∃ q : Bool, evAnd (evBin oGe (evVar 3) (evBin oPow (evC (.int 10)) (evC (.int 18)))) (evBin oLt (evVar 1) (evCallO bLen (evCons (evVar 0) evNil))) [some L, some (.int 0), some (.int z), some (.int big), some (.int mx)] [] = .ok (.bl q) [] := by
    cases hq : decide ((10 : Int) ^ 18 ≤ big) with
    | true =>
      rw [hq] at hg
      refine ⟨decide ((0 : Int) < (n : Nat)), ?_⟩
      unfold evAnd
      rw [hg, bind_ok]
      exact hc
    | false =>
      rw [hq] at hg
      refine ⟨false, ?_⟩
      unfold evAnd
      rw [hg, bind_ok]
  have hi : evCallO bInt (evCons (evAnd (evBin oGe (evVar 3) (evBin oPow (evC (.int 10)) (evC (.int 18)))) (evBin oLt (evVar 1) (evCallO bLen (evCons (evVar 0) evNil)))) evNil) [some L, some (.int 0), some (.int z), some (.int big), some (.int mx)] [] = .ok (.int (if q then 1 else 0)) [] := by
    show (evCons _ evNil _ _).bind _ = _
    rw [cons1_of ha, bind_ok]
    rfl
  have hm := bin_of (op := oMul) (fa := evVar 3) (a := .int big) (S1 := []) (δ := [some L, some (.int 0), some (.int z), some (.int big), some (.int mx)]) (S := []) rfl hi (wide_one (q := q) hbig)
  refine ⟨big * (if q then 1 else 0), mx, ⟨g2, g3⟩, ?_⟩
  unfold poolT
  rw [seq_nx (asg_of e1 rfl)]
  show evSeq _ _ [some L, some (.int 0), some (.int z), some (.int big), none] [] = _
  rw [seq_nx (asg_of e2 rfl)]
  show evRet _ [some L, some (.int 0), some (.int z), some (.int big), some (.int mx)] [] = _
  refine ret_of ?_
  unfold evNew
  have hx : evCons (evBin oMul (evVar 3) (evCallO bInt (evCons (evAnd (evBin oGe (evVar 3) (evBin oPow (evC (.int 10)) (evC (.int 18)))) (evBin oLt (evVar 1) (evCallO bLen (evCons (evVar 0) evNil)))) evNil))) (evCons (evVar 4) evNil) [some L, some (.int 0), some (.int z), some (.int big), some (.int mx)] [] = .ok [.int (big * (if q then 1 else 0)), .int mx] [] := by
    show (R.bind (evBin oMul _ _ _ _) _ : R (List D)) = _
    rw [hm, bind_ok]
    rfl
  rw [hx, bind_ok]
  rfl
theorem law_pool_ok {ns : List Int} (hb : ∀ z ∈ ns, Builtin.Int.intBits z ≤ 1048576) : ∃ a b, SrcOk b ∧ c__law_pool [.lst (ns.map D.int), .int 0] [] = .ok (.ref 0) [src a b] := by
  have hl : bLen [D.lst (ns.map D.int)] [] = some (.int (ns.length : Nat), []) := by
    show some (D.int ((ns.map D.int).length : Nat), _) = _
    rw [List.length_map]
  have key : ∃ a b, SrcOk b ∧ b__law_pool [some (.lst (ns.map D.int)), some (.int 0), none, none, none] [] = .ok (.rt (.ref 0)) [src a b] := by
    cases ns with
    | nil =>
      obtain ⟨a, b, h1, h2⟩ := pool_tail (z := 0) hl (by decide)
      refine ⟨a, b, h1, ?_⟩
      rw [← h2]
      rfl
    | cons z ns =>
      obtain ⟨a, b, h1, h2⟩ := pool_tail (z := z) hl (bits_wide (hb z (List.mem_cons_self ..)))
      refine ⟨a, b, h1, ?_⟩
      rw [← h2]
      have hc : evTest (evBin oLt (evVar 1) (evCallO bLen (evCons (evVar 0) evNil))) [some (.lst ((z :: ns).map D.int)), some (.int 0), some (.int 0), none, none] [] = .ok true [] := by
        have : decide ((0 : Int) < ((z :: ns).length : Nat)) = true := decide_eq_true (by rw [List.length_cons]; omega)
        show (evBin oLt (evVar 1) (evCallO bLen (evCons (evVar 0) evNil)) _ _).bind _ = _
        have hx : evBin oLt (evVar 1) (evCallO bLen (evCons (evVar 0) evNil)) [some (.lst ((z :: ns).map D.int)), some (.int 0), some (.int 0), none, none] [] = .ok (.bl (decide ((0 : Int) < ((z :: ns).length : Nat)))) [] := by
          refine bin_of (a := .int 0) (b := .int ((z :: ns).length : Nat)) (S1 := []) (S2 := []) rfl ?_ rfl
          show ofO (bLen [D.lst ((z :: ns).map D.int)] []) = _
          rw [hl]; rfl
        rw [hx, this]
        rfl
      have hs : evAsg (evBin ixD (evVar 0) (evVar 1)) (tgN 2) [some (.lst ((z :: ns).map D.int)), some (.int 0), some (.int 0), none, none] [] = .ok (.nx [some (.lst ((z :: ns).map D.int)), some (.int 0), some (.int z), none, none]) [] :=
        asg_of (bin_of (a := .lst ((z :: ns).map D.int)) (b := .int 0) (S1 := []) (S2 := []) rfl rfl (ix_lst (i := 0) rfl)) rfl
      unfold b__law_pool
      rw [seq_nx (δ1 := [some (.lst ((z :: ns).map D.int)), some (.int 0), some (.int 0), none, none]) (S1 := []) rfl, seq_nx ((ifs_true hc).trans hs)]
      rfl
  obtain ⟨a, b, h1, h2⟩ := key
  refine ⟨a, b, h1, ?_⟩
  show fnR .nw 2 5 b__law_pool _ [] = _
  unfold fnR
  rw [if_pos (show [D.lst (ns.map D.int), D.int 0].length = 2 from rfl)]
  show gcR .nw [] ((b__law_pool [some (.lst (ns.map D.int)), some (.int 0), none, none, none] []).bind _) = _
  rw [h2, bind_ok]
  show gcV [] (D.ref 0) [src a b] .nw = _
  have hg : 0 ≤ 0 ∧ gcOk [] (.lst [.int a, .int b]) [src a b] := ⟨Nat.le_refl _, rfl, fun n m hn => absurd hn (Nat.not_lt_zero _)⟩
  unfold gcV
  exact (if_pos hg).trans rfl
end K84
end
section
set_option Elab.async false
set_option linter.all false
set_option maxRecDepth 100000
set_option maxHeartbeats 4000000
namespace K84
open PySem PySem.Spec PyProof.Rows L2 DL
local macro_rules | `(tactic| walk_at "ev") => `(tactic| simp only [evSeq, evIfS, evRet, evRetN, evVar, evC, evBin, evUn, p2, evNil, evCons, evTup, evLst, evNew, evTest, evAndT, evOrT, evNotT, evAnd, evOr, evNot, evIte, evIteT, evTruth, evChain, evCall, evCallO, evIsi, evAsg, evDrop, evMk, mkI, mkN, evNext, tgN, tgTup, tgCons, tgNil, asB, dTruth, notRef, isiD, bLen, oLe, oLt, oGe, oGt, oSub, oInt, oAdd, oIsN, oNotN, DL.isNon,
  bind_ok, bind_bad, ofO_some, ofO_none, Option.map_some, Option.map_none, List.getElem?_cons_zero, List.getElem?_cons_succ, List.set_cons_zero, List.set_cons_succ, List.length_cons, List.length_nil, if_true, if_false, Bool.false_eq_true, Bool.not_true, Bool.not_false, decide_true, decide_false, and_self, reduceIte, *])

/-! plain: what is refused -/
theorem cons_of {f : DEnv → Store → R D} {g : DEnv → Store → R (List D)} {δ : DEnv} {S S1 S2 : Store} {d : D} {ds : List D} (h : f δ S = .ok d S1) (h2 : g δ S1 = .ok ds S2) : evCons f g δ S = .ok (d :: ds) S2 := by
  show (f δ S).bind _ = _
  rw [h, bind_ok, h2, bind_ok]
theorem tup_of {g : DEnv → Store → R (List D)} {δ : DEnv} {S S1 : Store} {ds : List D} (h : g δ S = .ok ds S1) (hl : ds.length ≤ 100000) : evTup g δ S = .ok (.tup ds) S1 := by
  show (g δ S).bind _ = _
  rw [h, bind_ok, if_pos (by rw [sizeLine_eq]; omega)]
theorem lst_of {g : DEnv → Store → R (List D)} {δ : DEnv} {S S1 : Store} {ds : List D} (h : g δ S = .ok ds S1) (hl : ds.length ≤ 100000) : evLst g δ S = .ok (.lst ds) S1 := by
  show (g δ S).bind _ = _
  rw [h, bind_ok, if_pos (by rw [sizeLine_eq]; omega)]
theorem new_of {g : DEnv → Store → R (List D)} {δ : DEnv} {S S1 : Store} {ds : List D} (h : g δ S = .ok ds S1) (hl : ds.length ≤ 100000) : evNew g δ S = .ok (.ref S1.length) (S1 ++ [.lst ds]) := by
  show (g δ S).bind _ = _
  rw [h, bind_ok, if_pos (by rw [sizeLine_eq]; omega)]
theorem seq_exc {f g : DEnv → Store → R Fl} {δ : DEnv} {c : Str} {d : D} {S S1 : Store} (h : f δ S = .exc c d S1) : evSeq f g δ S = .exc c d S1 := by
  unfold evSeq
  rw [h, bind_exc]
theorem fn_exc {np nN : Nat} {body : DEnv → Store → R Fl} {ds : List D} {S : Store} {c : Str} {d : D} (hd : pureD d = true) (h : body (startD nN ds) S = .exc c d S) (hn : ds.length = np := by rfl) : fnR .pl np nN body ds S = .exc c d S := by
  unfold fnR
  rw [if_pos hn, h, bind_exc]
  show gcR .pl S (.exc c d S) = _
  unfold gcR
  refine (if_pos (gcOk_self (cl_pure d hd))).trans ?_
  rw [List.take_length]
theorem not_truth {f : DEnv → Store → R D} {δ : DEnv} {S S1 : Store} {b : Bool} (h : f δ S = .ok (.bl b) S1) : evNotT (evTruth f) δ S = .ok (!b) S1 := by
  show ((f δ S).bind _).bind _ = _
  rw [h]
  rfl
theorem made_code_bad {g : Gr} {S : Store} {d : D} (h : c_is_code [grD g, d] S = .ok (.bl false) S) : c_made_code [grD g, d] S = .exc "BadCode" (.int (-1)) S := by
  refine fn_exc rfl ?_
  show b_made_code [some (grD g), some d] S = _
  unfold b_made_code
  refine seq_exc ?_
  rw [ifs_true (not_truth (b := false) (call_of (ds := [grD g, d]) rfl h))]
  rfl
theorem want_state_bad {g : Gr} {S : Store} {d : D} (h : c_is_state [grD g, d] S = .ok (.bl false) S) : c_want_state [grD g, d] S = .exc "BadState" (.int 0) S := by
  refine fn_exc rfl ?_
  show b_want_state [some (grD g), some d] S = _
  unfold b_want_state
  rw [ifs_true (not_truth (b := false) (call_of (ds := [grD g, d]) rfl h))]
  rfl
theorem call_exc {c : List D → Store → R D} {fr : DEnv → Store → R (List D)} {δ : DEnv} {S S1 S2 : Store} {ds : List D} {x : Str} {d : D} (h : fr δ S = .ok ds S1) (h2 : c ds S1 = .exc x d S2) : evCall c fr δ S = .exc x d S2 := by
  unfold evCall
  rw [h, bind_ok, h2]
theorem run_code_bad {g : Gr} {S : Store} {d t : D} (G : GoodGr g) (h : c_is_code [grD g, d] S = .ok (.bl false) S) : c_run_code [grD g, d, t] S = .exc "BadCode" (.int (-1)) S := by
  refine fn_exc rfl ?_
  show b_run_code [some (grD g), some d, some t] S = _
  unfold b_run_code
  rw [seq_nx (asg_of (call_of (ds := [grD g]) rfl (made_ground_ok G (pure_of (okN_gr G)))) rfl)]
  refine seq_exc ?_
  unfold evAsg
  rw [call_exc (ds := [grD g, d]) (S1 := S) rfl (made_code_bad h), bind_exc]
theorem run_code_odd {g : Gr} {S : Store} {rows : List Rw} {t : D} (G : GoodGr g) (C : GoodCode g rows) (h : c_is_state [grD g, t] S = .ok (.bl false) S) : c_run_code [grD g, codeD rows, t] S = .exc "BadState" (.int 0) S := by
  refine fn_exc rfl ?_
  show b_run_code [some (grD g), some (codeD rows), some t] S = _
  unfold b_run_code
  rw [seq_nx (asg_of (call_of (ds := [grD g]) rfl (made_ground_ok G (pure_of (okN_gr G)))) rfl)]
  show evSeq _ _ [some (grD g), some (codeD rows), some t] S = _
  rw [seq_nx (asg_of (call_of (ds := [grD g, codeD rows]) rfl (made_code_ok G C (pure_of (okN_code G C)))) rfl)]
  show evSeq _ _ [some (grD g), some (codeD rows), some t] S = _
  refine seq_exc ?_
  unfold evDrop
  rw [call_exc (ds := [grD g, t]) (S1 := S) rfl (want_state_bad h), bind_exc]
theorem drop_exc {f : DEnv → Store → R D} {δ : DEnv} {S S1 : Store} {x : Str} {d : D} (h : f δ S = .exc x d S1) : evDrop f δ S = .exc x d S1 := by
  unfold evDrop
  rw [h, bind_exc]
theorem refusal_code {g : Gr} {S : Store} {d t : D} (G : GoodGr g) (hS : S.all noEM = true) (h : c_is_code [grD g, d] S = .ok (.bl false) S) : c__law_refusal [grD g, d, t] S = .ok (.tup [.str "code", .int (-1)]) S := by
  refine fn_rt rfl ?_
  show b__law_refusal [some (grD g), some d, some t, none] S = _
  unfold b__law_refusal
  refine seq_rt ?_
  have e1 : evDrop (evCall c_run_code (evCons (evVar 0) (evCons (evVar 1) (evCons (evVar 2) evNil)))) [some (grD g), some d, some t, none] S = .exc "BadCode" (.int (-1)) S := drop_exc (call_exc (ds := [grD g, d, t]) rfl (run_code_bad G h))
  unfold evTry
  rw [e1]
  have s1 : subT xtab "BadCode" "BadCode" = some true := by decide +kernel
  have s2 : subT xtab "BadCode" "BadState" = some false := by decide +kernel
  simp only [evHds, s1]
  unfold evHd
  rw [if_pos ⟨rfl, hS⟩]
  have e2 : (evRet (evTup (evCons (evIte (evTruth (evIsE xtab "BadState" (evVar 3))) (evC (.str "other")) (evC (.str "code"))) (evCons (evWhat (evVar 3)) evNil)))) ((List.replicate 4 none).set 3 (some (.exn "BadCode" (.int (-1))))) S = .ok (.rt (.tup [.str "code", .int (-1)])) S := by
    show evRet _ [none, none, none, some (.exn "BadCode" (.int (-1)))] S = _
    refine ret_of ?_
    have e3 : evIsE xtab "BadState" (evVar 3) [none, none, none, some (.exn "BadCode" (.int (-1)))] S = .ok (.bl false) S := by
      show ofO ((subT xtab "BadCode" "BadState").map fun b => (D.bl b, S)) = _
      rw [s2]
      rfl
    have e4 : evIte (evTruth (evIsE xtab "BadState" (evVar 3))) (evC (.str "other")) (evC (.str "code")) [none, none, none, some (.exn "BadCode" (.int (-1)))] S = .ok (.str "code") S := by
      show ((R.bind _ _).bind _) = _
      rw [e3]
      rfl
    show (R.bind (R.bind _ _) _) = _
    rw [e4]
    rfl
  rw [e2]
  exact if_pos ⟨rfl, hS⟩
theorem refusal_state {g : Gr} {S : Store} {rows : List Rw} {t : D} (G : GoodGr g) (C : GoodCode g rows) (hS : S.all noEM = true) (h : c_is_state [grD g, t] S = .ok (.bl false) S) : c__law_refusal [grD g, codeD rows, t] S = .ok (.tup [.str "state", .int 0]) S := by
  refine fn_rt rfl ?_
  show b__law_refusal [some (grD g), some (codeD rows), some t, none] S = _
  unfold b__law_refusal
  refine seq_rt ?_
  have e1 : evDrop (evCall c_run_code (evCons (evVar 0) (evCons (evVar 1) (evCons (evVar 2) evNil)))) [some (grD g), some (codeD rows), some t, none] S = .exc "BadState" (.int 0) S := drop_exc (call_exc (ds := [grD g, codeD rows, t]) rfl (run_code_odd G C h))
  unfold evTry
  rw [e1]
  have s1 : subT xtab "BadState" "BadCode" = some false := by decide +kernel
  have s2 : subT xtab "BadState" "BadState" = some true := by decide +kernel
  simp only [evHds, s1, s2]
  unfold evHd
  rw [if_pos ⟨rfl, hS⟩]
  have e2 : (evRet (evTup (evCons (evC (.str "state")) (evCons (evWhat (evVar 3)) evNil)))) ((List.replicate 4 none).set 3 (some (.exn "BadState" (.int 0)))) S = .ok (.rt (.tup [.str "state", .int 0])) S := rfl
  rw [e2]
  exact if_pos ⟨rfl, hS⟩
end K84
end
section
set_option Elab.async false
set_option linter.all false
set_option maxRecDepth 100000
set_option maxHeartbeats 4000000
namespace K84
open PySem PySem.Spec PyProof.Rows L2 DL
local macro_rules | `(tactic| walk_at "ev") => `(tactic| simp only [evSeq, evIfS, evRet, evRetN, evVar, evC, evBin, evUn, p2, evNil, evCons, evTup, evLst, evNew, evTest, evAndT, evOrT, evNotT, evAnd, evOr, evNot, evIte, evIteT, evTruth, evChain, evCall, evCallO, evIsi, evAsg, evDrop, evMk, mkI, mkN, evNext, tgN, tgTup, tgCons, tgNil, asB, dTruth, notRef, isiD, bLen, oLe, oLt, oGe, oGt, oSub, oInt, oAdd, oIsN, oNotN, DL.isNon,
  bind_ok, bind_bad, ofO_some, ofO_none, Option.map_some, Option.map_none, List.getElem?_cons_zero, List.getElem?_cons_succ, List.set_cons_zero, List.set_cons_succ, List.length_cons, List.length_nil, if_true, if_false, Bool.false_eq_true, Bool.not_true, Bool.not_false, decide_true, decide_false, and_self, reduceIte, *])

/-! plain: what is no state -/
def zs0 (k : Nat) : List D := List.replicate k (D.int 0)
theorem flat_zs : ∀ k : Nat, (List.replicate k [D.int 0]).flatten = zs0 k
  | 0 => rfl
  | k + 1 => by
    rw [List.replicate_succ, List.flatten_cons, flat_zs k]
    rfl
theorem mul_zs {k : Nat} {S : Store} (h : k ≤ 1000) : oMul (.tup [.int 0]) (natD k) S = some (.tup (zs0 k), S) := by
  show (if [D.int 0] ≠ [] ∧ ((k : Nat) : Int) ≤ 1000 ∧ [D.int 0].length ≤ 1000 ∧ (-1000 : Int) ≤ ((k : Nat) : Int) then some (D.tup (List.replicate ((k : Nat) : Int).toNat [D.int 0]).flatten, S) else none) = _
  rw [if_pos ⟨by simp, by omega, by decide, by omega⟩, Int.toNat_natCast, flat_zs]
def oddT (n k : Nat) (x : D) : D := .tup (zs0 k ++ [x] ++ zs0 (n - k - 1))
/-- no state, and a thing that may be handed on -/
def Odd (g : Gr) (d : D) : Prop := pureD d = true ∧ ∀ S, c_is_state [grD g, d] S = .ok (.bl false) S
theorem pures_app : ∀ (a b : List D), pureDs a = true → pureDs b = true → pureDs (a ++ b) = true
  | [], b, _, h => h
  | x :: a, b, h, hb => by
    have h' : (pureD x && pureDs a) = true := h
    rw [Bool.and_eq_true] at h'
    show (pureD x && pureDs (a ++ b)) = true
    rw [h'.1, pures_app a b h'.2 hb]
    rfl
theorem pures_zs : ∀ k, pureDs (zs0 k) = true
  | 0 => rfl
  | k + 1 => pures_zs k
theorem notRef_pure {d : D} (h : pureD d = true) : notRef d = true := by
  cases d <;> first | rfl | (simp [pureD] at h; done)
theorem odd_tup {g : Gr} (G : GoodGr g) {k : Nat} {p : Str × Nat} {x : D} (hk : g.cells[k]? = some p) (hx : pureD x = true) (hv : valOk (x, p) = false) : Odd g (oddT g.cells.length k x) := by
  have hl : k < g.cells.length := (List.getElem?_eq_some_iff.mp hk).1
  have hp : pureDs (zs0 k ++ [x] ++ zs0 (g.cells.length - k - 1)) = true := pures_app _ _ (pures_app _ _ (pures_zs k) (by show (pureD x && true) = true; rw [hx]; rfl)) (pures_zs _)
  refine ⟨hp, fun S => ?_⟩
  have hlen : (zs0 k ++ [x] ++ zs0 (g.cells.length - k - 1)).length = g.cells.length := by
    unfold zs0
    simp only [List.length_append, List.length_replicate, List.length_cons, List.length_nil]
    omega
  have := is_state_tup (S := S) (ds := zs0 k ++ [x] ++ zs0 (g.cells.length - k - 1)) G (fun d hd => notRef_pure (pures_mem hp hd)) (by rw [hlen]; have := G.c1; omega)
  have hz : ((zs0 k ++ [x] ++ zs0 (g.cells.length - k - 1)).zip g.cells).all valOk = false := by
    rw [List.all_eq_false]
    refine ⟨(x, p), List.mem_of_getElem? (i := k) ?_, by rw [hv]; decide⟩
    rw [List.getElem?_zip_eq_some]
    refine ⟨?_, hk⟩
    rw [List.append_assoc, List.getElem?_append_right (by unfold zs0; rw [List.length_replicate]; exact Nat.le_refl _)]
    unfold zs0
    rw [List.length_replicate, Nat.sub_self]
    rfl
  rw [hz, Bool.and_false] at this
  exact this
theorem odd_no {g : Gr} {d : D} (h : pureD d = true) (ht : isiD .tuple d = false) : Odd g d := ⟨h, fun S => is_state_odd (notRef_pure h) ht⟩
theorem odd_long {g : Gr} (G : GoodGr g) : Odd g (.tup (zs0 (g.cells.length + 1))) := by
  have hp := pures_zs (g.cells.length + 1)
  refine ⟨hp, fun S => ?_⟩
  have hl : (zs0 (g.cells.length + 1)).length = g.cells.length + 1 := List.length_replicate
  have := is_state_tup (S := S) (ds := zs0 (g.cells.length + 1)) G (fun d hd => notRef_pure (pures_mem hp hd)) (by rw [hl]; have := G.c1; omega)
  rw [hl, decide_eq_false (by omega), Bool.false_and] at this
  exact this
noncomputable def oddB : DEnv → Store → R Fl := (evDrop (evMeth mExtend (evVar 3) (evCons (evMk mkI (evComp [5] (itSeq (evLst (evCons (evBin ixD (evVar 1) (evVar 4)) (evCons (evUn dNeg (evC (.int 1))) (evCons (evC (.str "0")) evNil))))) (tgN 5) evYes (evBin oAdd (evBin oAdd (evBin oMul (evTup (evCons (evC (.int 0)) evNil)) (evVar 4)) (evTup (evCons (evVar 5) evNil))) (evBin oMul (evTup (evCons (evC (.int 0)) evNil)) (evBin oSub (evBin oSub (evCallO bLen (evCons (evVar 1) evNil)) (evVar 4)) (evC (.int 1))))))) evNil)))
def oddAt (g : Gr) (k : Nat) : List D := ([natD (((g.cells[k]?).map (·.2)).getD 0), .int (-1), .str "0"] : List D).map (oddT g.cells.length k)
theorem odd_step {g : Gr} {S : Store} {acc : List D} {k : Nat} {x2 x5 : Option D} (G : GoodGr g) (hk : k < g.cells.length) (hl : acc.length ≤ 1000) :
    oddB [some (grD g), some (.lst (g.cells.map fun p => natD p.2)), x2, some (.ref S.length), some (natD k), x5] (S ++ [M.lst acc]) = .ok (.nx [some (grD g), some (.lst (g.cells.map fun p => natD p.2)), x2, some (.ref S.length), some (natD k), x5]) (S ++ [M.lst (acc ++ oddAt g k)]) := by
  obtain ⟨p, hp⟩ : ∃ p, g.cells[k]? = some p := ⟨_, List.getElem?_eq_getElem hk⟩
  have c4 := G.c1
  have ix : ∀ T : Store, ixD (.lst (g.cells.map fun p => natD p.2)) (natD k) T = some (natD p.2, T) := fun T => ix_lst (i := k) (by rw [List.getElem?_map, hp]; rfl)
  have hc : evComp [5] (itSeq (evLst (evCons (evBin ixD (evVar 1) (evVar 4)) (evCons (evUn dNeg (evC (.int 1))) (evCons (evC (.str "0")) evNil))))) (tgN 5) evYes (evBin oAdd (evBin oAdd (evBin oMul (evTup (evCons (evC (.int 0)) evNil)) (evVar 4)) (evTup (evCons (evVar 5) evNil))) (evBin oMul (evTup (evCons (evC (.int 0)) evNil)) (evBin oSub (evBin oSub (evCallO bLen (evCons (evVar 1) evNil)) (evVar 4)) (evC (.int 1))))) [some (grD g), some (.lst (g.cells.map fun p => natD p.2)), x2, some (.ref S.length), some (natD k), x5] (S ++ [M.lst acc]) = .ok (oddAt g k) (S ++ [M.lst acc]) := by
    have e0 : oddAt g k = ([natD p.2, .int (-1), .str "0"] : List D).map (oddT g.cells.length k) := by
      unfold oddAt
      rw [hp]
      rfl
    rw [e0]
    refine comp_all (m := ⟨[natD p.2, .int (-1), .str "0"], fun _ => True⟩) (fun x => x) (oddT g.cells.length k) ?_ (List.map_id' _).symm trivial (fun x hx => ?_) (by rw [sizeLine_eq]; exact of_decide_eq_true rfl)
    · have e1 : evBin ixD (evVar 1) (evVar 4) [some (grD g), some (.lst (g.cells.map fun p => natD p.2)), x2, some (.ref S.length), some (natD k), x5] (S ++ [M.lst acc]) = .ok (natD p.2) (S ++ [M.lst acc]) := bin_of (a := .lst (g.cells.map fun p => natD p.2)) (b := natD k) (S1 := S ++ [M.lst acc]) (S2 := S ++ [M.lst acc]) rfl rfl (ix _)
      unfold itSeq evLst evCons
      rw [e1]
      rfl
    · refine ⟨[some (grD g), some (.lst (g.cells.map fun p => natD p.2)), x2, some (.ref S.length), some (natD k), some x], rfl, ?_⟩
      have t0 : evTup (evCons (evC (.int 0)) evNil) [some (grD g), some (.lst (g.cells.map fun p => natD p.2)), x2, some (.ref S.length), some (natD k), some x] (S ++ [M.lst acc]) = .ok (.tup [.int 0]) (S ++ [M.lst acc]) := rfl
      have a1 := bin_of (op := oMul) (fb := evVar 4) (b := natD k) (S2 := S ++ [M.lst acc]) t0 rfl (mul_zs (k := k) (by omega))
      have a2 := bin_of (op := oAdd) (fb := evTup (evCons (evVar 5) evNil)) (b := .tup [x]) (S2 := S ++ [M.lst acc]) a1 rfl (add_tup _ _ _ (by rw [sizeLine_eq]; unfold zs0; rw [List.length_replicate]; show k + 1 ≤ _; omega))
      have b1 : evBin oSub (evBin oSub (evCallO bLen (evCons (evVar 1) evNil)) (evVar 4)) (evC (.int 1)) [some (grD g), some (.lst (g.cells.map fun p => natD p.2)), x2, some (.ref S.length), some (natD k), some x] (S ++ [M.lst acc]) = .ok (natD (g.cells.length - k - 1)) (S ++ [M.lst acc]) := by
        have : ((g.cells.map fun p => natD p.2).length : Int) - (k : Nat) - 1 = ((g.cells.length - k - 1 : Nat) : Int) := by
          rw [List.length_map]
          omega
        show R.ok (D.int (((g.cells.map fun p => natD p.2).length : Int) - (k : Nat) - 1)) _ = _
        rw [this]
        rfl
      have a3 := bin_of (op := oMul) t0 b1 (mul_zs (k := g.cells.length - k - 1) (by omega))
      exact bin_of (op := oAdd) a2 a3 (add_tup _ _ _ (by rw [sizeLine_eq]; unfold zs0; simp only [List.length_append, List.length_replicate, List.length_cons, List.length_nil]; omega))
  have e2 := ext_last (S := S) (xs := acc) (ys := oddAt g k) (by rw [sizeLine_eq]; unfold oddAt; simp only [List.length_map, List.length_cons, List.length_nil]; omega)
  have e3 : (lstOf (S ++ [M.lst acc]) (.ref S.length)).isSome = true := by
    unfold lstOf
    simp only
    rw [get_last]
    rfl
  unfold oddB evMeth
  have e4 := lc_of hc
  clear hc ix
  generalize evMk mkI (evComp [5] (itSeq (evLst (evCons (evBin ixD (evVar 1) (evVar 4)) (evCons (evUn dNeg (evC (.int 1))) (evCons (evC (.str "0")) evNil))))) (tgN 5) evYes (evBin oAdd (evBin oAdd (evBin oMul (evTup (evCons (evC (.int 0)) evNil)) (evVar 4)) (evTup (evCons (evVar 5) evNil))) (evBin oMul (evTup (evCons (evC (.int 0)) evNil)) (evBin oSub (evBin oSub (evCallO bLen (evCons (evVar 1) evNil)) (evVar 4)) (evC (.int 1)))))) = X at e4 ⊢
  clear hp hl G hk c4
  walk_at "ev"
theorem oddAt_odd {g : Gr} (G : GoodGr g) {k : Nat} (hk : k < g.cells.length) : ∀ d ∈ oddAt g k, Odd g d := by
  obtain ⟨p, hp⟩ : ∃ p, g.cells[k]? = some p := ⟨_, List.getElem?_eq_getElem hk⟩
  intro d hd
  unfold oddAt at hd
  rw [hp] at hd
  simp only [Option.map_some, Option.getD_some, List.map_cons, List.map_nil, List.mem_cons, List.not_mem_nil, or_false] at hd
  rcases hd with rfl | rfl | rfl
  · refine odd_tup G hp rfl ?_
    show (decide (0 ≤ ((p.2 : Nat) : Int)) && decide (((p.2 : Nat) : Int) < (p.2 : Nat))) = false
    rw [decide_eq_false (Int.lt_irrefl _), Bool.and_false]
  · exact odd_tup G hp rfl rfl
  · exact odd_tup G hp rfl rfl
theorem odd_loop {g : Gr} {S : Store} (G : GoodGr g) {chk : Store → Prop} (hc : ∀ S, chk S) : ∀ (ks : List Nat) (acc : List D) (x2 x4 x5 : Option D), (∀ k ∈ ks, k < g.cells.length) → acc.length + 3 * ks.length ≤ 1000 → (∀ d ∈ acc, Odd g d) →
    ∃ acc' x4', forGo chk (tgN 4) oddB (ks.map natD) [some (grD g), some (.lst (g.cells.map fun p => natD p.2)), x2, some (.ref S.length), x4, x5] (S ++ [M.lst acc]) = .ok (.nx [some (grD g), some (.lst (g.cells.map fun p => natD p.2)), x2, some (.ref S.length), x4', x5]) (S ++ [M.lst acc']) ∧ (∀ d ∈ acc', Odd g d) ∧ acc.length ≤ acc'.length ∧ acc'.length ≤ 1000
  | [], acc, x2, x4, x5, _, hl, ho => ⟨acc, x4, forGo_nil (hc _), ho, Nat.le_refl _, by omega⟩
  | k :: ks, acc, x2, x4, x5, hk, hl, ho => by
    rw [List.length_cons] at hl
    have l3 : (oddAt g k).length = 3 := rfl
    obtain ⟨acc', x4', e, h1, h2, h3⟩ := odd_loop G hc ks (acc ++ oddAt g k) x2 (some (natD k)) x5 (fun j hj => hk j (List.mem_cons_of_mem _ hj)) (by rw [List.length_append, l3]; omega) (fun d hd => by
      rcases List.mem_append.mp hd with hd | hd
      · exact ho d hd
      · exact oddAt_odd G (hk k (List.mem_cons_self ..)) d hd)
    refine ⟨acc', x4', ?_, h1, by rw [List.length_append, l3] at h2; omega, h3⟩
    rw [List.map_cons]
    exact (forGo_nx (hc _) rfl (odd_step G (hk k (List.mem_cons_self ..)) (by omega))).trans e
theorem law_odd_ok {g : Gr} {S : Store} (G : GoodGr g) : ∃ ds, c__law_odd_states [grD g] S = .ok (.lst ds) S ∧ (∀ d ∈ ds, Odd g d) ∧ ds ≠ [] ∧ ds.length ≤ 1000 := by
  have c4 := G.c1
  have h1 : evMk mkI (evComp [2] (itSeq (evBin ixD (evVar 0) (evC (.int 0)))) (tgN 2) evYes (evBin ixD (evVar 2) (evC (.int 1)))) [some (grD g), none, none, none, none, none] S = .ok (.lst (g.cells.map fun p => natD p.2)) S := by
    refine lc_of (comp_all (m := ⟨g.cells.map cellD, fun _ => True⟩) cellD (fun p => natD p.2) rfl rfl trivial (fun p _ => ⟨[some (grD g), none, some (cellD p), none, none, none], rfl, ?_⟩) (by rw [sizeLine_eq]; omega))
    exact bin_of (a := cellD p) (b := .int 1) (S1 := S) (S2 := S) rfl rfl atI1
  have h2 : evNew (evCons (evBin oMul (evTup (evCons (evC (.int 0)) evNil)) (evBin oAdd (evCallO bLen (evCons (evVar 1) evNil)) (evC (.int 1)))) (evCons (evC .non) (evCons (evC (.str "state")) (evCons (evC (.int 0)) evNil)))) [some (grD g), some (.lst (g.cells.map fun p => natD p.2)), none, none, none, none] S = .ok (.ref S.length) (S ++ [M.lst [.tup (zs0 (g.cells.length + 1)), .non, .str "state", .int 0]]) := by
    have b1 : evBin oAdd (evCallO bLen (evCons (evVar 1) evNil)) (evC (.int 1)) [some (grD g), some (.lst (g.cells.map fun p => natD p.2)), none, none, none, none] S = .ok (natD (g.cells.length + 1)) S := by
      show R.ok (D.int (((g.cells.map fun p => natD p.2).length : Int) + 1)) _ = _
      rw [List.length_map]
      rfl
    have b2 := bin_of (op := oMul) (fa := evTup (evCons (evC (.int 0)) evNil)) (a := .tup [.int 0]) (S1 := S) rfl b1 (mul_zs (by omega))
    exact new_of (cons_of b2 rfl) (of_decide_eq_true rfl)
  obtain ⟨acc', x4', e, o1, o2, o3⟩ := odd_loop (S := S) (chk := fun _ => True) G (fun _ => trivial) (List.range g.cells.length) [.tup (zs0 (g.cells.length + 1)), .non, .str "state", .int 0] none none none (fun k hk => List.mem_range.mp hk) (by rw [List.length_range]; show 4 + _ ≤ _; omega) (fun d hd => by
    simp only [List.mem_cons, List.not_mem_nil, or_false] at hd
    rcases hd with rfl | rfl | rfl | rfl
    · exact odd_long G
    · exact odd_no rfl rfl
    · exact odd_no rfl rfl
    · exact odd_no rfl rfl)
  have h3 : evFor (itOf itmR1 (evCons (evCallO bLen (evCons (evVar 1) evNil)) evNil)) (tgN 4) oddB [some (grD g), some (.lst (g.cells.map fun p => natD p.2)), none, some (.ref S.length), none, none] (S ++ [M.lst [.tup (zs0 (g.cells.length + 1)), .non, .str "state", .int 0]]) = .ok (.nx [some (grD g), some (.lst (g.cells.map fun p => natD p.2)), none, some (.ref S.length), x4', none]) (S ++ [M.lst acc']) := by
    rw [for_eq (m := ⟨rangeD 0 g.cells.length, fun _ => True⟩) (range_small (by omega) ?_)]
    · show forGo (fun _ => True) _ _ (rangeD 0 g.cells.length) _ _ = _
      rw [rangeD_map]
      exact e
    · show R.ok [D.int ((g.cells.map fun p => natD p.2).length : Nat)] _ = _
      rw [List.length_map]
  refine ⟨acc', ?_, o1, fun h => ?_, o3⟩
  · show fnR .fz 1 6 b__law_odd_states [grD g] S = _
    have hb : b__law_odd_states [some (grD g), none, none, none, none, none] S = .ok (.rt (.ref S.length)) (S ++ [M.lst acc']) := by
      unfold b__law_odd_states
      rw [seq_nx (asg_of h1 rfl)]
      show evSeq _ _ [some (grD g), some (.lst (g.cells.map fun p => natD p.2)), none, none, none, none] S = _
      rw [seq_nx (asg_of h2 rfl)]
      show evSeq (evFor _ _ oddB) _ [some (grD g), some (.lst (g.cells.map fun p => natD p.2)), none, some (.ref S.length), none, none] _ = _
      rw [seq_nx h3]
      rfl
    unfold fnR
    rw [if_pos (show [grD g].length = 1 from rfl)]
    show gcR .fz S ((b__law_odd_states [some (grD g), none, none, none, none, none] S).bind _) = _
    rw [hb, bind_ok]
    have hp : pureDs acc' = true := by
      clear hb h3 e o2 o3
      induction acc' with
      | nil => rfl
      | cons d ds ih =>
        show (pureD d && pureDs ds) = true
        rw [(o1 d (List.mem_cons_self ..)).1, ih fun x hx => o1 x (List.mem_cons_of_mem _ hx)]
        rfl
    show gcV S (D.ref S.length) (S ++ [M.lst acc']) .fz = _
    have hg : S.length ≤ S.length ∧ gcOk S (.lst acc') (S ++ [M.lst acc']) := ⟨Nat.le_refl _, gcOk_app (cl_pure _ hp)⟩
    unfold gcV
    simp only [get_last]
    refine (if_pos hg).trans ?_
    rw [List.take_left]
  · rw [h] at o2
    simp at o2
end K84
end
section
set_option Elab.async false
set_option linter.all false
set_option maxRecDepth 100000
set_option maxHeartbeats 4000000
namespace K84
open PySem PySem.Spec PyProof.Rows L2 DL
local macro_rules | `(tactic| walk_at "ev") => `(tactic| simp only [evSeq, evIfS, evRet, evRetN, evVar, evC, evBin, evUn, p2, evNil, evCons, evTup, evLst, evNew, evTest, evAndT, evOrT, evNotT, evAnd, evOr, evNot, evIte, evIteT, evTruth, evChain, evCall, evCallO, evIsi, evAsg, evDrop, evMk, mkI, mkN, evNext, tgN, tgTup, tgCons, tgNil, asB, dTruth, notRef, isiD, bLen, oLe, oLt, oGe, oGt, oSub, oInt, oAdd, oIsN, oNotN, DL.isNon,
  bind_ok, bind_bad, ofO_some, ofO_none, Option.map_some, Option.map_none, List.getElem?_cons_zero, List.getElem?_cons_succ, List.set_cons_zero, List.set_cons_succ, List.length_cons, List.length_nil, if_true, if_false, Bool.false_eq_true, Bool.not_true, Bool.not_false, decide_true, decide_false, and_self, reduceIte, *])

/-! plain: runs that end -/
/-- the exit is come to behind n rows -/
def Ends' (g : Gr) (rows : List Rw) : Nat → Nat → List Int → Prop
  | 0, i, _ => ∃ e, rows[i]? = some (.exit e)
  | n + 1, i, st => ∃ r, rows[i]? = some r ∧ isExit r = false ∧ Ends' g rows n (nextR g st i r) (stR g st r)
theorem ends_one {g : Gr} {rows : List Rw} : ∀ (n m : Nat) (i : Nat) (st : List Int), Ends' g rows n i st → Ends' g rows m i st → n = m
  | 0, 0, _, _, _, _ => rfl
  | 0, m + 1, i, st, ⟨e, h⟩, ⟨r, h2, h3, _⟩ => by
    rw [h] at h2
    cases h2
    exact nomatch h3
  | n + 1, 0, i, st, ⟨r, h2, h3, _⟩, ⟨e, h⟩ => by
    rw [h] at h2
    cases h2
    exact nomatch h3
  | n + 1, m + 1, i, st, ⟨r, h1, _, h2⟩, ⟨r', h3, _, h4⟩ => by
    rw [h1] at h3
    cases h3
    rw [ends_one n m _ _ h2 h4]
theorem mach_ends {g : Gr} {rows : List Rw} : ∀ (n k : Nat) (met : List Kx) (i : Nat) (st ct : List Int), Ends' g rows n i st → (∀ x ∈ met, ∃ m, n < m ∧ Ends' g rows m x.1 x.2) → n < k → ∃ o, mach g rows k met i st ct = some (some o, met.length + n + 1)
  | n, 0, _, _, _, _, _, _, h => absurd h (by omega)
  | n, k + 1, met, i, st, ct, he, hm, hk => by
    have hn : (i, st) ∉ met := fun h => by
      obtain ⟨m, h1, h2⟩ := hm _ h
      have := ends_one _ _ _ _ he h2
      omega
    cases n with
    | zero =>
      obtain ⟨e, h⟩ := he
      refine ⟨(ct, numSt g.cells st 0, plc g.exits e), ?_⟩
      unfold mach
      rw [if_neg hn, h]
    | succ n =>
      obtain ⟨r, h1, h2, h3⟩ := he
      obtain ⟨o, e⟩ := mach_ends n k (met ++ [(i, st)]) (nextR g st i r) (stR g st r) (ctR g ct r) h3 (fun x hx => by
        rcases List.mem_append.mp hx with hx | hx
        · obtain ⟨m, a, b⟩ := hm x hx
          exact ⟨m, by omega, b⟩
        · rcases List.mem_singleton.mp hx with rfl
          exact ⟨n + 1, by omega, r, h1, h2, h3⟩) (by omega)
      refine ⟨o, ?_⟩
      unfold mach
      rw [if_neg hn, h1]
      rw [List.length_append, List.length_singleton] at e
      rw [show met.length + (n + 1) + 1 = met.length + 1 + n + 1 by omega, ← e]
      cases r with
      | exit e => exact nomatch h2
      | _ => rfl
theorem mach_more {g : Gr} {rows : List Rw} : ∀ (k j : Nat) (met : List Kx) (i : Nat) (st ct : List Int) (r : Out), mach g rows k met i st ct = some r → k ≤ j → mach g rows j met i st ct = some r
  | 0, _, _, _, _, _, _, h, _ => by simp [mach] at h
  | k + 1, 0, _, _, _, _, _, _, h => absurd h (by omega)
  | k + 1, j + 1, met, i, st, ct, r, h, hj => by
    unfold mach at h ⊢
    by_cases hm : (i, st) ∈ met
    · rw [if_pos hm] at h ⊢
      exact h
    · rw [if_neg hm] at h ⊢
      cases hr : rows[i]? with
      | none =>
        rw [hr] at h
        exact nomatch h
      | some row =>
        rw [hr] at h
        cases row with
        | exit e => exact h
        | _ => exact mach_more k j _ _ _ _ _ h (by omega)
theorem out_ends {g : Gr} {rows : List Rw} {st : List Int} {n : Nat} (G : GoodGr g) (C : GoodCode g rows) (hst : InSt g.cells st) (h : Ends' g rows n 0 st) : (∃ o, (outOf g rows st).1 = some o) ∧ (outOf g rows st).2 = n + 1 := by
  have h1 := (out_eq G C hst).1
  obtain ⟨o, h2⟩ := mach_ends n (manyR g rows + 1 + n + 1) [] 0 st (List.replicate g.kinds.length 0) h (fun x hx => nomatch hx) (by omega)
  have h3 := mach_more _ (manyR g rows + 1 + n + 1) _ _ _ _ _ h1 (by omega)
  rw [h2] at h3
  have := Option.some.inj h3
  rw [← this]
  exact ⟨⟨o, rfl⟩, by show 0 + n + 1 = n + 1; omega⟩
/-! ### two cells come round -/
structure LongCode (g : Gr) (rows : List Rw) (c1 c2 : Str) (s1 s2 many : Nat) : Prop where
  cells : g.cells = [(c1, s1), (c2, s2)]
  ne : c1 ≠ c2
  p1 : 1 ≤ s1
  p2 : 1 ≤ s2
  fill : ∀ i, i < many → ∃ r, rows[i]? = some r ∧ ((∃ k n, r = .deed k n) ∨ r = .jump (i + 1) ∨ r = .set c1 (.cell c1) ∨ r = .branch (.less (.cell c2) (.num 4)) (i + 1))
  r0 : rows[many]? = some (.set c1 (.op .add (.cell c1) (.num 1)))
  r1 : rows[many + 1]? = some (.branch (.eq (.cell c1) (.num 0)) 0)
  r2 : rows[many + 2]? = some (.set c2 (.op .add (.cell c2) (.num 1)))
  r3 : rows[many + 3]? = some (.branch (.eq (.cell c2) (.num 0)) 0)
  r4 : ∃ e, rows[many + 4]? = some (.exit e)
section
variable {g : Gr} {rows : List Rw} {c1 c2 : Str} {s1 s2 many : Nat}
theorem LongCode.plc1 (L : LongCode g rows c1 c2 s1 s2 many) : plc (cns g) c1 = 0 := by
  have : cns g = [c1, c2] := by rw [show cns g = g.cells.map (·.1) from rfl, L.cells]; rfl
  rw [this]
  unfold plc
  rw [List.findIdx_cons]
  simp
theorem LongCode.plc2 (L : LongCode g rows c1 c2 s1 s2 many) : plc (cns g) c2 = 1 := by
  have : cns g = [c1, c2] := by rw [show cns g = g.cells.map (·.1) from rfl, L.cells]; rfl
  rw [this]
  unfold plc
  have h : (c1 == c2) = false := by simpa using L.ne
  rw [List.findIdx_cons, h, List.findIdx_cons]
  simp
theorem LongCode.sz1 (L : LongCode g rows c1 c2 s1 s2 many) : szOf g c1 = s1 := by
  unfold szOf
  rw [L.plc1, L.cells]
  rfl
theorem LongCode.sz2 (L : LongCode g rows c1 c2 s1 s2 many) : szOf g c2 = s2 := by
  unfold szOf
  rw [L.plc2, L.cells]
  rfl
theorem LongCode.toEnd (L : LongCode g rows c1 c2 s1 s2 many) {x y : Int} (hx : 0 ≤ x ∧ x < s1) {n : Nat} (h : Ends' g rows n many [x, y]) : ∀ j, j ≤ many → Ends' g rows (n + j) (many - j) [x, y]
  | 0, _ => h
  | j + 1, hj => by
    have ih := L.toEnd hx h j (by omega)
    obtain ⟨r, hr, hf⟩ := L.fill (many - (j + 1)) (by omega)
    have e1 : many - (j + 1) + 1 = many - j := by omega
    refine ⟨r, hr, ?_⟩
    rcases hf with ⟨k, m, rfl⟩ | rfl | rfl | rfl
    · refine ⟨rfl, ?_⟩
      show Ends' g rows (n + j) (many - (j + 1) + 1) [x, y]
      rw [e1]; exact ih
    · refine ⟨rfl, ?_⟩
      show Ends' g rows (n + j) (many - (j + 1) + 1) [x, y]
      rw [e1]; exact ih
    · refine ⟨rfl, ?_⟩
      have : stR g [x, y] (.set c1 (.cell c1)) = [x, y] := by
        show [x, y].set (plc (cns g) c1) ([x, y].getD (plc (cns g) c1) 0 % (szOf g c1 : Nat)) = _
        rw [L.plc1, L.sz1]
        show [x % (s1 : Int), y] = [x, y]
        rw [Int.emod_eq_of_lt hx.1 hx.2]
      show Ends' g rows (n + j) (many - (j + 1) + 1) (stR g [x, y] (.set c1 (.cell c1)))
      rw [this, e1]; exact ih
    · refine ⟨rfl, ?_⟩
      have : nextR g [x, y] (many - (j + 1)) (.branch (.less (.cell c2) (.num 4)) (many - (j + 1) + 1)) = many - (j + 1) + 1 := by
        show (if tstV g _ _ = true then _ else _) = _
        split <;> rfl
      show Ends' g rows (n + j) (nextR g [x, y] (many - (j + 1)) _) [x, y]
      rw [this, e1]; exact ih
theorem LongCode.run (L : LongCode g rows c1 c2 s1 s2 many) : ∀ (m : Nat) (x y : Nat), x < s1 → y < s2 → (s2 - y) * s1 - x ≤ m → ∃ n, Ends' g rows n 0 [(x : Int), (y : Int)] ∧ (many + 2) * ((s2 - y) * s1 - x) ≤ n
  | 0, x, y, hx, hy, hm => by
    have : 1 * s1 ≤ (s2 - y) * s1 := Nat.mul_le_mul_right _ (by omega)
    omega
  | m + 1, x, y, hx, hy, hm => by
    have hxI : 0 ≤ (x : Int) ∧ (x : Int) < s1 := ⟨by omega, by omega⟩
    have up : ∀ {n : Nat}, Ends' g rows n many [(x : Int), (y : Int)] → Ends' g rows (n + many) 0 [(x : Int), (y : Int)] := fun h => by
      have := L.toEnd hxI h many (Nat.le_refl _)
      rwa [Nat.sub_self] at this
    have v1 : ∀ a b : Int, valV g [a, b] (.op .add (.cell c1) (.num 1)) = a + 1 := fun a b => by
      show [a, b].getD (plc (cns g) c1) 0 + 1 = _
      rw [L.plc1]
      rfl
    have v2 : ∀ a b : Int, valV g [a, b] (.op .add (.cell c2) (.num 1)) = b + 1 := fun a b => by
      show [a, b].getD (plc (cns g) c2) 0 + 1 = _
      rw [L.plc2]
      rfl
    have s0 : stR g [(x : Int), (y : Int)] (.set c1 (.op .add (.cell c1) (.num 1))) = [((x : Int) + 1) % s1, (y : Int)] := by
      show [(x : Int), (y : Int)].set (plc (cns g) c1) (valV g [(x : Int), (y : Int)] (.op .add (.cell c1) (.num 1)) % (szOf g c1 : Nat)) = _
      rw [v1, L.plc1, L.sz1]
      rfl
    have s2' : ∀ a : Int, stR g [a, (y : Int)] (.set c2 (.op .add (.cell c2) (.num 1))) = [a, ((y : Int) + 1) % s2] := fun a => by
      show [a, (y : Int)].set (plc (cns g) c2) (valV g [a, (y : Int)] (.op .add (.cell c2) (.num 1)) % (szOf g c2 : Nat)) = _
      rw [v2, L.plc2, L.sz2]
      rfl
    have t1 : ∀ a b : Int, tstV g [a, b] (.eq (.cell c1) (.num 0)) = (a == 0) := fun a b => by
      show ([a, b].getD (plc (cns g) c1) 0 == 0) = _
      rw [L.plc1]
      rfl
    have t2 : ∀ a b : Int, tstV g [a, b] (.eq (.cell c2) (.num 0)) = (b == 0) := fun a b => by
      show ([a, b].getD (plc (cns g) c2) 0 == 0) = _
      rw [L.plc2]
      rfl
    -- from the row many + 1
    by_cases h1 : x + 1 < s1
    · obtain ⟨n, hn, hl⟩ := L.run m (x + 1) y h1 hy (by
        have : 1 * s1 ≤ (s2 - y) * s1 := Nat.mul_le_mul_right _ (by omega)
        omega)
      refine ⟨n + 2 + many, up ⟨_, L.r0, rfl, ?_⟩, ?_⟩
      · rw [s0]
        have e : ((x : Int) + 1) % s1 = ((x + 1 : Nat) : Int) := by
          rw [Int.emod_eq_of_lt (by omega) (by omega)]
          rfl
        rw [e]
        refine ⟨_, L.r1, rfl, ?_⟩
        have : nextR g [((x + 1 : Nat) : Int), (y : Int)] (many + 1) (.branch (.eq (.cell c1) (.num 0)) 0) = 0 := by
          show (if tstV g _ _ = true then _ else 0) = 0
          rw [t1]
          rw [if_neg]
          simp only [beq_iff_eq]
          omega
        show Ends' g rows n (nextR g _ (many + 1) _) _
        rw [this]
        exact hn
      · have : 1 * s1 ≤ (s2 - y) * s1 := Nat.mul_le_mul_right _ (by omega)
        have e : (s2 - y) * s1 - x = ((s2 - y) * s1 - (x + 1)) + 1 := by omega
        rw [e, Nat.mul_add]
        omega
    · have hx1 : x + 1 = s1 := by omega
      have e : ((x : Int) + 1) % s1 = 0 := by
        rw [show (x : Int) + 1 = (s1 : Int) by omega]
        exact Int.emod_self
      have n1 : nextR g [0, (y : Int)] (many + 1) (.branch (.eq (.cell c1) (.num 0)) 0) = many + 2 := by
        show (if tstV g _ _ = true then _ else 0) = _
        rw [t1]
        rfl
      by_cases h2 : y + 1 < s2
      · have es : (s2 - y) * s1 = (s2 - (y + 1)) * s1 + s1 := by
          rw [show s2 - y = (s2 - (y + 1)) + 1 by omega, Nat.add_mul, Nat.one_mul]
        obtain ⟨n, hn, hl⟩ := L.run m 0 (y + 1) (by omega) h2 (by omega)
        refine ⟨n + 4 + many, up ⟨_, L.r0, rfl, ?_⟩, ?_⟩
        · rw [s0, e]
          refine ⟨_, L.r1, rfl, ?_⟩
          show Ends' g rows (n + 2) (nextR g [0, (y : Int)] (many + 1) _) [0, (y : Int)]
          rw [n1]
          refine ⟨_, L.r2, rfl, ?_⟩
          rw [s2']
          have e2 : ((y : Int) + 1) % s2 = ((y + 1 : Nat) : Int) := by
            rw [Int.emod_eq_of_lt (by omega) (by omega)]
            rfl
          rw [e2]
          refine ⟨_, L.r3, rfl, ?_⟩
          have : nextR g [0, ((y + 1 : Nat) : Int)] (many + 3) (.branch (.eq (.cell c2) (.num 0)) 0) = 0 := by
            show (if tstV g _ _ = true then _ else 0) = 0
            rw [t2]
            rw [if_neg]
            simp only [beq_iff_eq]
            omega
          show Ends' g rows n (nextR g _ (many + 3) _) _
          rw [this]
          exact hn
        · have e3 : (s2 - y) * s1 - x = ((s2 - (y + 1)) * s1 - 0) + 1 := by omega
          rw [e3, Nat.mul_add]
          omega
      · have hy1 : y + 1 = s2 := by omega
        refine ⟨4 + many, up ⟨_, L.r0, rfl, ?_⟩, ?_⟩
        · rw [s0, e]
          refine ⟨_, L.r1, rfl, ?_⟩
          show Ends' g rows 2 (nextR g [0, (y : Int)] (many + 1) _) [0, (y : Int)]
          rw [n1]
          refine ⟨_, L.r2, rfl, ?_⟩
          rw [s2']
          have e2 : ((y : Int) + 1) % s2 = 0 := by
            rw [show (y : Int) + 1 = (s2 : Int) by omega]
            exact Int.emod_self
          rw [e2]
          refine ⟨_, L.r3, rfl, ?_⟩
          have : nextR g [0, 0] (many + 3) (.branch (.eq (.cell c2) (.num 0)) 0) = many + 4 := by
            show (if tstV g _ _ = true then _ else 0) = _
            rw [t2]
            rfl
          show Ends' g rows 0 (nextR g [0, 0] (many + 3) _) _
          rw [this]
          exact L.r4
        · have e3 : (s2 - y) * s1 - x = 1 := by
            rw [show s2 - y = 1 by omega, Nat.one_mul]
            omega
          rw [e3]
          omega
end
end K84
end
section
set_option Elab.async false
set_option linter.all false
set_option maxRecDepth 100000
set_option maxHeartbeats 4000000
namespace K84
open PySem PySem.Spec PyProof.Rows L2 DL
local macro_rules | `(tactic| walk_at "ev") => `(tactic| simp only [evSeq, evIfS, evRet, evRetN, evVar, evC, evBin, evUn, p2, evNil, evCons, evTup, evLst, evNew, evTest, evAndT, evOrT, evNotT, evAnd, evOr, evNot, evIte, evIteT, evTruth, evChain, evCall, evCallO, evIsi, evAsg, evDrop, evMk, mkI, mkN, evNext, tgN, tgTup, tgCons, tgNil, asB, dTruth, notRef, isiD, bLen, oLe, oLt, oGe, oGt, oSub, oInt, oAdd, oIsN, oNotN, DL.isNon,
  bind_ok, bind_bad, ofO_some, ofO_none, Option.map_some, Option.map_none, List.getElem?_cons_zero, List.getElem?_cons_succ, List.set_cons_zero, List.set_cons_succ, List.length_cons, List.length_nil, if_true, if_false, Bool.false_eq_true, Bool.not_true, Bool.not_false, decide_true, decide_false, and_self, reduceIte, *])

/-! plain: the long code -/
def Dx {α : Type} (f : Store → R α) (J : Store) (Q : α → Store → Prop) : Prop := ∀ a b, SrcOk b → ∃ d a' b' J', f (src a b :: J) = .ok d (src a' b' :: J') ∧ SrcOk b' ∧ Q d J'
section
variable {J : Store} {δ : DEnv}
theorem dx_dr {α : Type} {f : Store → R α} {P : α → Prop} {Q : α → Store → Prop} (h : Dr f J P) (hq : ∀ d, P d → Q d J) : Dx f J Q := fun a b hb => by
  obtain ⟨d, a', b', e, h1, h2⟩ := h a b hb
  exact ⟨d, a', b', J, e, h1, hq d h2⟩
theorem dx_asg {f : DEnv → Store → R D} {g : DEnv → Store → R Fl} {i : Nat} {A : D → Prop} {Q : Fl → Store → Prop} (hf : Dr (f δ) J A) (hg : ∀ d, A d → Dx (g (δ.set i (some d))) J Q) : Dx (evSeq (evAsg f (tgN i)) g δ) J Q := fun a b hb => by
  obtain ⟨d, a', b', e, h1, hp⟩ := hf a b hb
  obtain ⟨d2, a2, b2, J2, e2, h3, h4⟩ := hg d hp a' b' h1
  refine ⟨d2, a2, b2, J2, ?_, h3, h4⟩
  rw [seq_nx (asg_of e rfl), e2]
theorem dx_seq {f g : DEnv → Store → R Fl} {Q : Fl → Store → Prop} (hf : Dx (f δ) J fun fl J' => ∃ δ', fl = .nx δ' ∧ Dx (g δ') J' Q) : Dx (evSeq f g δ) J Q := fun a b hb => by
  obtain ⟨fl, a', b', J', e, h1, δ', rfl, hg⟩ := hf a b hb
  obtain ⟨d2, a2, b2, J2, e2, h3, h4⟩ := hg a' b' h1
  refine ⟨d2, a2, b2, J2, ?_, h3, h4⟩
  rw [seq_nx e, e2]
theorem dx_par2 {fr : DEnv → Store → R (List D)} {g : DEnv → Store → R Fl} {i j : Nat} {Q : Fl → Store → Prop} (hf : Dr (fr δ) J fun ds => ∃ a b, ds = [a, b] ∧ Dx (g ((δ.set i (some a)).set j (some b))) J Q) : Dx (evSeq (evPar2 i j fr) g δ) J Q := fun a b hb => by
  obtain ⟨ds, a', b', e, h1, x, y, rfl, hg1⟩ := hf a b hb
  obtain ⟨d2, a2, b2, J2, e2, h3, h4⟩ := hg1 a' b' h1
  refine ⟨d2, a2, b2, J2, ?_, h3, h4⟩
  have : evPar2 i j fr δ (src a b :: J) = .ok (.nx ((δ.set i (some x)).set j (some y))) (src a' b' :: J) := by
    show (fr δ _).bind _ = _
    rw [e, bind_ok]
  rw [seq_nx this, e2]
theorem app_last {S : Store} {xs : List D} {d : D} (h : xs.length < sizeLine) : mAppend (.ref S.length) [d] (S ++ [M.lst xs]) = some (.non, S ++ [M.lst (xs ++ [d])]) := by
  unfold mAppend
  simp only
  rw [get_last]
  simp only
  rw [if_pos (by simpa using h), set_last]
theorem dx_append {fe : DEnv → Store → R D} {i : Nat} {acc : List D} {P : D → Prop} {Q : Fl → Store → Prop} (h : Dr (fe δ) (J ++ [M.lst acc]) P) (hv : δ[i]? = some (some (.ref (J.length + 1)))) (hl : acc.length ≤ 1000) (hQ : ∀ d, P d → Q (.nx δ) (J ++ [M.lst (acc ++ [d])])) : Dx (evDrop (evMeth mAppend (evVar i) (evCons fe evNil)) δ) (J ++ [M.lst acc]) Q := fun a b hb => by
  obtain ⟨d, a', b', e, h1, hp⟩ := h a b hb
  refine ⟨.nx δ, a', b', J ++ [M.lst (acc ++ [d])], ?_, h1, hQ d hp⟩
  have e0 : evVar i δ (src a b :: (J ++ [M.lst acc])) = .ok (.ref (J.length + 1)) (src a b :: (J ++ [M.lst acc])) := pu_var hv _
  have e1 : (lstOf (src a b :: (J ++ [M.lst acc])) (.ref (J.length + 1))).isSome = true := by
    unfold lstOf
    simp only [List.getElem?_cons_succ]
    rw [get_last]
    rfl
  have e2 : mAppend (.ref (J.length + 1)) [d] (src a' b' :: (J ++ [M.lst acc])) = some (.non, src a' b' :: (J ++ [M.lst (acc ++ [d])])) := app_last (S := src a' b' :: J) (by rw [sizeLine_eq]; omega)
  unfold evDrop evMeth
  rw [e0, bind_ok, if_pos e1, cons1_of e, bind_ok, e2]
  rfl
theorem dx_go_cons {chk : Store → Prop} {tg : D → DEnv → Store → R DEnv} {body : DEnv → Store → R Fl} {d : D} {ds : List D} {δ1 : DEnv} {Q : Fl → Store → Prop} (hc : ∀ S, chk S) (ht : Pu (tg d δ) δ1) (hb : Dx (body δ1) J fun fl J' => ∃ δ', fl = .nx δ' ∧ Dx (forGo chk tg body ds δ') J' Q) : Dx (forGo chk tg body (d :: ds) δ) J Q := fun a b hs => by
  obtain ⟨fl, a', b', J', e, h1, δ', rfl, hg⟩ := hb a b hs
  obtain ⟨d2, a2, b2, J2, e2, h3, h4⟩ := hg a' b' h1
  refine ⟨d2, a2, b2, J2, ?_, h3, h4⟩
  rw [forGo_nx (hc _) (ht _) e, e2]
theorem dx_go_nil {chk : Store → Prop} {tg : D → DEnv → Store → R DEnv} {body : DEnv → Store → R Fl} {Q : Fl → Store → Prop} (hc : ∀ S, chk S) (h : Q (.nx δ) J) : Dx (forGo chk tg body [] δ) J Q := fun a b hs => ⟨_, a, b, J, forGo_nil (hc _), hs, h⟩
end
theorem dx_imp {α : Type} {f : Store → R α} {J : Store} {Q Q' : α → Store → Prop} (h : Dx f J Q) (hi : ∀ d J', Q d J' → Q' d J') : Dx f J Q' := fun a b hb => by
  obtain ⟨d, a', b', J', e, h1, h2⟩ := h a b hb
  exact ⟨d, a', b', J', e, h1, hi d J' h2⟩
theorem dx_forGo {chk : Store → Prop} {tg : D → DEnv → Store → R DEnv} {body : DEnv → Store → R Fl} (hc : ∀ S, chk S) (I : Nat → DEnv → Store → Prop) : ∀ (n k : Nat) (δ : DEnv) (J : Store), I k δ J → (∀ j δ J, k ≤ j → j < k + n → I j δ J → ∃ δ1, Pu (tg (natD j) δ) δ1 ∧ Dx (body δ1) J fun fl J' => ∃ δ', fl = .nx δ' ∧ I (j + 1) δ' J') → Dx (forGo chk tg body ((List.range' k n).map natD) δ) J fun fl J' => ∃ δ', fl = .nx δ' ∧ I (k + n) δ' J'
  | 0, k, δ, J, h, _ => dx_go_nil hc ⟨δ, rfl, h⟩
  | n + 1, k, δ, J, h, hs => by
    rw [List.range'_succ, List.map_cons]
    obtain ⟨δ1, h1, h2⟩ := hs k δ J (Nat.le_refl _) (by omega) h
    refine dx_go_cons hc h1 (dx_imp h2 fun fl J' ⟨δ', e, hi⟩ => ⟨δ', e, ?_⟩)
    have := dx_forGo hc I n (k + 1) δ' J' hi fun j δ J h3 h4 h5 => hs j δ J (by omega) (by omega) h5
    rw [show k + 1 + n = k + (n + 1) by omega] at this
    exact this
theorem dx_fn {np nN : Nat} {body : DEnv → Store → R Fl} {ds : List D} {J : Store} {P : D → Prop} (hp : ∀ d, P d → pureD d = true) (h : Dx (body (startD nN ds)) J fun fl J' => ∃ d J2, fl = .rt d ∧ P d ∧ J' = J ++ J2) (hn : ds.length = np := by rfl) : Dr (fnR .pl np nN body ds) J P := fun a b hb => by
  obtain ⟨fl, a', b', J', e, h1, d, J2, rfl, h2, rfl⟩ := h a b hb
  exact ⟨d, a', b', fn_src J2 (hp d h2) e hn, h1, h2⟩
theorem dr_cat {J : Store} {δ : DEnv} {fb : DEnv → Store → R D} {i : Nat} {acc : List D} {P : D → Prop} (hv : δ[i]? = some (some (.ref (J.length + 1)))) (h : Dr (fb δ) (J ++ [M.lst acc]) fun b => ∃ ys, b = .lst ys ∧ acc.length + ys.length ≤ 1000 ∧ P (.lst (acc ++ ys))) : Dr (evBin oAdd (evVar i) fb δ) (J ++ [M.lst acc]) P := fun a b hb => by
  obtain ⟨d, a', b', e, h1, ys, rfl, hl, hp⟩ := h a b hb
  refine ⟨_, a', b', bin_of (pu_var hv _) e ?_, h1, hp⟩
  show (match (src a' b' :: (J ++ [M.lst acc]))[J.length + 1]? with
    | some (.lst a) => if a.length + ys.length ≤ sizeLine then some (D.lst (a ++ ys), src a' b' :: (J ++ [M.lst acc])) else none
    | _ => none) = _
  rw [List.getElem?_cons_succ, get_last]
  exact if_pos (by rw [sizeLine_eq]; omega)
/-! ### the rows -/
def fillRow (g : Gr) (c1 c2 : Str) (i : Nat) (r : Rw) : Prop := (∃ k n, r = .deed k n ∧ k ∈ kns g ∧ 1 ≤ n ∧ n ≤ 9) ∨ r = .jump (i + 1) ∨ r = .set c1 (.cell c1) ∨ r = .branch (.less (.cell c2) (.num 4)) (i + 1)
def tailRows (c1 c2 : Str) (e : Str) : List Rw := [.set c1 (.op .add (.cell c1) (.num 1)), .branch (.eq (.cell c1) (.num 0)) 0, .set c2 (.op .add (.cell c2) (.num 1)), .branch (.eq (.cell c2) (.num 0)) 0, .exit e]
theorem fill_get {g : Gr} {c1 c2 : Str} {rs : List Rw} (h : ∀ i r, rs[i]? = some r → fillRow g c1 c2 i r) {r : Rw} (hr : fillRow g c1 c2 rs.length r) : ∀ i q, (rs ++ [r])[i]? = some q → fillRow g c1 c2 i q := fun i q hq => by
  by_cases hi : i < rs.length
  · rw [List.getElem?_append_left hi] at hq
    exact h i q hq
  · rw [List.getElem?_append_right (by omega)] at hq
    have : i - rs.length = 0 := by
      cases hk : i - rs.length with
      | zero => rfl
      | succ k =>
        rw [hk] at hq
        simp at hq
    rw [this] at hq
    have hi : i = rs.length := by omega
    subst hi
    cases hq
    exact hr
theorem long_good {g : Gr} {c1 c2 e : Str} {s1 s2 : Nat} {rs : List Rw} (hc : g.cells = [(c1, s1), (c2, s2)]) (he : e ∈ g.exits) (h : ∀ i r, rs[i]? = some r → fillRow g c1 c2 i r) (hl : rs.length ≤ 100) : GoodCode g (rs ++ tailRows c1 c2 e) := by
  have m1 : c1 ∈ cns g := by rw [show cns g = g.cells.map (·.1) from rfl, hc]; simp
  have m2 : c2 ∈ cns g := by rw [show cns g = g.cells.map (·.1) from rfl, hc]; simp
  have hlen : (rs ++ tailRows c1 c2 e).length = rs.length + 5 := by rw [List.length_append]; rfl
  refine ⟨by omega, by omega, fun r hr => ?_, rs ++ [.set c1 (.op .add (.cell c1) (.num 1)), .branch (.eq (.cell c1) (.num 0)) 0, .set c2 (.op .add (.cell c2) (.num 1)), .branch (.eq (.cell c2) (.num 0)) 0], .exit e, by rw [List.append_assoc]; rfl, rfl⟩
  rw [hlen]
  rcases List.mem_append.mp hr with hr | hr
  · obtain ⟨i, hi, rfl⟩ := List.getElem_of_mem hr
    rcases h i _ (List.getElem?_eq_getElem hi) with ⟨k, n, e1, h1, h2, h3⟩ | e1 | e1 | e1
    · rw [e1]; exact ⟨h1, h2, by omega⟩
    · rw [e1]; show i + 1 < _; omega
    · rw [e1]; exact ⟨m1, m1, Nat.zero_le _⟩
    · rw [e1]; exact ⟨⟨⟨m2, Nat.zero_le _⟩, ⟨by decide, by decide⟩, Nat.zero_le _⟩, Nat.zero_le _, by omega⟩
  · simp only [tailRows, List.mem_cons, List.not_mem_nil, or_false] at hr
    rcases hr with rfl | rfl | rfl | rfl | rfl
    · exact ⟨m1, ⟨m1, by decide, by decide⟩, of_decide_eq_true rfl⟩
    · exact ⟨⟨⟨m1, Nat.zero_le _⟩, ⟨by decide, by decide⟩, Nat.zero_le _⟩, Nat.zero_le _, by omega⟩
    · exact ⟨m2, ⟨m2, by decide, by decide⟩, of_decide_eq_true rfl⟩
    · exact ⟨⟨⟨m2, Nat.zero_le _⟩, ⟨by decide, by decide⟩, Nat.zero_le _⟩, Nat.zero_le _, by omega⟩
    · exact he
theorem long_code {g : Gr} {c1 c2 e : Str} {s1 s2 : Nat} {rs : List Rw} (hc : g.cells = [(c1, s1), (c2, s2)]) (hne : c1 ≠ c2) (p1 : 1 ≤ s1) (p2 : 1 ≤ s2) (h : ∀ i r, rs[i]? = some r → fillRow g c1 c2 i r) : LongCode g (rs ++ tailRows c1 c2 e) c1 c2 s1 s2 rs.length := by
  have at_ : ∀ j, (rs ++ tailRows c1 c2 e)[rs.length + j]? = (tailRows c1 c2 e)[j]? := fun j => by
    rw [List.getElem?_append_right (by omega), Nat.add_sub_cancel_left]
  refine ⟨hc, hne, p1, p2, fun i hi => ?_, at_ 0, at_ 1, at_ 2, at_ 3, e, at_ 4⟩
  refine ⟨rs[i], ?_, ?_⟩
  · rw [List.getElem?_append_left hi, List.getElem?_eq_getElem hi]
  · rcases h i _ (List.getElem?_eq_getElem hi) with ⟨k, n, e1, _⟩ | e1 | e1 | e1
    · exact .inl ⟨k, n, e1⟩
    · exact .inr (.inl e1)
    · exact .inr (.inr (.inl e1))
    · exact .inr (.inr (.inr e1))
end K84
end
section
set_option Elab.async false
set_option linter.all false
set_option maxRecDepth 100000
set_option maxHeartbeats 4000000
namespace K84
open PySem PySem.Spec PyProof.Rows L2 DL
local macro_rules | `(tactic| walk_at "ev") => `(tactic| simp only [evSeq, evIfS, evRet, evRetN, evVar, evC, evBin, evUn, p2, evNil, evCons, evTup, evLst, evNew, evTest, evAndT, evOrT, evNotT, evAnd, evOr, evNot, evIte, evIteT, evTruth, evChain, evCall, evCallO, evIsi, evAsg, evDrop, evMk, mkI, mkN, evNext, tgN, tgTup, tgCons, tgNil, asB, dTruth, notRef, isiD, bLen, oLe, oLt, oGe, oGt, oSub, oInt, oAdd, oIsN, oNotN, DL.isNon,
  bind_ok, bind_bad, ofO_some, ofO_none, Option.map_some, Option.map_none, List.getElem?_cons_zero, List.getElem?_cons_succ, List.set_cons_zero, List.set_cons_succ, List.length_cons, List.length_nil, if_true, if_false, Bool.false_eq_true, Bool.not_true, Bool.not_false, decide_true, decide_false, and_self, reduceIte, *])

/-! plain: the long code is drawn -/
def longOk (d : D) : Prop := ∃ g rows c1 c2 s1 s2 many, d = .tup [grD g, codeD rows] ∧ MenuGr g ∧ GoodCode g rows ∧ LongCode g rows c1 c2 s1 s2 many ∧ 32 ≤ many ∧ rows.length ≤ 100 ∧ 56 ≤ s2 * s1
theorem longOk.pure {d : D} (h : longOk d) : pureD d = true := by
  obtain ⟨g, rows, _, _, _, _, _, rfl, M, C, _⟩ := h
  show (pureD (grD g) && (pureD (codeD rows) && true)) = true
  rw [pure_of (okN_gr M.good), pure_of (okN_code M.good C)]
  rfl
theorem long_cells : ∀ d ∈ [D.tup [.tup [.str "a", .int 8], .tup [.str "b", .int 8]], .tup [.tup [.str "n1", .int 8], .tup [.str "b", .int 7]]], ∃ (c1 c2 : Str) (s1 s2 : Nat), [(c1, s1), (c2, s2)] ∈ longCells ∧ c1 ≠ c2 ∧ 1 ≤ s1 ∧ 1 ≤ s2 ∧ 56 ≤ s2 * s1 ∧ d = .tup [cellD (c1, s1), cellD (c2, s2)] := by
  intro d h
  simp only [List.mem_cons, List.not_mem_nil, or_false] at h
  rcases h with rfl | rfl
  · exact ⟨"a", "b", 8, 8, by simp [longCells], by decide +kernel, by decide, by decide, by decide, rfl⟩
  · exact ⟨"n1", "b", 8, 7, by simp [longCells], by decide +kernel, by decide, by decide, by decide, rfl⟩
theorem long_kinds : ∀ d ∈ [D.tup [.tup [.str "send", .int 3]], .tup [.tup [.str "log", .int 1], .tup [.str "flush", .int 99]]], kindsOf d := by
  intro d h
  simp only [List.mem_cons, List.not_mem_nil, or_false] at h
  rcases h with rfl | rfl
  · refine ⟨[("send", 3)], by simp [kindNames], fun x hx => ?_, rfl⟩
    simp only [List.mem_cons, List.not_mem_nil, or_false] at hx
    subst hx
    exact ⟨of_decide_eq_true rfl, by decide⟩
  · refine ⟨[("log", 1), ("flush", 99)], by simp [kindNames], fun x hx => ?_, rfl⟩
    simp only [List.mem_cons, List.not_mem_nil, or_false] at hx
    rcases hx with rfl | rfl
    · exact ⟨of_decide_eq_true rfl, by decide⟩
    · exact ⟨of_decide_eq_true rfl, by decide⟩
noncomputable def lcB1 : DEnv → Store → R Fl := (evSeq (evAsg (evLst (evCons (evTup (evCons (evC (.str "deed")) (evCons (evBin ixD (evCall c__law_one (evCons (evVar 0) (evCons (evBin ixD (evVar 3) (evC (.int 1))) evNil))) (evC (.int 0))) (evCons (evBin oAdd (evC (.int 1)) (evCall c__law_take (evCons (evVar 0) (evCons (evC (.int 9)) evNil)))) evNil)))) (evCons (evTup (evCons (evC (.str "jump")) (evCons (evBin oAdd (evVar 7) (evC (.int 1))) evNil))) (evCons (evTup (evCons (evC (.str "set")) (evCons (evVar 4) (evCons (evTup (evCons (evC (.str "cell")) (evCons (evVar 4) evNil))) evNil)))) evNil)))) (tgN 8))
    (evDrop (evMeth mAppend (evVar 6) (evCons (evCall c__law_one (evCons (evVar 0) (evCons (evBin oAdd (evVar 8) (evLst (evCons (evTup (evCons (evC (.str "branch")) (evCons (evTup (evCons (evC (.str "less")) (evCons (evTup (evCons (evC (.str "cell")) (evCons (evVar 5) evNil))) (evCons (evTup (evCons (evC (.str "num")) (evCons (evC (.int 4)) evNil))) evNil)))) (evCons (evBin oAdd (evVar 7) (evC (.int 1))) evNil)))) evNil))) evNil))) evNil))))
noncomputable def lcB2 : DEnv → Store → R Fl := (evSeq (evDrop (evMeth mAppend (evVar 6) (evCons (evTup (evCons (evC (.str "set")) (evCons (evVar 9) (evCons (evTup (evCons (evC (.str "add")) (evCons (evTup (evCons (evC (.str "cell")) (evCons (evVar 9) evNil))) (evCons (evTup (evCons (evC (.str "num")) (evCons (evC (.int 1)) evNil))) evNil)))) evNil)))) evNil)))
    (evDrop (evMeth mAppend (evVar 6) (evCons (evTup (evCons (evC (.str "branch")) (evCons (evTup (evCons (evC (.str "eq")) (evCons (evTup (evCons (evC (.str "cell")) (evCons (evVar 9) evNil))) (evCons (evTup (evCons (evC (.str "num")) (evCons (evC (.int 0)) evNil))) evNil)))) (evCons (evC (.int 0)) evNil)))) evNil))))
theorem add_lst (a b : List D) (S : Store) (h : a.length + b.length ≤ sizeLine) : oAdd (.lst a) (.lst b) S = some (.lst (a ++ b), S) := by
  show (if a.length + b.length ≤ sizeLine then some (D.lst (a ++ b), S) else none) = _
  exact if_pos h
def roundRows (c : Str) : List Rw := [.set c (.op .add (.cell c) (.num 1)), .branch (.eq (.cell c) (.num 0)) 0]
theorem okN_row {g : Gr} {many : Nat} {r : Rw} (G : GoodGr g) (h : rowOk g many r) : pureD (rowD r) = true := pure_of (okN_rw G r h)
theorem lc_step1 {g : Gr} {J : Store} {k many : Nat} {c1 c2 : Str} {rs : List Rw} {x1 x2 x8 x9 x10 : Option D} (M : MenuGr g) (m1 : c1 ∈ cns g) (m2 : c2 ∈ cns g) (hk : rs.length = k) (hl : k ≤ 100) :
    Dx (lcB1 [some (.ref 0), x1, x2, some (grD g), some (.str c1), some (.str c2), some (.ref (J.length + 1)), some (natD k), x8, x9, x10]) (J ++ [DL.M.lst (rs.map rowD)]) fun fl J' => ∃ r x8', fillRow g c1 c2 k r ∧ fl = .nx [some (.ref 0), x1, x2, some (grD g), some (.str c1), some (.str c2), some (.ref (J.length + 1)), some (natD k), x8', x9, x10] ∧ J' = J ++ [DL.M.lst ((rs ++ [r]).map rowD)] := by
  have G := M.good
  unfold lcB1
  refine dx_asg (A := fun d => ∃ ts : List Rw, d = .lst (ts.map rowD) ∧ ts.length = 3 ∧ ∀ r ∈ ts, fillRow g c1 c2 k r) (dr_lst ?_) fun d ⟨ts, e, h3, hts⟩ => ?_
  · refine dr_cons (A := fun d => ∃ x n, d = rowD (.deed x n) ∧ x ∈ kns g ∧ 1 ≤ n ∧ n ≤ 9) (dr_tup ?_) fun d1 h1 => dr_cons (A := fun d => d = rowD (.jump (k + 1))) (dr_pu (fun S => rfl) rfl) fun d2 h2 => dr_cons (A := fun d => d = rowD (.set c1 (.cell c1))) (dr_pu (fun S => rfl) rfl) fun d3 h3 => dr_nil ?_
    · refine dr_cons (dr_fix fun S => rfl) fun _ e1 => dr_cons (A := fun d => ∃ x ∈ kns g, d = .str x) (dr_name0 (F := kindD) (n := fun p : Str × Int => p.1) (dr_kind M rfl rfl) (fun p S => atI0) fun p hp => ⟨p.1, List.mem_map_of_mem hp, rfl⟩) fun d ⟨x, hx, e2⟩ => dr_cons (A := fun d => ∃ n : Int, d = .int n ∧ 1 ≤ n ∧ n ≤ 9) (dr_bin (A := fun d => d = .int 1) (B := fun d => ∃ i : Int, d = .int i ∧ 0 ≤ i ∧ i < 9) (dr_fix fun S => rfl) (dr_takeE (pu_var rfl) (fun S => rfl) (by decide) (by decide) fun i h1 h2 => ⟨i, rfl, h1, h2⟩) fun a b ha hb => ?_) fun _ ⟨n, e3, v1, v2⟩ => dr_nil ?_
      · obtain ⟨i, rfl, h1, h2⟩ := hb
        subst ha
        exact ⟨.int (1 + i), fun S => rfl, _, rfl, by omega, by omega⟩
      · subst e1 e2 e3
        exact ⟨of_decide_eq_true rfl, x, n, rfl, hx, v1, v2⟩
    · obtain ⟨x, n, rfl, hx, v1, v2⟩ := h1
      subst h2 h3
      refine ⟨of_decide_eq_true rfl, [.deed x n, .jump (k + 1), .set c1 (.cell c1)], rfl, rfl, fun r hr => ?_⟩
      simp only [List.mem_cons, List.not_mem_nil, or_false] at hr
      rcases hr with rfl | rfl | rfl
      · exact .inl ⟨x, n, rfl, hx, v1, v2⟩
      · exact .inr (.inl rfl)
      · exact .inr (.inr (.inl rfl))
  · subst e
    show Dx (evDrop _ [some (.ref 0), x1, x2, some (grD g), some (.str c1), some (.str c2), some (.ref (J.length + 1)), some (natD k), some (.lst (ts.map rowD)), x9, x10]) _ _
    refine dx_append (acc := rs.map rowD) (P := fun d => ∃ r, d = rowD r ∧ fillRow g c1 c2 k r) (dr_oneP (pu_var rfl) ?_) rfl (by rw [List.length_map]; omega) fun d ⟨r, e, hr⟩ => ⟨r, _, hr, rfl, by rw [List.map_append, e]; rfl⟩
    refine dr_bin (A := fun d => d = .lst (ts.map rowD)) (B := fun d => d = .lst [rowD (.branch (.less (.cell c2) (.num 4)) (k + 1))]) (dr_fix (pu_var rfl)) (dr_pu (fun S => rfl) rfl) fun a b ha hb => ?_
    subst ha hb
    have all : ∀ r ∈ ts ++ [Rw.branch (.less (.cell c2) (.num 4)) (k + 1)], fillRow g c1 c2 k r := fun r hr => by
      rcases List.mem_append.mp hr with hr | hr
      · exact hts r hr
      · rcases List.mem_singleton.mp hr with rfl
        exact .inr (.inr (.inr rfl))
    refine ⟨.lst ((ts ++ [Rw.branch (.less (.cell c2) (.num 4)) (k + 1)]).map rowD), fun S => ?_, _, .inr rfl, ?_, by simp, by simp only [List.length_map, List.length_append, List.length_cons, List.length_nil]; omega, fun d hd => ?_⟩
    · rw [List.map_append]
      exact add_lst _ _ _ (by rw [sizeLine_eq, List.length_map]; show _ + 1 ≤ _; omega)
    · generalize ts ++ [Rw.branch (.less (.cell c2) (.num 4)) (k + 1)] = qs at all
      clear hts h3
      induction qs with
      | nil => rfl
      | cons q qs ih =>
        have hq : pureD (rowD q) = true := by
          refine okN_row (many := k + 2) G ?_
          rcases all q (List.mem_cons_self ..) with ⟨x, n, e1, h1, h2, h3⟩ | e1 | e1 | e1
          · rw [e1]; exact ⟨h1, h2, by omega⟩
          · rw [e1]; show k + 1 < _; omega
          · rw [e1]; exact ⟨m1, m1, Nat.zero_le _⟩
          · rw [e1]; exact ⟨⟨⟨m2, Nat.zero_le _⟩, ⟨by decide, by decide⟩, Nat.zero_le _⟩, Nat.zero_le _, by omega⟩
        show (pureD (rowD q) && pureDs (qs.map rowD)) = true
        rw [hq, ih fun r hr => all r (List.mem_cons_of_mem _ hr)]
        rfl
    · obtain ⟨r, hr, rfl⟩ := List.mem_map.mp hd
      exact ⟨r, rfl, all r hr⟩
theorem lc_step2 {g : Gr} {J : Store} {c : Str} {rs : List Rw} {x1 x2 x4 x5 x7 x8 x10 : Option D} (hl : rs.length ≤ 200) :
    Dx (lcB2 [some (.ref 0), x1, x2, some (grD g), x4, x5, some (.ref (J.length + 1)), x7, x8, some (.str c), x10]) (J ++ [DL.M.lst (rs.map rowD)]) fun fl J' => fl = .nx [some (.ref 0), x1, x2, some (grD g), x4, x5, some (.ref (J.length + 1)), x7, x8, some (.str c), x10] ∧ J' = J ++ [DL.M.lst ((rs ++ roundRows c).map rowD)] := by
  unfold lcB2
  refine dx_seq (dx_append (P := fun d => d = rowD (.set c (.op .add (.cell c) (.num 1)))) (dr_pu (fun S => rfl) rfl) rfl (by rw [List.length_map]; omega) fun d e => ⟨_, rfl, ?_⟩)
  subst e
  refine dx_append (P := fun d => d = rowD (.branch (.eq (.cell c) (.num 0)) 0)) (dr_pu (fun S => rfl) rfl) rfl (by rw [List.length_append, List.length_map]; show _ + 1 ≤ _; omega) fun d e => ⟨rfl, ?_⟩
  subst e
  rw [List.append_assoc, List.map_append]
  rfl
theorem law_long_code_ok {J : Store} : Dr (c__law_long_code [.ref 0]) J longOk := by
  refine dx_fn (fun d h => h.pure) ?_
  show Dx (b__law_long_code [some (.ref 0), none, none, none, none, none, none, none, none, none, none]) J _
  unfold b__law_long_code
  refine dx_par2 (dr_cons (dr_oneP (pu_var rfl) (dr_pu (fun S => rfl) ⟨_, .inr rfl, by decide +kernel, by simp, of_decide_eq_true rfl, long_cells⟩)) fun d1 ⟨c1, c2, s1, s2, hc, hne, p1, p2, p3, e1⟩ => dr_cons (A := fun d => ∃ n : Nat, d = natD n ∧ 32 ≤ n ∧ n ≤ 61) (dr_bin (A := fun d => d = .int 32) (B := fun d => ∃ i : Int, d = .int i ∧ 0 ≤ i ∧ i < 30) (dr_fix fun S => rfl) (dr_takeE (pu_var rfl) (fun S => rfl) (by decide) (by decide) fun i h1 h2 => ⟨i, rfl, h1, h2⟩) fun a b ha hb => ?_) fun d2 ⟨many, e2, n1, n2⟩ => dr_nil ⟨d1, d2, rfl, ?_⟩)
  · obtain ⟨i, rfl, h1, h2⟩ := hb
    subst ha
    exact ⟨.int (32 + i), fun S => rfl, (32 + i).toNat, by show _ = D.int (((32 + i).toNat : Nat) : Int); rw [Int.toNat_of_nonneg (by omega)], by omega, by omega⟩
  subst e1 e2
  show Dx (evSeq _ _ [some (.ref 0), some (.tup [cellD (c1, s1), cellD (c2, s2)]), some (natD many), none, none, none, none, none, none, none, none]) J _
  refine dx_asg (A := fun d => ∃ g, d = grD g ∧ MenuGr g ∧ g.cells = [(c1, s1), (c2, s2)]) (dr_tup (dr_cons (dr_fix (pu_var rfl)) fun _ e1 => dr_cons (A := kindsOf) (dr_oneP (pu_var rfl) (dr_pu (fun S => rfl) ⟨_, .inr rfl, by decide +kernel, by simp, of_decide_eq_true rfl, long_kinds⟩)) fun _ ⟨ks, k1, k2, e2⟩ => dr_cons (A := fun d => d = .tup ((["done", "full"] : List Str).map D.str)) (dr_pu (fun S => rfl) rfl) fun _ e3 => dr_nil ?_)) fun d ⟨g, e, M, hcell⟩ => ?_
  · subst e1 e2 e3
    exact ⟨of_decide_eq_true rfl, ⟨[(c1, s1), (c2, s2)], ks, ["done", "full"]⟩, rfl, ⟨List.mem_append.mpr (.inr hc), k1, k2, by simp [exitMenu]⟩, rfl⟩
  subst e
  have G := M.good
  have m1 : c1 ∈ cns g := by rw [show cns g = g.cells.map (·.1) from rfl, hcell]; simp
  have m2 : c2 ∈ cns g := by rw [show cns g = g.cells.map (·.1) from rfl, hcell]; simp
  show Dx (evSeq _ _ [some (.ref 0), some (.tup [cellD (c1, s1), cellD (c2, s2)]), some (natD many), some (grD g), none, none, none, none, none, none, none]) J _
  -- one, two, rows
  refine dx_seq (fun a b hb => ⟨.nx [some (.ref 0), some (.tup [cellD (c1, s1), cellD (c2, s2)]), some (natD many), some (grD g), some (.str c1), some (.str c2), some (.ref (J.length + 1)), none, none, none, none], a, b, J ++ [DL.M.lst []], ?_, hb, _, rfl, ?_⟩)
  · rfl
  -- the rows that are filled
  refine dx_seq (dx_imp (Q := fun fl J' => ∃ δ', fl = .nx δ' ∧ ∃ (rs : List Rw) (x7 x8 : Option D), δ' = [some (.ref 0), some (.tup [cellD (c1, s1), cellD (c2, s2)]), some (natD many), some (grD g), some (.str c1), some (.str c2), some (.ref (J.length + 1)), x7, x8, none, none] ∧ J' = J ++ [DL.M.lst (rs.map rowD)] ∧ rs.length = 0 + many ∧ ∀ i r, rs[i]? = some r → fillRow g c1 c2 i r) ?_ fun fl J' ⟨δ', e, rs, x7, x8, e2, e3, hlen, hfill⟩ => ?_)
  · have hfor : ∀ S, evFor (itOf itmR1 (evCons (evVar 2) evNil)) (tgN 7) lcB1 [some (.ref 0), some (.tup [cellD (c1, s1), cellD (c2, s2)]), some (natD many), some (grD g), some (.str c1), some (.str c2), some (.ref (J.length + 1)), none, none, none, none] S = forGo (fun _ => True) (tgN 7) lcB1 ((List.range' 0 many).map natD) [some (.ref 0), some (.tup [cellD (c1, s1), cellD (c2, s2)]), some (natD many), some (grD g), some (.str c1), some (.str c2), some (.ref (J.length + 1)), none, none, none, none] S := fun S => by
      have : itOf itmR1 (evCons (evVar 2) evNil) [some (.ref 0), some (.tup [cellD (c1, s1), cellD (c2, s2)]), some (natD many), some (grD g), some (.str c1), some (.str c2), some (.ref (J.length + 1)), none, none, none, none] S = .ok ⟨rangeD 0 many, fun _ => True⟩ S := by
        unfold itOf
        rw [show evCons (evVar 2) evNil [some (.ref 0), some (.tup [cellD (c1, s1), cellD (c2, s2)]), some (natD many), some (grD g), some (.str c1), some (.str c2), some (.ref (J.length + 1)), none, none, none, none] S = .ok [.int (many : Nat)] S from rfl, bind_ok, itmR1_nat (by omega)]
        rfl
      rw [for_eq this]
      show forGo (fun _ => True) _ _ (rangeD 0 many) _ _ = _
      rw [rangeD_map, List.range_eq_range']
      rfl
    have loop := dx_forGo (chk := fun _ => True) (tg := tgN 7) (body := lcB1) (fun _ => trivial) (fun k δ' J' => ∃ (rs : List Rw) (x7 x8 : Option D), δ' = [some (.ref 0), some (.tup [cellD (c1, s1), cellD (c2, s2)]), some (natD many), some (grD g), some (.str c1), some (.str c2), some (.ref (J.length + 1)), x7, x8, none, none] ∧ J' = J ++ [DL.M.lst (rs.map rowD)] ∧ rs.length = k ∧ ∀ i r, rs[i]? = some r → fillRow g c1 c2 i r) many 0 _ (J ++ [DL.M.lst []]) ⟨[], none, none, rfl, rfl, rfl, fun i r h => by simp at h⟩ fun j δ J1 _ hj ⟨rs, x7, x8, e1, e2, hlen, hfill⟩ => by
      subst e1 e2
      refine ⟨[some (.ref 0), some (.tup [cellD (c1, s1), cellD (c2, s2)]), some (natD many), some (grD g), some (.str c1), some (.str c2), some (.ref (J.length + 1)), some (natD j), x8, none, none], fun S => rfl, dx_imp (lc_step1 (many := many) M m1 m2 hlen (by omega)) fun fl J' ⟨r, x8', hr, e3, e4⟩ => ⟨_, e3, rs ++ [r], _, _, rfl, e4, by rw [List.length_append, hlen]; rfl, fill_get hfill (by rw [hlen]; exact hr)⟩⟩
    intro a b hb
    obtain ⟨fl, a', b', J', e, h1, h2⟩ := loop a b hb
    exact ⟨fl, a', b', J', (hfor _).trans e, h1, h2⟩
  subst e2 e3
  refine ⟨_, e, ?_⟩
  rw [Nat.zero_add] at hlen
  -- the cells come round
  refine dx_seq (dx_imp (Q := fun fl J' => ∃ (x9 x10 : Option D), fl = .nx [some (.ref 0), some (.tup [cellD (c1, s1), cellD (c2, s2)]), some (natD many), some (grD g), some (.str c1), some (.str c2), some (.ref (J.length + 1)), x7, x8, x9, x10] ∧ J' = J ++ [DL.M.lst (((rs ++ roundRows c1) ++ roundRows c2).map rowD)]) ?_ fun fl J' ⟨x9, x10, e1, e2⟩ => ⟨_, e1, ?_⟩)
  · show Dx (forGo (fun _ => True) (tgTup 2 (tgCons (tgN 9) (tgCons (tgN 10) tgNil))) lcB2 [cellD (c1, s1), cellD (c2, s2)] [some (.ref 0), some (.tup [cellD (c1, s1), cellD (c2, s2)]), some (natD many), some (grD g), some (.str c1), some (.str c2), some (.ref (J.length + 1)), x7, x8, none, none]) _ _
    refine dx_go_cons (δ1 := [some (.ref 0), some (.tup [cellD (c1, s1), cellD (c2, s2)]), some (natD many), some (grD g), some (.str c1), some (.str c2), some (.ref (J.length + 1)), x7, x8, some (.str c1), some (natD s1)]) (fun _ => trivial) (fun S => rfl) (dx_imp (lc_step2 (by omega)) fun fl J' ⟨e1, e2⟩ => ⟨_, e1, ?_⟩)
    subst e2
    refine dx_go_cons (δ1 := [some (.ref 0), some (.tup [cellD (c1, s1), cellD (c2, s2)]), some (natD many), some (grD g), some (.str c1), some (.str c2), some (.ref (J.length + 1)), x7, x8, some (.str c2), some (natD s2)]) (fun _ => trivial) (fun S => rfl) (dx_imp (lc_step2 (by rw [List.length_append]; show _ + 2 ≤ _; omega)) fun fl J' ⟨e1, e2⟩ => ⟨_, e1, ?_⟩)
    subst e2
    exact dx_go_nil (fun _ => trivial) ⟨_, _, rfl, rfl⟩
  subst e2
  -- the end
  refine dx_dr (P := RtP longOk) (dr_ret (dr_tup (dr_cons (dr_fix (pu_var rfl)) fun _ e1 => dr_cons (A := fun d => ∃ e ∈ g.exits, d = codeD (rs ++ tailRows c1 c2 e)) (dr_tuple (dr_cat rfl (dr_lst (dr_cons (A := fun d => ∃ e ∈ g.exits, d = rowD (.exit e)) (dr_tup (dr_cons (dr_fix fun S => rfl) fun _ e1 => dr_cons (dr_exit G rfl rfl) fun _ ⟨z, hz, e2⟩ => dr_nil ⟨of_decide_eq_true rfl, z, hz, by rw [e1, e2]; rfl⟩)) fun _ ⟨z, hz, e2⟩ => dr_nil ⟨of_decide_eq_true rfl, _, rfl, by simp only [List.length_map, List.length_append, List.length_cons, List.length_nil, roundRows]; omega, _, rfl, z, hz, ?_⟩)))) fun _ ⟨z, hz, e2⟩ => dr_nil ?_))) fun fl ⟨d, e, hd⟩ => ⟨d, [DL.M.lst _], e, hd, rfl⟩
  · rw [e2]
    show D.tup _ = D.tup _
    unfold tailRows roundRows
    simp only [List.map_append, List.append_assoc, List.map_cons, List.map_nil, List.cons_append, List.nil_append]
  · subst e1 e2
    refine ⟨of_decide_eq_true rfl, g, rs ++ tailRows c1 c2 z, c1, c2, s1, s2, many, rfl, M, long_good hcell hz hfill (by omega), ?_, n1, by rw [List.length_append]; show _ + 5 ≤ _; omega, p3⟩
    rw [← hlen]
    exact long_code hcell hne p1 p2 hfill
end K84
end
section
set_option Elab.async false
set_option linter.all false
set_option maxRecDepth 100000
set_option maxHeartbeats 4000000
namespace K84
open PySem PySem.Spec PyProof.Rows L2 DL
local macro_rules | `(tactic| walk_at "ev") => `(tactic| simp only [evSeq, evIfS, evRet, evRetN, evVar, evC, evBin, evUn, p2, evNil, evCons, evTup, evLst, evNew, evTest, evAndT, evOrT, evNotT, evAnd, evOr, evNot, evIte, evIteT, evTruth, evChain, evCall, evCallO, evIsi, evAsg, evDrop, evMk, mkI, mkN, evNext, tgN, tgTup, tgCons, tgNil, asB, dTruth, notRef, isiD, bLen, oLe, oLt, oGe, oGt, oSub, oInt, oAdd, oIsN, oNotN, DL.isNon,
  bind_ok, bind_bad, ofO_some, ofO_none, Option.map_some, Option.map_none, List.getElem?_cons_zero, List.getElem?_cons_succ, List.set_cons_zero, List.set_cons_succ, List.length_cons, List.length_nil, if_true, if_false, Bool.false_eq_true, Bool.not_true, Bool.not_false, decide_true, decide_false, and_self, reduceIte, *])

/-! plain: the long runs are right -/
theorem oNe_self {n : Nat} {d : D} {S : Store} (h : okN n d = true) (hn : n ≤ 64) : oNe d d S = some (.bl false, S) := by
  rw [oNe_ok (okD_of h hn) (okD_of h hn), eqD_self (pure_of h)]
  rfl
theorem oEq_self {n : Nat} {d : D} {S : Store} (h : okN n d = true) (hn : n ≤ 64) : oEq d d S = some (.bl true, S) := by
  rw [oEq_ok (okD_of h hn) (okD_of h hn), eqD_self (pure_of h)]
theorem okN_out1 (o : Option (List Int × Int × Nat)) : okN 2 (outD1 o) = true := by
  cases o with
  | none => rfl
  | some o =>
    show (okN 1 (stD o.1) && (okN 1 (.int o.2.1) && (okN 1 (natD o.2.2) && true))) = true
    rw [okN_st]
    rfl
theorem okN_due (g : Gr) (r : Out) : okN 2 (dueD1 g r) = true := by
  unfold dueD1
  cases r.1 with
  | none => rfl
  | some o => rfl
theorem okN_tup_map {α : Type} {n : Nat} (f : α → D) (xs : List α) (h : ∀ x, okN n (f x) = true) : okN (n + 1) (.tup (xs.map f)) = true := by
  show (xs.map f).all (okN n) = true
  rw [List.all_map]
  exact List.all_eq_true.mpr fun x _ => h x
theorem maxI_le : ∀ (ns : List Int) (n : Int), n ≤ maxI n ns ∧ ∀ m ∈ ns, m ≤ maxI n ns
  | [], n => ⟨Int.le_refl _, fun _ h => nomatch h⟩
  | m :: ns, n => by
    obtain ⟨h1, h2⟩ := maxI_le ns (max n m)
    show n ≤ maxI (max n m) ns ∧ _
    refine ⟨Int.le_trans (Int.le_max_left ..) h1, fun k hk => ?_⟩
    rcases List.mem_cons.mp hk with rfl | hk
    · exact Int.le_trans (Int.le_max_right ..) h1
    · exact h2 k hk
theorem max_of {α : Type} {fc : DEnv → Store → R (List D)} {δ : DEnv} {S : Store} {xs : List α} (q : α → Int) (hc : fc δ S = .ok (xs.map fun x => D.int (q x)) S) {z : α} (hz : z ∈ xs) : ∃ m, evCallO bMax (evCons (evMk mkI fc) evNil) δ S = .ok (.int m) S ∧ q z ≤ m := by
  have e : evCallO bMax (evCons (evMk mkI fc) evNil) δ S = ofO (bMax [.lst (xs.map fun x => D.int (q x))] S) := by
    show (evCons (evMk mkI fc) evNil δ S).bind _ = _
    rw [cons1_of (lc_of hc), bind_ok]
  cases xs with
  | nil => exact nomatch hz
  | cons x xs =>
    refine ⟨maxI (q x) (xs.map q), ?_, ?_⟩
    · rw [e]
      show ofO ((intsOf ((x :: xs).map fun x => D.int (q x))).bind _) = _
      rw [intsOf_of]
      rfl
    · rcases List.mem_cons.mp hz with rfl | hz
      · exact (maxI_le _ _).1
      · exact (maxI_le _ _).2 _ (List.mem_map_of_mem hz)
theorem pair_st {d1 d2 : Str × Nat} {st : List Int} (h : InSt [d1, d2] st) : ∃ x y : Nat, st = [(x : Int), (y : Int)] ∧ x < d1.2 ∧ y < d2.2 := by
  match st, h with
  | [], h => exact h.elim
  | [a], h => exact (h.2).elim
  | [a, b], h =>
    obtain ⟨⟨h1, h2⟩, ⟨h3, h4⟩, _⟩ := h
    exact ⟨a.toNat, b.toNat, by rw [Int.toNat_of_nonneg h1, Int.toNat_of_nonneg h3], by omega, by omega⟩
  | a :: b :: c :: r, h => exact (h.2.2).elim
theorem long_all {g : Gr} {rows : List Rw} {c1 c2 : Str} {s1 s2 many : Nat} (G : GoodGr g) (C : GoodCode g rows) (L : LongCode g rows c1 c2 s1 s2 many) {st : List Int} (hst : InSt g.cells st) : ∃ o, (outOf g rows st).1 = some o := by
  rw [L.cells] at hst
  obtain ⟨x, y, rfl, hx, hy⟩ := pair_st hst
  obtain ⟨n, hn, _⟩ := L.run _ x y hx hy (Nat.le_refl _)
  exact (out_ends G C (by rw [L.cells]; exact hst) hn).1
theorem long_most {g : Gr} {rows : List Rw} {c1 c2 : Str} {s1 s2 many : Nat} (G : GoodGr g) (C : GoodCode g rows) (L : LongCode g rows c1 c2 s1 s2 many) (hm : 32 ≤ many) (h56 : 56 ≤ s2 * s1) : ∃ st ∈ allSt g.cells, 1700 ≤ (outOf g rows st).2 := by
  have hin : InSt g.cells [((0 : Nat) : Int), ((0 : Nat) : Int)] := by
    rw [L.cells]
    have := L.p1
    have := L.p2
    exact ⟨⟨by show (0 : Int) ≤ 0; omega, by show ((0 : Nat) : Int) < (s1 : Nat); omega⟩, ⟨by show (0 : Int) ≤ 0; omega, by show ((0 : Nat) : Int) < (s2 : Nat); omega⟩, trivial⟩
  refine ⟨_, mem_allSt.mpr hin, ?_⟩
  obtain ⟨n, hn, hl⟩ := L.run _ 0 0 L.p1 L.p2 (Nat.le_refl _)
  rw [(out_ends G C hin hn).2]
  have h1 : 34 * 56 ≤ (many + 2) * ((s2 - 0) * s1 - 0) := Nat.mul_le_mul (by omega) (by simpa using h56)
  omega
theorem law_long_right_ok {J : Store} : Dr (c__law_long_right [.ref 0]) J fun d => d = .bl true := by
  refine dr_fn (fun d e => by rw [e]; rfl) ?_
  show Dr (b__law_long_right [some (.ref 0), none, none, none, none, none, none]) J _
  unfold b__law_long_right
  refine dr_asgT (A := longOk) (dr_call (A := fun ds => ds = [.ref 0]) (dr_cons (dr_fix (pu_var rfl)) fun _ e => dr_nil (by rw [e])) fun ds e => by rw [e]; exact law_long_code_ok) fun d ⟨g, rows, c1, c2, s1, s2, many, e, M, C, L, hm, hrl, h56⟩ => ?_
  subst e
  refine ⟨[some (.ref 0), some (grD g), some (codeD rows), none, none, none, none], fun S => rfl, ?_⟩
  have G := M.good
  have LG := M.law
  have hN : manyR g rows + 1 ≤ 100000 := by
    have h1 := M.states
    have h2 : manyR g rows ≤ 100 * 64 := Nat.mul_le_mul hrl h1
    omega
  have hrows : ∀ x4 S, evMk mkI (evComp [4] (itSeq (evCall c__law_states (evCons (evVar 1) evNil))) (tgN 4) evYes (evCall c__law_code_run (evCons (evVar 1) (evCons (evVar 2) (evCons (evVar 4) evNil))))) [some (.ref 0), some (grD g), some (codeD rows), none, x4, none, none] S = .ok (.lst ((allSt g.cells).map fun st => outD (outOf g rows st))) S := fun x4 S => by
    refine lc_of (comp_all (m := ⟨(allSt g.cells).map stD, fun _ => True⟩) stD (fun st => outD (outOf g rows st)) ?_ rfl trivial (fun st hs => ⟨[some (.ref 0), some (grD g), some (codeD rows), none, some (stD st), none, none], rfl, call_of (ds := [grD g, codeD rows, stD st]) rfl (law_run_of LG C (mem_allSt.mp hs) hN)⟩) (states_small G))
    unfold itSeq
    rw [call_of (ds := [grD g]) (S1 := S) rfl (law_states_ok G)]
    rfl
  refine dr_asg (A := fun d => d = .lst ((allSt g.cells).map fun st => outD (outOf g rows st))) (dr_fix (hrows none)) fun d e => ?_
  subst e
  show Dr (evSeq _ _ [some (.ref 0), some (grD g), some (codeD rows), some (.lst ((allSt g.cells).map fun st => outD (outOf g rows st))), none, none, none]) J _
  have col : ∀ (F : Out → D) (k : Int) (x4 x5 x6 : Option D) (S : Store), (∀ r S, ixD (outD r) (.int k) S = some (F r, S)) → evComp [5] (itSeq (evVar 3)) (tgN 5) evYes (evBin ixD (evVar 5) (evC (.int k))) [some (.ref 0), some (grD g), some (codeD rows), some (.lst ((allSt g.cells).map fun st => outD (outOf g rows st))), x4, x5, x6] S = .ok ((allSt g.cells).map fun st => F (outOf g rows st)) S := fun F k x4 x5 x6 S hF =>
    comp_all (m := ⟨(allSt g.cells).map fun st => outD (outOf g rows st), fun _ => True⟩) (fun st => outD (outOf g rows st)) (fun st => F (outOf g rows st)) rfl rfl trivial (fun st hs => ⟨[some (.ref 0), some (grD g), some (codeD rows), some (.lst ((allSt g.cells).map fun st => outD (outOf g rows st))), x4, some (outD (outOf g rows st)), x6], rfl, bin_of (a := outD (outOf g rows st)) (b := .int k) (S1 := S) (S2 := S) rfl rfl (hF _ _)⟩) (states_small G)
  obtain ⟨z, hz, hz2⟩ := long_most G C L hm h56
  refine dr_if (q := false) (pu_or (a := false) (b := false) (pu_test fun S => ?_) (pu_test fun S => ?_)) (fun h => nomatch h) fun _ => ?_
  · obtain ⟨m, hmx, hle⟩ := max_of (fun st => ((outOf g rows st).2 : Int)) (col (fun r => natD r.2) 1 none none none S fun r S => atI1) hz
    refine bin_of hmx (S2 := S) (b := .int 1700) rfl ?_
    have : decide (m < 1700) = false := decide_eq_false (by
      have : (1700 : Int) ≤ ((outOf g rows z).2 : Int) := by omega
      omega)
    show some (D.bl (decide (m < 1700)), S) = _
    rw [this]
  · have h1 := col (fun r => outD1 r.1) 0 none none none S fun r S => atI0
    refine bin_of (call_of (ds := [grD g, codeD rows]) rfl (code_table_ok LG C hN)) (tuple_of h1) ?_
    exact oNe_self (n := 3) (okN_tup_map _ _ fun st => okN_out1 _) (by decide)
  refine dr_asg (A := fun d => d = stD (g.kinds.map (·.2))) (dr_fix fun S => call_of (ds := [grD g]) rfl (prices_of_ok G)) fun d e => ?_
  subst e
  show Dr (evRet _ [some (.ref 0), some (grD g), some (codeD rows), some (.lst ((allSt g.cells).map fun st => outD (outOf g rows st))), none, none, some (stD (g.kinds.map (·.2)))]) J _
  refine dr_ret (dr_pu (d := .bl true) (fun S => ?_) rfl)
  refine bin_of (call_of (ds := [grD g, codeD rows]) rfl (meter_ok LG C hN)) (b := meterD g rows) (S2 := S) ?_ (oEq_self (n := 3) (okN_tup_map _ _ fun st => okN_due _ _) (by decide))
  refine tuple_of ?_
  refine comp_all (m := ⟨(allSt g.cells).map fun st => outD (outOf g rows st), fun _ => True⟩) (fun st => outD (outOf g rows st)) (fun st => dueD1 g (outOf g rows st)) rfl rfl trivial (fun st hs => ⟨[some (.ref 0), some (grD g), some (codeD rows), some (.lst ((allSt g.cells).map fun st => outD (outOf g rows st))), none, some (outD (outOf g rows st)), some (stD (g.kinds.map (·.2)))], rfl, ?_⟩) (states_small G)
  have hst := mem_allSt.mp hs
  obtain ⟨o, ho⟩ := long_all G C L hst
  have hok := (out_eq G C hst).2.2 o ho
  have hc := law_cost_ok (S := S) G hok.1 (small_of (by omega) hok.2)
  have e1 : dueD1 g (outOf g rows st) = .tup [natD (outOf g rows st).2, .int (costV g o.1)] := by
    unfold dueD1
    rw [ho]
  have e2 : outD (outOf g rows st) = .tup [outD1 (some o), natD (outOf g rows st).2] := by
    unfold outD
    rw [ho]
  rw [e1, e2]
  generalize natD (outOf g rows st).2 = w
  generalize some (D.lst ((allSt g.cells).map fun st => outD (outOf g rows st))) = x3
  have b1 : evBin ixD (evVar 5) (evC (.int 1)) [some (.ref 0), some (grD g), some (codeD rows), x3, none, some (.tup [outD1 (some o), w]), some (stD (g.kinds.map (·.2)))] S = .ok w S := bin_of (a := .tup [outD1 (some o), w]) (b := .int 1) (S1 := S) (S2 := S) rfl rfl atI1
  have b2 : evBin ixD (evVar 5) (evC (.int 0)) [some (.ref 0), some (grD g), some (codeD rows), x3, none, some (.tup [outD1 (some o), w]), some (stD (g.kinds.map (·.2)))] S = .ok (outD1 (some o)) S := bin_of (a := .tup [outD1 (some o), w]) (b := .int 0) (S1 := S) (S2 := S) rfl rfl atI0
  have b3 := bin_of (op := ixD) (fb := evC (.int 0)) (b := .int 0) (S2 := S) (S3 := S) (d := stD o.1) b2 rfl atI0
  have b4 : evCall c__law_cost (evCons (evVar 6) (evCons (evBin ixD (evBin ixD (evVar 5) (evC (.int 0))) (evC (.int 0))) evNil)) [some (.ref 0), some (grD g), some (codeD rows), x3, none, some (.tup [outD1 (some o), w]), some (stD (g.kinds.map (·.2)))] S = .ok (.int (costV g o.1)) S := by
    exact call_of (c := c__law_cost) (cons_of (pu_var rfl S) (cons1_of b3)) hc
  exact tup_of (cons_of b1 (cons1_of b4)) (of_decide_eq_true rfl)
end K84
end
section
set_option Elab.async false
set_option linter.all false
set_option maxRecDepth 100000
set_option maxHeartbeats 4000000
namespace K84
open PySem PySem.Spec PyProof.Rows L2 DL
local macro_rules | `(tactic| walk_at "ev") => `(tactic| simp only [evSeq, evIfS, evRet, evRetN, evVar, evC, evBin, evUn, p2, evNil, evCons, evTup, evLst, evNew, evTest, evAndT, evOrT, evNotT, evAnd, evOr, evNot, evIte, evIteT, evTruth, evChain, evCall, evCallO, evIsi, evAsg, evDrop, evMk, mkI, mkN, evNext, tgN, tgTup, tgCons, tgNil, asB, dTruth, notRef, isiD, bLen, oLe, oLt, oGe, oGt, oSub, oInt, oAdd, oIsN, oNotN, DL.isNon,
  bind_ok, bind_bad, ofO_some, ofO_none, Option.map_some, Option.map_none, List.getElem?_cons_zero, List.getElem?_cons_succ, List.set_cons_zero, List.set_cons_succ, List.length_cons, List.length_nil, if_true, if_false, Bool.false_eq_true, Bool.not_true, Bool.not_false, decide_true, decide_false, and_self, reduceIte, *])

/-! plain: the law -/
mutual
theorem noE_pure : ∀ d : D, pureD d = true → noE d = true
  | .non, _ => rfl
  | .bl _, _ => rfl
  | .int _, _ => rfl
  | .str _, _ => rfl
  | .tup ds, h => noEs_pure ds h
  | .lst ds, h => noEs_pure ds h
  | .ref _, _ => rfl
  | .exn _ _, h => by simp [pureD] at h
theorem noEs_pure : ∀ ds : List D, pureDs ds = true → noEs ds = true
  | [], _ => rfl
  | d :: ds, h => by
    have h' : (pureD d && pureDs ds) = true := h
    rw [Bool.and_eq_true] at h'
    show (noE d && noEs ds) = true
    rw [noE_pure d h'.1, noEs_pure ds h'.2]
    rfl
end
section
variable {J : Store} {δ : DEnv}
theorem dx_ifF {c : DEnv → Store → R Bool} {f g : DEnv → Store → R Fl} {Q : Fl → Store → Prop} (hc : Dr (c δ) J fun b => b = false) (hg : Dx (g δ) J Q) : Dx (evSeq (evIfS c f evNext) g δ) J Q := fun a b hb => by
  obtain ⟨q, a', b', e, h1, rfl⟩ := hc a b hb
  obtain ⟨d2, a2, b2, J2, e2, h3, h4⟩ := hg a' b' h1
  refine ⟨d2, a2, b2, J2, ?_, h3, h4⟩
  rw [seq_nx ((ifs_false e).trans rfl), e2]
theorem dx_ifE {c : DEnv → Store → R Bool} {f : DEnv → Store → R Fl} {Q : Fl → Store → Prop} (hc : Dr (c δ) J fun b => b = false) (hg : Q (.nx δ) J) : Dx (evIfS c f evNext δ) J Q := fun a b hb => by
  obtain ⟨q, a', b', e, h1, rfl⟩ := hc a b hb
  exact ⟨_, a', b', J, (ifs_false e).trans rfl, h1, hg⟩
theorem dr_fixJ {α : Type} {f : Store → R α} {d : α} (h : ∀ a b, f (src a b :: J) = .ok d (src a b :: J)) : Dr f J fun x => x = d := fun a b hb => ⟨d, a, b, h a b, hb, rfl⟩
theorem dr_testF {f : DEnv → Store → R D} (h : Dr (f δ) J fun d => d = .bl false) : Dr (evTest f δ) J fun b => b = false := fun a b hb => by
  obtain ⟨d, a', b', e, h1, rfl⟩ := h a b hb
  refine ⟨false, a', b', ?_, h1, rfl⟩
  show (f δ _).bind _ = _
  rw [e]
  rfl
theorem dr_binJ {op : D → D → Store → Option (D × Store)} {fa fb : DEnv → Store → R D} {a b d : D} (h1 : Dr (fa δ) J fun x => x = a) (h2 : Dr (fb δ) J fun x => x = b) (h3 : ∀ x y, op a b (src x y :: J) = some (d, src x y :: J)) : Dr (evBin op fa fb δ) J fun x => x = d := fun x y hb => by
  obtain ⟨z, a', b', e, h4, rfl⟩ := h1 x y hb
  obtain ⟨z2, a2, b2, e2, h5, rfl⟩ := h2 a' b' h4
  exact ⟨d, a2, b2, bin_of e e2 (h3 _ _), h5, rfl⟩
theorem dr_argsJ2 {fa fb : DEnv → Store → R D} {a b : D} (h1 : Dr (fa δ) J fun x => x = a) (h2 : Dr (fb δ) J fun x => x = b) : Dr (evCons fa (evCons fb evNil) δ) J fun ds => ds = [a, b] := dr_cons h1 fun _ e1 => dr_cons h2 fun _ e2 => dr_nil (by rw [e1, e2])
theorem dr_callJ {c : List D → Store → R D} {fr : DEnv → Store → R (List D)} {ds : List D} {d : D} (h : ∀ S, fr δ S = .ok ds S) (h2 : ∀ S, c ds S = .ok d S) : Dr (evCall c fr δ) J fun x => x = d := dr_fix fun S => call_of (h S) (h2 S)
theorem dx_par2N {f : DEnv → Store → R D} {g : DEnv → Store → R Fl} {i j : Nat} {A : D → Prop} {Q : Fl → Store → Prop} (hf : Dr (f δ) J A) (hg : ∀ d, A d → Dx (g ((δ.set i (some d)).set j (some (.ref (J.length + 1))))) (J ++ [DL.M.lst []]) Q) : Dx (evSeq (evPar2 i j (evCons f (evCons (evNew evNil) evNil))) g δ) J Q := fun a b hb => by
  obtain ⟨d, a', b', e, h1, hp⟩ := hf a b hb
  obtain ⟨d2, a2, b2, J2, e2, h3, h4⟩ := hg d hp a' b' h1
  refine ⟨d2, a2, b2, J2, ?_, h3, h4⟩
  have : evPar2 i j (evCons f (evCons (evNew evNil) evNil)) δ (src a b :: J) = .ok (.nx ((δ.set i (some d)).set j (some (.ref (J.length + 1))))) (src a' b' :: (J ++ [DL.M.lst []])) := by
    show (R.bind (R.bind (f δ _) _) _ : R Fl) = _
    rw [e]
    rfl
  rw [seq_nx this, e2]
theorem dx_asgT {f : DEnv → Store → R D} {tg : D → DEnv → Store → R DEnv} {g : DEnv → Store → R Fl} {A : D → Prop} {Q : Fl → Store → Prop} (hf : Dr (f δ) J A) (hg : ∀ d, A d → ∃ δ1, Pu (tg d δ) δ1 ∧ Dx (g δ1) J Q) : Dx (evSeq (evAsg f tg) g δ) J Q := fun a b hb => by
  obtain ⟨d, a', b', e, h1, hp⟩ := hf a b hb
  obtain ⟨δ1, ht, hg1⟩ := hg d hp
  obtain ⟨d2, a2, b2, J2, e2, h3, h4⟩ := hg1 a' b' h1
  refine ⟨d2, a2, b2, J2, ?_, h3, h4⟩
  rw [seq_nx (asg_of e (ht _)), e2]
end
/-- rows[k] of what stands last -/
theorem ix_ref {J : Store} {a b : Int} {xs : List D} {k : Int} {d : D} (h : L2.atI xs k = some d) : ixD (.ref (J.length + 1)) (.int k) (src a b :: (J ++ [DL.M.lst xs])) = some (d, src a b :: (J ++ [DL.M.lst xs])) := by
  unfold ixD
  simp only [List.getElem?_cons_succ, get_last]
  rw [h]
  rfl
theorem it_ref {J : Store} {a b : Int} {xs : List D} {δ : DEnv} {i : Nat} (h : δ[i]? = some (some (.ref (J.length + 1)))) : ∃ chk, itSeq (evVar i) δ (src a b :: (J ++ [DL.M.lst xs])) = .ok ⟨xs, chk⟩ (src a b :: (J ++ [DL.M.lst xs])) ∧ chk (src a b :: (J ++ [DL.M.lst xs])) := by
  refine ⟨fun S' => S'[J.length + 1]? = some (DL.M.lst xs), ?_, ?_⟩
  · unfold itSeq
    rw [pu_var h, bind_ok]
    unfold itmOf
    simp only [List.getElem?_cons_succ, get_last]
    rfl
  · show (src a b :: (J ++ [DL.M.lst xs]))[J.length + 1]? = some (.lst xs)
    rw [List.getElem?_cons_succ, get_last]
abbrev outF (g : Gr) (rows : List Rw) : List Int → D := fun st => outD (outOf g rows st)
noncomputable def lwI : DEnv → Store → R Fl := (evSeq (evDrop (evMeth mAppend (evVar 7) (evCons (evCall c__law_code_run (evCons (evVar 2) (evCons (evVar 6) (evCons (evVar 8) evNil)))) evNil)))
    (evIfS (evTest (evBin oNe (evCall c_run_code (evCons (evVar 2) (evCons (evVar 6) (evCons (evVar 8) evNil)))) (evBin ixD (evBin ixD (evVar 7) (evUn dNeg (evC (.int 1)))) (evC (.int 0))))) (evRet (evC (.bl false))) evNext))
abbrev lwD (L : D) (g : Gr) (rows : List Rw) (n : Nat) (x5 x8 x9 x10 : Option D) : DEnv := [some L, some (.ref 0), some (grD g), some (.lst ((allSt g.cells).map stD)), some (stD (g.kinds.map (·.2))), x5, some (codeD rows), some (.ref n), x8, x9, x10, none, none, none]
theorem lw_inner {g : Gr} {rows : List Rw} {J : Store} {L : D} {x5 x9 x10 : Option D} (LG : LawGr g) (C : GoodCode g rows) (hN : manyR g rows + 1 ≤ 100000) : ∀ (sts acc : List (List Int)) (x8 : Option D), (∀ st ∈ sts, InSt g.cells st) → acc.length + sts.length ≤ 1000 →
    Dx (forGo (fun _ => True) (tgN 8) lwI (sts.map stD) (lwD L g rows (J.length + 1) x5 x8 x9 x10)) (J ++ [DL.M.lst (acc.map (outF g rows))]) fun fl J' => ∃ x8', fl = .nx (lwD L g rows (J.length + 1) x5 x8' x9 x10) ∧ J' = J ++ [DL.M.lst ((acc ++ sts).map (outF g rows))]
  | [], acc, x8, _, _ => dx_go_nil (fun _ => trivial) ⟨x8, rfl, by rw [List.append_nil]⟩
  | st :: sts, acc, x8, hs, hl => by
    rw [List.length_cons] at hl
    rw [List.map_cons]
    have hst := hs st (List.mem_cons_self ..)
    refine dx_go_cons (δ1 := lwD L g rows (J.length + 1) x5 (some (stD st)) x9 x10) (fun _ => trivial) (fun S => rfl) ?_
    unfold lwI
    refine dx_seq (dx_append (P := fun d => d = outF g rows st) (dr_callJ (ds := [grD g, codeD rows, stD st]) (fun S => rfl) fun S => law_run_of LG C hst hN) rfl (by rw [List.length_map]; omega) fun d e => ⟨_, rfl, ?_⟩)
    subst e
    refine dx_ifE (dr_testF (dr_binJ (a := outD1 (outOf g rows st).1) (b := outD1 (outOf g rows st).1) (dr_callJ (ds := [grD g, codeD rows, stD st]) (fun S => rfl) fun S => run_code_of LG C hst hN) (dr_binJ (a := outF g rows st) (b := .int 0) (dr_binJ (a := .ref (J.length + 1)) (b := .int (-1)) (dr_fix (pu_var rfl)) (dr_fix fun S => rfl) fun x y => ix_ref at_last) (dr_fix fun S => rfl) fun x y => atI0) fun x y => oNe_self (okN_out1 _) (by decide))) ?_
    refine ⟨_, rfl, ?_⟩
    have ih := lw_inner (L := L) (x5 := x5) (x9 := x9) (x10 := x10) (J := J) LG C hN sts (acc ++ [st]) (some (stD st)) (fun s h => hs s (List.mem_cons_of_mem _ h)) (by rw [List.length_append, List.length_singleton]; omega)
    rw [List.map_append, List.append_assoc] at ih
    exact ih
noncomputable def lwB : DEnv → Store → R Fl := (evSeq (evPar2 6 7 (evCons (evCall c__law_code (evCons (evVar 1) (evCons (evVar 2) evNil))) (evCons (evNew evNil) evNil)))
    (evSeq (evFor (itSeq (evVar 3)) (tgN 8) lwI)
    (evSeq (evIfS (evTest (evBin oNe (evCall c_code_table (evCons (evVar 2) (evCons (evVar 6) evNil))) (evCallO bTuple (evCons (evMk mkI (evComp [9] (itSeq (evVar 7)) (tgN 9) evYes (evBin ixD (evVar 9) (evC (.int 0))))) evNil)))) (evRet (evC (.bl false))) evNext)
    (evSeq (evAsg (evMk mkI (evComp [9] (itSeq (evVar 7)) (tgN 9) evYes (evIte (evTest (evBin oIsN (evBin ixD (evVar 9) (evC (.int 0))) (evC .non))) (evC .non) (evTup (evCons (evBin ixD (evVar 9) (evC (.int 1))) (evCons (evCall c__law_cost (evCons (evVar 4) (evCons (evBin ixD (evBin ixD (evVar 9) (evC (.int 0))) (evC (.int 0))) evNil))) evNil)))))) (tgN 10))
    (evIfS (evTest (evBin oNe (evCall c_meter (evCons (evVar 2) (evCons (evVar 6) evNil))) (evCallO bTuple (evCons (evVar 10) evNil)))) (evRet (evC (.bl false))) evNext)))))
theorem outF_pures (g : Gr) (rows : List Rw) (sts : List (List Int)) : pureDs (sts.map (outF g rows)) = true := pures_map _ (fun st => outD_pure _) sts
theorem lw_body {g : Gr} {J : Store} {L : D} {x5 x6 x7 x8 x9 x10 : Option D} (M : MenuGr g) (hJ : J.all noEM = true) :
    Dx (lwB [some L, some (.ref 0), some (grD g), some (.lst ((allSt g.cells).map stD)), some (stD (g.kinds.map (·.2))), x5, x6, x7, x8, x9, x10, none, none, none]) J fun fl J' => ∃ rows n x8' x9' x10', fl = .nx (lwD L g rows n x5 x8' x9' x10') ∧ GoodCode g rows ∧ rows.length ≤ 9 ∧ J'.all noEM = true := by
  have G := M.good
  have LG := M.law
  unfold lwB
  refine dx_par2N (A := fun d => ∃ rows, d = codeD rows ∧ GoodCode g rows ∧ rows.length ≤ 9) (dr_call (A := fun ds => ds = [.ref 0, grD g]) (dr_argsJ2 (dr_fix (pu_var rfl)) (dr_fix (pu_var rfl))) fun ds e => by rw [e]; exact law_code_ok M) fun d ⟨rows, e, C, h9⟩ => ?_
  subst e
  show Dx (evSeq _ _ (lwD L g rows (J.length + 1) x5 x8 x9 x10)) (J ++ [DL.M.lst []]) _
  have hN : manyR g rows + 1 ≤ 100000 := by
    have h1 := M.states
    have h2 : manyR g rows ≤ 9 * 64 := Nat.mul_le_mul h9 h1
    omega
  have h64 := M.states
  refine dx_seq (dx_imp (Q := fun fl J' => ∃ x8', fl = .nx (lwD L g rows (J.length + 1) x5 x8' x9 x10) ∧ J' = J ++ [DL.M.lst ((allSt g.cells).map (outF g rows))]) ?_ fun fl J' ⟨x8', e1, e2⟩ => ⟨_, e1, ?_⟩)
  · exact lw_inner (acc := []) LG C hN (allSt g.cells) x8 (fun st h => mem_allSt.mp h) (by show 0 + _ ≤ _; omega)
  subst e2
  have col : ∀ (a b : Int) (fe : DEnv → Store → R D) (F : Out → D) (xa xb : Option D), (∀ (r : Out) st, st ∈ allSt g.cells → r = outOf g rows st → ∀ S, fe (lwD L g rows (J.length + 1) x5 x8' (some (outD r)) xb) S = .ok (F r) S) → evComp [9] (itSeq (evVar 7)) (tgN 9) evYes fe (lwD L g rows (J.length + 1) x5 x8' xa xb) (src a b :: (J ++ [DL.M.lst ((allSt g.cells).map (outF g rows))])) = .ok ((allSt g.cells).map fun st => F (outOf g rows st)) (src a b :: (J ++ [DL.M.lst ((allSt g.cells).map (outF g rows))])) := fun a b fe F xa xb hF => by
    obtain ⟨chk, h1, h2⟩ := it_ref (J := J) (a := a) (b := b) (xs := (allSt g.cells).map (outF g rows)) (δ := lwD L g rows (J.length + 1) x5 x8' xa xb) (i := 7) rfl
    exact comp_all (m := ⟨(allSt g.cells).map (outF g rows), chk⟩) (outF g rows) (fun st => F (outOf g rows st)) h1 rfl h2 (fun st hs => ⟨lwD L g rows (J.length + 1) x5 x8' (some (outF g rows st)) xb, rfl, hF _ st hs rfl _⟩) (states_small G)
  refine dx_ifF (dr_testF (dr_binJ (a := tableD g rows) (b := tableD g rows) (dr_callJ (ds := [grD g, codeD rows]) (fun S => rfl) fun S => code_table_ok LG C hN) (dr_fixJ fun a b => tuple_of (col a b _ (fun r => outD1 r.1) x9 x10 fun r st _ _ S => bin_of (a := outD r) (b := .int 0) (S1 := S) (S2 := S) rfl rfl atI0)) fun x y => oNe_self (n := 3) (okN_tup_map _ _ fun st => okN_out1 _) (by decide))) ?_
  refine dx_asg (A := fun d => d = .lst ((allSt g.cells).map fun st => dueD1 g (outOf g rows st))) (dr_fixJ fun a b => lc_of (col a b _ (fun r => dueD1 g r) x9 x10 fun r st hs er S => ?_)) fun d e => ?_
  · have hok := (out_eq G C (mem_allSt.mp hs)).2.2
    rw [← er] at hok
    have b2 : ∀ xb : Option D, evBin ixD (evVar 9) (evC (.int 0)) (lwD L g rows (J.length + 1) x5 x8' (some (outD r)) xb) S = .ok (outD1 r.1) S := fun xb => bin_of (a := outD r) (b := .int 0) (S1 := S) (S2 := S) rfl rfl atI0
    have b1 : ∀ xb : Option D, evBin ixD (evVar 9) (evC (.int 1)) (lwD L g rows (J.length + 1) x5 x8' (some (outD r)) xb) S = .ok (natD r.2) S := fun xb => bin_of (a := outD r) (b := .int 1) (S1 := S) (S2 := S) rfl rfl atI1
    cases hr : r.1 with
    | none =>
      have e1 : dueD1 g r = .non := by unfold dueD1; rw [hr]
      rw [e1]
      rw [hr] at b2
      have c1 : evTest (evBin oIsN (evBin ixD (evVar 9) (evC (.int 0))) (evC .non)) (lwD L g rows (J.length + 1) x5 x8' (some (outD r)) x10) S = .ok true S := by
        show (evBin oIsN (evBin ixD (evVar 9) (evC (.int 0))) (evC .non) _ S).bind _ = _
        rw [bin_of (b2 x10) (b := .non) (S2 := S) (d := .bl true) (S3 := S) rfl rfl]
        rfl
      show (evTest _ _ S).bind _ = _
      rw [c1]
      rfl
    | some o =>
      have e1 : dueD1 g r = .tup [natD r.2, .int (costV g o.1)] := by unfold dueD1; rw [hr]
      rw [e1]
      rw [hr] at b2
      have hok1 := hok o hr
      have hc := law_cost_ok (S := S) G hok1.1 (small_of (by omega) hok1.2)
      have c1 : evTest (evBin oIsN (evBin ixD (evVar 9) (evC (.int 0))) (evC .non)) (lwD L g rows (J.length + 1) x5 x8' (some (outD r)) x10) S = .ok false S := by
        show (evBin oIsN (evBin ixD (evVar 9) (evC (.int 0))) (evC .non) _ S).bind _ = _
        rw [bin_of (b2 x10) (b := .non) (S2 := S) (d := .bl false) (S3 := S) rfl rfl]
        rfl
      show (evTest _ _ S).bind _ = _
      rw [c1, bind_ok, if_neg (by decide)]
      have b3 := bin_of (op := ixD) (fb := evC (.int 0)) (b := .int 0) (S2 := S) (S3 := S) (d := stD o.1) (b2 x10) rfl atI0
      have b4 : evCall c__law_cost (evCons (evVar 4) (evCons (evBin ixD (evBin ixD (evVar 9) (evC (.int 0))) (evC (.int 0))) evNil)) (lwD L g rows (J.length + 1) x5 x8' (some (outD r)) x10) S = .ok (.int (costV g o.1)) S := by
        exact call_of (c := c__law_cost) (cons_of (pu_var rfl S) (cons1_of b3)) hc
      exact tup_of (cons_of (b1 x10) (cons1_of b4)) (of_decide_eq_true rfl)
  subst e
  show Dx (evIfS _ _ _ (lwD L g rows (J.length + 1) x5 x8' x9 (some (.lst ((allSt g.cells).map fun st => dueD1 g (outOf g rows st)))))) (J ++ [DL.M.lst ((allSt g.cells).map (outF g rows))]) _
  refine dx_ifE (dr_testF (dr_binJ (a := meterD g rows) (b := meterD g rows) (dr_callJ (ds := [grD g, codeD rows]) (fun S => rfl) fun S => meter_ok LG C hN) (dr_fix fun S => rfl) fun x y => oNe_self (n := 3) (okN_tup_map _ _ fun st => okN_due _ _) (by decide))) ⟨rows, J.length + 1, x8', x9, _, rfl, C, h9, ?_⟩
  rw [List.all_append, hJ]
  show (true && (noEs ((allSt g.cells).map (outF g rows)) && true)) = true
  rw [noEs_pure _ (outF_pures g rows _)]
  rfl
noncomputable def lwO : DEnv → Store → R Fl := (evIfS (evTest (evBin oNe (evCall c__law_refusal (evCons (evVar 2) (evCons (evVar 13) (evCons (evVar 11) evNil)))) (evTup (evCons (evC (.str "code")) (evCons (evUn dNeg (evC (.int 1))) evNil))))) (evRet (evC (.bl false))) evNext)
theorem src_noE {a b : Int} {J : Store} (hJ : J.all noEM = true) : (src a b :: J).all noEM = true := by
  rw [List.all_cons, hJ]
  rfl
theorem lw_odd {g : Gr} {J : Store} {odd : D} {y0 y1 y3 y4 y5 y6 y7 y8 y9 y10 y12 : Option D} (G : GoodGr g) (hJ : J.all noEM = true) : ∀ (ds : List D) (x13 : Option D), (∀ d ∈ ds, ∀ S, c_is_code [grD g, d] S = .ok (.bl false) S) →
    Dx (forGo (fun _ => True) (tgN 13) lwO ds [y0, y1, some (grD g), y3, y4, y5, y6, y7, y8, y9, y10, some odd, y12, x13]) J fun fl J' => (∃ δ', fl = .nx δ') ∧ J' = J
  | [], x13, _ => dx_go_nil (fun _ => trivial) ⟨⟨_, rfl⟩, rfl⟩
  | d :: ds, x13, h => by
    refine dx_go_cons (δ1 := [y0, y1, some (grD g), y3, y4, y5, y6, y7, y8, y9, y10, some odd, y12, some d]) (fun _ => trivial) (fun S => rfl) ?_
    unfold lwO
    refine dx_ifE (dr_testF (dr_binJ (a := .tup [.str "code", .int (-1)]) (b := .tup [.str "code", .int (-1)]) (dr_fixJ fun a b => call_of (ds := [grD g, d, odd]) rfl (refusal_code G (src_noE hJ) (h d (List.mem_cons_self ..) _))) (dr_fix fun S => rfl) fun x y => oNe_self (n := 1) (by decide +kernel) (by decide))) ?_
    exact ⟨_, rfl, lw_odd G hJ ds (some d) fun x hx => h x (List.mem_cons_of_mem _ hx)⟩
theorem gcOk_nil {d : D} {S : Store} (h : pureD d = true) : gcOk [] d S := ⟨cl_pure d h, fun n m hn => absurd hn (Nat.not_lt_zero _)⟩
end K84
end
section
set_option Elab.async false
set_option linter.all false
set_option maxRecDepth 100000
set_option maxHeartbeats 4000000
namespace K84
open PySem PySem.Spec PyProof.Rows L2 DL
local macro_rules | `(tactic| walk_at "ev") => `(tactic| simp only [evSeq, evIfS, evRet, evRetN, evVar, evC, evBin, evUn, p2, evNil, evCons, evTup, evLst, evNew, evTest, evAndT, evOrT, evNotT, evAnd, evOr, evNot, evIte, evIteT, evTruth, evChain, evCall, evCallO, evIsi, evAsg, evDrop, evMk, mkI, mkN, evNext, tgN, tgTup, tgCons, tgNil, asB, dTruth, notRef, isiD, bLen, oLe, oLt, oGe, oGt, oSub, oInt, oAdd, oIsN, oNotN, DL.isNon,
  bind_ok, bind_bad, ofO_some, ofO_none, Option.map_some, Option.map_none, List.getElem?_cons_zero, List.getElem?_cons_succ, List.set_cons_zero, List.set_cons_succ, List.length_cons, List.length_nil, if_true, if_false, Bool.false_eq_true, Bool.not_true, Bool.not_false, decide_true, decide_false, and_self, reduceIte, *])

/-! plain: the law holds -/
section
variable {J : Store} {δ : DEnv}
theorem dr_andF {fa fb : DEnv → Store → R Bool} (h1 : Dr (fa δ) J fun _ => True) (h2 : Dr (fb δ) J fun b => b = false) : Dr (evAndT fa fb δ) J fun b => b = false := fun a b hb => by
  obtain ⟨q, a', b', e, h3, _⟩ := h1 a b hb
  cases q with
  | true =>
    obtain ⟨q2, a2, b2, e2, h4, h5⟩ := h2 a' b' h3
    refine ⟨q2, a2, b2, ?_, h4, h5⟩
    show (fa δ _).bind _ = _
    rw [e, bind_ok, if_pos rfl, e2]
  | false =>
    refine ⟨false, a', b', ?_, h3, rfl⟩
    show (fa δ _).bind _ = _
    rw [e]
    rfl
theorem dr_testB {f : DEnv → Store → R D} (h : Dr (f δ) J fun d => ∃ b, d = .bl b) : Dr (evTest f δ) J fun _ => True := fun a b hb => by
  obtain ⟨d, a', b', e, h1, q, rfl⟩ := h a b hb
  refine ⟨q, a', b', ?_, h1, trivial⟩
  show (f δ _).bind _ = _
  rw [e]
  rfl
theorem dr_notTruth {f : DEnv → Store → R D} (h : Dr (f δ) J fun d => d = .bl true) : Dr (evNotT (evTruth f) δ) J fun b => b = false := fun a b hb => by
  obtain ⟨d, a', b', e, h1, rfl⟩ := h a b hb
  exact ⟨false, a', b', not_truth e, h1, rfl⟩
end
noncomputable def lwT : DEnv → Store → R Fl :=
    (evSeq (evIfS (evAndT (evTest (evBin oEq (evCall c__law_take (evCons (evVar 1) (evCons (evC (.int 12)) evNil))) (evC (.int 0)))) (evNotT (evTruth (evCall c__law_long_right (evCons (evVar 1) evNil))))) (evRet (evC (.bl false))) evNext)
    (evSeq (evAsg (evCall c__law_ground (evCons (evVar 1) evNil)) (tgN 2))
    (evSeq (evAsg (evTup (evCons (evCall c__law_states (evCons (evVar 2) evNil)) (evCons (evCall c__law_prices_of (evCons (evVar 2) evNil)) evNil))) (tgTup 2 (tgCons (tgN 3) (tgCons (tgN 4) tgNil))))
    (evSeq (evFor (itOf itmR1 (evCons (evC (.int 2)) evNil)) (tgN 5) lwB)
    (evSeq (evAsg (evCall c__law_one (evCons (evVar 1) (evCons (evCall c__law_odd_states (evCons (evVar 2) evNil)) evNil))) (tgN 11))
    (evSeq (evIfS (evTest (evBin oNe (evCall c__law_refusal (evCons (evVar 2) (evCons (evVar 6) (evCons (evVar 11) evNil)))) (evTup (evCons (evC (.str "state")) (evCons (evC (.int 0)) evNil))))) (evRet (evC (.bl false))) evNext)
    (evSeq (evAsg (evLst (evCons (evC .non) (evCons (evTup evNil) (evCons (evC (.str "code")) (evCons (evBin oAdd (evVar 6) (evTup (evCons (evTup (evCons (evC (.str "jump")) (evCons (evBin oAdd (evCallO bLen (evCons (evVar 6) evNil)) (evC (.int 1))) evNil))) evNil))) (evCons (evTup (evCons (evTup (evCons (evC (.str "jump")) evNil)) evNil)) evNil)))))) (tgN 12))
    (evSeq (evFor (itSeq (evBin oAdd (evVar 12) (evLst (evCons (evBin oAdd (evVar 6) (evTup (evCons (evTup (evCons (evC (.str "deed")) (evCons (evBin ixD (evBin ixD (evBin ixD (evVar 2) (evC (.int 1))) (evC (.int 0))) (evC (.int 0))) (evCons (evC (.int 0)) evNil)))) evNil))) evNil)))) (tgN 13) lwO)
    (evRet (evC (.bl true)))))))))))
theorem lw_tail {L : D} : Dx (lwT [some L, some (.ref 0), none, none, none, none, none, none, none, none, none, none, none, none]) [] fun fl _ => fl = .rt (.bl true) := by
  unfold lwT
  refine dx_ifF (dr_andF (dr_testB (dr_bin (A := fun d => ∃ i : Int, d = .int i ∧ 0 ≤ i ∧ i < 12) (B := fun d => d = .int 0) (dr_takeE (pu_var rfl) (fun S => rfl) (by decide) (by decide) fun i h1 h2 => ⟨i, rfl, h1, h2⟩) (dr_fix fun S => rfl) fun a b ha' hb => ?_)) (dr_notTruth (dr_call (A := fun ds => ds = [.ref 0]) (dr_cons (dr_fix (pu_var rfl)) fun _ e => dr_nil (by rw [e])) fun ds e => by rw [e]; exact law_long_right_ok))) ?_
  · obtain ⟨i, ha, _⟩ := ha'
    subst ha hb
    exact ⟨.bl (i == 0), fun S => iEq rfl, _, rfl⟩
  refine dx_asg (A := fun d => ∃ g, MenuGr g ∧ g.cells ∈ stdCells ∧ d = grD g) (dr_call (A := fun ds => ds = [.ref 0]) (dr_cons (dr_fix (pu_var rfl)) fun _ e => dr_nil (by rw [e])) fun ds e => by rw [e]; exact law_ground_ok) fun d ⟨g, M, hc, e⟩ => ?_
  subst e
  have G := M.good
  have LG := M.law
  show Dx (evSeq _ _ [some L, some (.ref 0), some (grD g), none, none, none, none, none, none, none, none, none, none, none]) [] _
  refine dx_asgT (A := fun d => d = .tup [.lst ((allSt g.cells).map stD), stD (g.kinds.map (·.2))]) (dr_tup (dr_cons (dr_callJ (ds := [grD g]) (fun S => rfl) fun S => law_states_ok G) fun _ e1 => dr_cons (dr_callJ (ds := [grD g]) (fun S => rfl) fun S => prices_of_ok G) fun _ e2 => dr_nil ?_)) fun d e => ⟨[some L, some (.ref 0), some (grD g), some (.lst ((allSt g.cells).map stD)), some (stD (g.kinds.map (·.2))), none, none, none, none, none, none, none, none, none], fun S => by rw [e]; rfl, ?_⟩
  · rw [e1, e2]
    exact ⟨of_decide_eq_true rfl, rfl⟩
  -- two codes
  refine dx_seq (dx_imp (Q := fun fl J' => ∃ δ', fl = .nx δ' ∧ ∃ (rows : List Rw) (n : Nat) (x5 x8 x9 x10 : Option D), δ' = lwD L g rows n x5 x8 x9 x10 ∧ GoodCode g rows ∧ rows.length ≤ 9 ∧ J'.all noEM = true) ?_ fun fl J' ⟨δ', e, rows, n, x5, x8, x9, x10, e2, C, h9, hJ⟩ => ⟨δ', e, ?_⟩)
  · show Dx (fun S => evFor (itOf itmR1 (evCons (evC (.int 2)) evNil)) (tgN 5) lwB _ S) [] _
    have hfor : ∀ S, evFor (itOf itmR1 (evCons (evC (.int 2)) evNil)) (tgN 5) lwB [some L, some (.ref 0), some (grD g), some (.lst ((allSt g.cells).map stD)), some (stD (g.kinds.map (·.2))), none, none, none, none, none, none, none, none, none] S = forGo (fun _ => True) (tgN 5) lwB [natD 0, natD 1] [some L, some (.ref 0), some (grD g), some (.lst ((allSt g.cells).map stD)), some (stD (g.kinds.map (·.2))), none, none, none, none, none, none, none, none, none] S := fun S => by
      rw [for_eq (range_small (n := 2) (by decide) rfl)]
      rfl
    have loop : Dx (forGo (fun _ => True) (tgN 5) lwB [natD 0, natD 1] [some L, some (.ref 0), some (grD g), some (.lst ((allSt g.cells).map stD)), some (stD (g.kinds.map (·.2))), none, none, none, none, none, none, none, none, none]) [] fun fl J' => ∃ δ', fl = .nx δ' ∧ ∃ (rows : List Rw) (n : Nat) (x5 x8 x9 x10 : Option D), δ' = lwD L g rows n x5 x8 x9 x10 ∧ GoodCode g rows ∧ rows.length ≤ 9 ∧ J'.all noEM = true := by
      refine dx_go_cons (δ1 := [some L, some (.ref 0), some (grD g), some (.lst ((allSt g.cells).map stD)), some (stD (g.kinds.map (·.2))), some (natD 0), none, none, none, none, none, none, none, none]) (fun _ => trivial) (fun S => rfl) (dx_imp (lw_body M rfl) fun fl J' ⟨rows, n, x8, x9, x10, e1, C, h9, hJ⟩ => ⟨_, e1, ?_⟩)
      refine dx_go_cons (δ1 := lwD L g rows n (some (natD 1)) x8 x9 x10) (fun _ => trivial) (fun S => rfl) (dx_imp (lw_body M hJ) fun fl J' ⟨rows, n, x8, x9, x10, e1, C, h9, hJ⟩ => ⟨_, e1, ?_⟩)
      exact dx_go_nil (fun _ => trivial) ⟨_, rfl, rows, n, _, x8, x9, x10, rfl, C, h9, hJ⟩
    intro a b hb
    obtain ⟨fl, a', b', J', e, h1, h2⟩ := loop a b hb
    exact ⟨fl, a', b', J', (hfor _).trans e, h1, h2⟩
  subst e2
  -- what is no state
  refine dx_asg (A := Odd g) (dr_oneP (pu_var rfl) fun a b hb => ?_) fun odd hodd => ?_
  · obtain ⟨ds, e1, h1, h2, h3⟩ := law_odd_ok (S := src a b :: J') G
    refine ⟨.lst ds, a, b, call_of (ds := [grD g]) rfl e1, hb, ds, .inr rfl, ?_, h2, h3, h1⟩
    clear e1 h2 h3
    induction ds with
    | nil => rfl
    | cons d ds ih =>
      show (pureD d && pureDs ds) = true
      rw [(h1 d (List.mem_cons_self ..)).1, ih fun x hx => h1 x (List.mem_cons_of_mem _ hx)]
      rfl
  show Dx (evSeq _ _ [some L, some (.ref 0), some (grD g), some (.lst ((allSt g.cells).map stD)), some (stD (g.kinds.map (·.2))), x5, some (codeD rows), some (.ref n), x8, x9, x10, some odd, none, none]) J' _
  refine dx_ifF (dr_testF (dr_binJ (a := .tup [.str "state", .int 0]) (b := .tup [.str "state", .int 0]) (dr_fixJ fun a b => call_of (ds := [grD g, codeD rows, odd]) rfl (refusal_state G C (src_noE hJ) (hodd.2 _))) (dr_fix fun S => rfl) fun x y => oNe_self (n := 1) (by decide +kernel) (by decide))) ?_
  -- what is no code
  obtain ⟨p, ps, hk⟩ : ∃ p ps, g.kinds = p :: ps := by
    cases h : g.kinds with
    | nil => have := M.kind; rw [h] at this; exact absurd this (by decide)
    | cons p ps => exact ⟨p, ps, rfl⟩
  have b1 : ∀ S, c_is_code [grD g, .tup (rows.map rowD ++ [rowD (.jump (rows.length + 1))])] S = .ok (.bl false) S := fun S => code_jump G C
  have b2 : ∀ S, c_is_code [grD g, .tup (rows.map rowD ++ [rowD (.deed p.1 0)])] S = .ok (.bl false) S := fun S => code_deed G C (by rw [show kns g = g.kinds.map (·.1) from rfl, hk]; simp)
  refine dx_asg (A := fun d => d = .lst [.non, .tup [], .str "code", .tup (rows.map rowD ++ [rowD (.jump (rows.length + 1))]), .tup [.tup [.str "jump"]]]) (dr_fix fun S => ?_) fun d e => ?_
  · have a1 : evBin oAdd (evVar 6) (evTup (evCons (evTup (evCons (evC (.str "jump")) (evCons (evBin oAdd (evCallO bLen (evCons (evVar 6) evNil)) (evC (.int 1))) evNil))) evNil)) [some L, some (.ref 0), some (grD g), some (.lst ((allSt g.cells).map stD)), some (stD (g.kinds.map (·.2))), x5, some (codeD rows), some (.ref n), x8, x9, x10, some odd, none, none] S = .ok (.tup (rows.map rowD ++ [rowD (.jump (rows.length + 1))])) S := by
      refine bin_of (a := codeD rows) (b := .tup [rowD (.jump (rows.length + 1))]) (S1 := S) (S2 := S) rfl ?_ (add_tup _ _ _ (by rw [sizeLine_eq, List.length_map]; show rows.length + 1 ≤ _; omega))
      show R.ok (D.tup [.tup [.str "jump", .int (((rows.map rowD).length : Nat) + 1 : Int)]]) S = _
      rw [List.length_map]
      rfl
    exact lst_of (cons_of (f := evC .non) rfl (cons_of (f := evTup evNil) rfl (cons_of (f := evC (.str "code")) rfl (cons_of a1 rfl)))) (of_decide_eq_true rfl)
  subst e
  show Dx (evSeq _ _ [some L, some (.ref 0), some (grD g), some (.lst ((allSt g.cells).map stD)), some (stD (g.kinds.map (·.2))), x5, some (codeD rows), some (.ref n), x8, x9, x10, some odd, some (.lst [.non, .tup [], .str "code", .tup (rows.map rowD ++ [rowD (.jump (rows.length + 1))]), .tup [.tup [.str "jump"]]]), none]) J' _
  have hit : ∀ S, itSeq (evBin oAdd (evVar 12) (evLst (evCons (evBin oAdd (evVar 6) (evTup (evCons (evTup (evCons (evC (.str "deed")) (evCons (evBin ixD (evBin ixD (evBin ixD (evVar 2) (evC (.int 1))) (evC (.int 0))) (evC (.int 0))) (evCons (evC (.int 0)) evNil)))) evNil))) evNil))) [some L, some (.ref 0), some (grD g), some (.lst ((allSt g.cells).map stD)), some (stD (g.kinds.map (·.2))), x5, some (codeD rows), some (.ref n), x8, x9, x10, some odd, some (.lst [.non, .tup [], .str "code", .tup (rows.map rowD ++ [rowD (.jump (rows.length + 1))]), .tup [.tup [.str "jump"]]]), none] S = .ok ⟨[.non, .tup [], .str "code", .tup (rows.map rowD ++ [rowD (.jump (rows.length + 1))]), .tup [.tup [.str "jump"]], .tup (rows.map rowD ++ [rowD (.deed p.1 0)])], fun _ => True⟩ S := fun S => by
    have k1 : evBin ixD (evBin ixD (evBin ixD (evVar 2) (evC (.int 1))) (evC (.int 0))) (evC (.int 0)) [some L, some (.ref 0), some (grD g), some (.lst ((allSt g.cells).map stD)), some (stD (g.kinds.map (·.2))), x5, some (codeD rows), some (.ref n), x8, x9, x10, some odd, some (.lst [.non, .tup [], .str "code", .tup (rows.map rowD ++ [rowD (.jump (rows.length + 1))]), .tup [.tup [.str "jump"]]]), none] S = .ok (.str p.1) S := by
      refine bin_of (a := kindD p) (b := .int 0) (S1 := S) (S2 := S) (bin_of (a := .tup (g.kinds.map kindD)) (b := .int 0) (S1 := S) (S2 := S) ((pu_gr rfl).2.1 S) rfl ?_) rfl atI0
      rw [hk]
      exact atI0
    have k2 : evTup (evCons (evTup (evCons (evC (.str "deed")) (evCons (evBin ixD (evBin ixD (evBin ixD (evVar 2) (evC (.int 1))) (evC (.int 0))) (evC (.int 0))) (evCons (evC (.int 0)) evNil)))) evNil) [some L, some (.ref 0), some (grD g), some (.lst ((allSt g.cells).map stD)), some (stD (g.kinds.map (·.2))), x5, some (codeD rows), some (.ref n), x8, x9, x10, some odd, some (.lst [.non, .tup [], .str "code", .tup (rows.map rowD ++ [rowD (.jump (rows.length + 1))]), .tup [.tup [.str "jump"]]]), none] S = .ok (.tup [rowD (.deed p.1 0)]) S := by
      exact tup_of (cons_of (tup_of (cons_of (f := evC (.str "deed")) rfl (cons_of k1 rfl)) (of_decide_eq_true rfl)) rfl) (of_decide_eq_true rfl)
    have k5 := bin_of (op := oAdd) (fa := evVar 6) (a := codeD rows) (S := S) (S1 := S) rfl k2 (add_tup (rows.map rowD) [rowD (.deed p.1 0)] S (by rw [sizeLine_eq, List.length_map]; show rows.length + 1 ≤ _; omega))
    have k6 : evLst (evCons (evBin oAdd (evVar 6) (evTup (evCons (evTup (evCons (evC (.str "deed")) (evCons (evBin ixD (evBin ixD (evBin ixD (evVar 2) (evC (.int 1))) (evC (.int 0))) (evC (.int 0))) (evCons (evC (.int 0)) evNil)))) evNil))) evNil) [some L, some (.ref 0), some (grD g), some (.lst ((allSt g.cells).map stD)), some (stD (g.kinds.map (·.2))), x5, some (codeD rows), some (.ref n), x8, x9, x10, some odd, some (.lst [.non, .tup [], .str "code", .tup (rows.map rowD ++ [rowD (.jump (rows.length + 1))]), .tup [.tup [.str "jump"]]]), none] S = .ok (.lst [.tup (rows.map rowD ++ [rowD (.deed p.1 0)])]) S := by
      exact lst_of (cons_of k5 rfl) (of_decide_eq_true rfl)
    have k7 := bin_of (op := oAdd) (fa := evVar 12) (a := .lst [.non, .tup [], .str "code", .tup (rows.map rowD ++ [rowD (.jump (rows.length + 1))]), .tup [.tup [.str "jump"]]]) (S := S) (S1 := S) (S3 := S) (d := .lst [.non, .tup [], .str "code", .tup (rows.map rowD ++ [rowD (.jump (rows.length + 1))]), .tup [.tup [.str "jump"]], .tup (rows.map rowD ++ [rowD (.deed p.1 0)])]) rfl k6 (by
      show (if 5 + 1 ≤ sizeLine then _ else none) = _
      exact if_pos (by rw [sizeLine_eq]; decide))
    unfold itSeq
    rw [k7]
    rfl
  refine dx_seq (dx_imp (Q := fun fl J2 => (∃ δ', fl = .nx δ') ∧ J2 = J') ?_ fun fl J2 ⟨⟨δ', e⟩, e2⟩ => ⟨δ', e, fun a b hb => ⟨_, a, b, J2, rfl, hb, rfl⟩⟩)
  intro a b hb
  have loop := lw_odd (odd := odd) (y0 := some L) (y1 := some (.ref 0)) (y3 := some (.lst ((allSt g.cells).map stD))) (y4 := some (stD (g.kinds.map (·.2)))) (y5 := x5) (y6 := some (codeD rows)) (y7 := some (.ref n)) (y8 := x8) (y9 := x9) (y10 := x10) (y12 := some (.lst [.non, .tup [], .str "code", .tup (rows.map rowD ++ [rowD (.jump (rows.length + 1))]), .tup [.tup [.str "jump"]]])) G hJ [.non, .tup [], .str "code", .tup (rows.map rowD ++ [rowD (.jump (rows.length + 1))]), .tup [.tup [.str "jump"]], .tup (rows.map rowD ++ [rowD (.deed p.1 0)])] none fun d hd S => by
    simp only [List.mem_cons, List.not_mem_nil, or_false] at hd
    rcases hd with rfl | rfl | rfl | rfl | rfl | rfl
    · exact code_odd G rfl rfl
    · exact code_none G
    · exact code_odd G rfl rfl
    · exact b1 S
    · exact code_short G
    · exact b2 S
  obtain ⟨fl, a', b', J2, e, h1, h2⟩ := loop a b hb
  exact ⟨fl, a', b', J2, (for_eq (hit _)).trans e, h1, h2⟩
theorem law_plain {ns : List Int} (hb : ∀ z ∈ ns, Builtin.Int.intBits z ≤ 1048576) : c_law [.lst (ns.map D.int)] [] = .ok (.bl true) [] := by
  obtain ⟨a, b, hs, hp⟩ := law_pool_ok hb
  generalize D.lst (ns.map D.int) = L at hp ⊢
  obtain ⟨fl, a', b', J', e, _, rfl⟩ := lw_tail (L := L) a b hs
  have hbody : b_law [some L, none, none, none, none, none, none, none, none, none, none, none, none, none] [] = .ok (.rt (.bl true)) (src a' b' :: J') := by
    rw [← e]
    exact seq_nx (asg_of (call_of (ds := [L, .int 0]) (S1 := []) rfl hp) rfl)
  show fnR .pl 1 14 b_law [L] [] = _
  unfold fnR
  rw [if_pos (show [L].length = 1 from rfl)]
  show gcR .pl [] ((b_law [some L, none, none, none, none, none, none, none, none, none, none, none, none, none] []).bind _) = _
  rw [hbody, bind_ok]
  exact if_pos (gcOk_nil rfl)
end K84
end
section
set_option Elab.async false
set_option linter.all false
set_option maxRecDepth 100000
set_option maxHeartbeats 0
theorem PySem.Challenge.cw_agedlaws_k84_codes_that_come_round_holds : PySem.Challenge.rw_agedlaws_k84_codes_that_come_round.Holds := by
  exact K84.holds_of fun ns _ hb => K84.law_plain hb
end
